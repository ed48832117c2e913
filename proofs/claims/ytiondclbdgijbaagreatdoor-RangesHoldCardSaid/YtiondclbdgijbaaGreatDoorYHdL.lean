import Derived.Test.YtiondclbdgijbaaGreatDoorYSh10
import Derived.Test.YtiondclbdgijbaaGreatDoorYVj
import Derived.Test.YtiondclbdgijbaaGreatDoorYVm
namespace Go.Proofs.YtiondclbdgijbaaGreatDoor
open Go.RowKit Tw
variable {K m:Nat} {t u:Int} {ns:List Nat}
def kqF (y:Ly) (k:Int):Rat:=match y.kern[k.toNat]? with | some x=>x.q | none=>0
def spot1 (y:Ly) (o row col:Int) (p i j:Nat):List (Int×Rat) :=
 if row+i<0 then [] else if y.high≤row+i then [] else if col+j<0 then [] else if y.wide≤col+j then []
 else [((p*y.high+(row+i))*y.wide+(col+j),kqF y (((o*y.ch+p)*y.kh+i)*y.kw+j))]
def spotJ (y:Ly) (o row col:Int) (p i j:Nat):List (Int×Rat):=(List.range j).flatMap (spot1 y o row col p i)
def spotI (y:Ly) (o row col:Int) (p i:Nat):List (Int×Rat):=(List.range i).flatMap fun i=>spotJ y o row col p i y.kw.toNat
def spotP (y:Ly) (o row col:Int) (p:Nat):List (Int×Rat):=(List.range p).flatMap fun p=>spotI y o row col p y.kh.toNat
theorem flatMap_range {α:Type} (f:Nat→List α) (n:Nat):(List.range (n+1)).flatMap f=(List.range n).flatMap f++f n:=by
 rw[List.range_succ,List.flatMap_append,List.flatMap_cons,List.flatMap_nil,eF]
theorem spotJ_succ (y:Ly) (o row col:Int) (p i j:Nat):spotJ y o row col p i (j+1)=spotJ y o row col p i j++spot1 y o row col p i j:=flatMap_range _ _
theorem spotI_succ (y:Ly) (o row col:Int) (p i:Nat):spotI y o row col p (i+1)=spotI y o row col p i++spotJ y o row col p i y.kw.toNat:=flatMap_range _ _
theorem spotP_succ (y:Ly) (o row col:Int) (p:Nat):spotP y o row col (p+1)=spotP y o row col p++spotI y o row col p y.kh.toNat:=flatMap_range _ _
theorem flatMap_le {α:Type} {f:Nat→List α} {n:Nat} (h:∀i,i<n→(f i).length≤K):((List.range n).flatMap f).length≤n*K:=by
 induction n with
 | zero=>simp
 | succ n ih =>
  rw[flatMap_range,eD,eG];have h1:=ih fun i hi=>h i zo;have h2:=h n zo;omega
theorem spot1_len (y:Ly) (o row col:Int) (p i j:Nat):(spot1 y o row col p i j).length≤1:=by
 unfold spot1;repeat (split;· simp)
 simp
theorem spotJ_len (y:Ly) (o row col:Int) (p i j:Nat):(spotJ y o row col p i j).length≤j:=by
 have:=flatMap_le (f:=spot1 y o row col p i) (n:=j) (K:=1) fun k _=>spot1_len y o row col p i k;unfold spotJ;omega
theorem spotI_len (y:Ly) (o row col:Int) (p i:Nat):(spotI y o row col p i).length≤i*y.kw.toNat:=flatMap_le fun k _=>spotJ_len y o row col p k _
theorem spotP_len (y:Ly) (o row col:Int) (p:Nat):(spotP y o row col p).length≤p*(y.kh.toNat*y.kw.toNat):=flatMap_le fun k _=>spotI_len y o row col k _
theorem spotP_at {y:Ly} {o row col:Int} {t:Int×Rat} (h0:0≤y.high) (h1:0≤y.wide) (h:t∈spotP y o row col y.ch.toNat):0≤t.1∧t.1<y.ch*y.high*y.wide∧∃k,t.2=kqF y k:=by
 obtain⟨p,hp,h⟩:=List.mem_flatMap.1 h;obtain⟨i,hi,h⟩:=List.mem_flatMap.1 h;obtain⟨j,hj,h⟩:=List.mem_flatMap.1 h;rw[zD] at hp hi hj;unfold spot1 at h
 repeat (split at h;· cases h)
 obtain rfl:=uC.1 h;have hp':(p:Int)+1≤y.ch:=zo;generalize hr:row+(i:Int)=r at *
 generalize hc:col+(j:Int)=c at *
 have a1:(p:Int)*y.high+r+1≤y.ch*y.high:=by
  have:=yC hp' h0;rw[Int.add_mul] at this;omega
 have a2:0≤(p:Int)*y.high+r:=zi (sF (Int.natCast_nonneg p) h0);have a3:=yC a1 h1;have a4:=sF a2 h1;rw[Int.add_mul] at a3;exact⟨by show 0≤_*_+c;omega,by show _*_+c<_;omega,_,rfl⟩
def nestC {α:Type} (f:Nat→Nat→Nat→α) (o r c:Nat):List α:=(List.range c).map (f o r)
def nestR {α:Type} (f:Nat→Nat→Nat→α) (C o r:Nat):List α:=(List.range r).flatMap fun r=>nestC f o r C
def nestO {α:Type} (f:Nat→Nat→Nat→α) (R C o:Nat):List α:=(List.range o).flatMap fun o=>nestR f C o R
theorem nestC_succ {α:Type} (f:Nat→Nat→Nat→α) (o r c:Nat):nestC f o r (c+1)=nestC f o r c++[f o r c]:=by unfold nestC;rw[List.range_succ,cF];rfl
theorem nestR_succ {α:Type} (f:Nat→Nat→Nat→α) (C o r:Nat):nestR f C o (r+1)=nestR f C o r++nestC f o r C:=flatMap_range _ _
theorem nestO_succ {α:Type} (f:Nat→Nat→Nat→α) (R C o:Nat):nestO f R C (o+1)=nestO f R C o++nestR f C o R:=flatMap_range _ _
theorem flatMap_eq {α:Type} {f:Nat→List α} {n:Nat} (h:∀i,(f i).length=K):((List.range n).flatMap f).length=n*K:=by
 induction n with
 | zero=>simp
 | succ n ih=>rw[flatMap_range,eD,eG,ih,h]
theorem nestC_len {α:Type} (f:Nat→Nat→Nat→α) (o r c:Nat):(nestC f o r c).length=c:=by unfold nestC;rw[nA,List.length_range]
theorem nestR_len {α:Type} (f:Nat→Nat→Nat→α) (C o r:Nat):(nestR f C o r).length=r*C:=flatMap_eq fun _=>nestC_len ..
theorem nestO_len {α:Type} (f:Nat→Nat→Nat→α) (R C o:Nat):(nestO f R C o).length=o*(R*C):=flatMap_eq fun _=>nestR_len ..
theorem nestO_mem {α:Type} {f:Nat→Nat→Nat→α} {R C o:Nat} {x:α} (h:x∈nestO f R C o):∃a b c,a<o∧b<R∧c<C∧x=f a b c:=by
 obtain⟨a,ha,h⟩:=List.mem_flatMap.1 h;obtain⟨b,hb,h⟩:=List.mem_flatMap.1 h;obtain⟨c,hc,h⟩:=xC.1 h;exact⟨a,b,c,zD.1 ha,zD.1 hb,zD.1 hc,h.symm⟩
def cRows (y:Ly):Nat:=(cHigh y / y.st+1).toNat
def cCols (y:Ly):Nat:=(cWide y / y.st+1).toNat
def bqF (y:Ly) (k:Nat):Rat:=match y.bias[k]? with | some x=>x.q | none=>0
def spotV (y:Ly) (o r c:Nat):List (Int×Rat):=nrm (spotP y o (r*y.st-y.pad) (c*y.st-y.pad) y.ch.toNat)
def valL (y:Ly):Lv :=
 if y.kind=2 then⟨1,nestO (spotV y) (cRows y) (cCols y) y.out.toNat,nestO (fun o _ _=>bqF y o) (cRows y) (cCols y) y.out.toNat,[]⟩
 else⟨y.kind,y.rows.map fun v=>prs v.L,y.bias.map fun x=>x.q,y.groups.map fun g=>g.L⟩
structure LowOf (y y':Ly):Prop where
 kind:y'.kind≠2
 val:valL y'=valL y
 fits:∀{n u t:Int},zAc y n=some (u,t)→∃t',t'≤t∧zAc y' n=some (u,t')
def LowsOf:List Ly→List Ly→Prop
 | [],[]=>True
 | y :: L,y' :: L'=>LowOf y y'∧LowsOf L L'
 | _,_=>False
theorem LowsOf.snoc:∀{L L':List Ly} {y y':Ly},LowsOf L L'→LowOf y y'→LowsOf (L++[y]) (L'++[y'])
 | [],[],_,_,_,h=>⟨h,trivial⟩
 | _ :: _,_ :: _,_,_,h,k=>⟨h.1,LowsOf.snoc h.2 k⟩
 | [],_ :: _,_,_,h,_=>h.elim
 | _ :: _,[],_,_,h,_=>h.elim
theorem LowsOf.vals:∀{L L':List Ly},LowsOf L L'→L'.map valL=L.map valL∧L'.length=L.length∧∀y'∈L',y'.kind≠2
 | [],[],_=>⟨rfl,rfl,fun _ h=>(by cases h)⟩
 | y :: L,y' :: L',h=>by
  have h1:=LowsOf.vals h.2;refine⟨by rw[fG,fG,h1.1,h.1.val],by rw[cC,cC,h1.2.1],fun z hz=>?_⟩;rcases rB.1 hz with rfl | hz
  ·exact h.1.kind
  ·exact h1.2.2 z hz
 | [],_ :: _,h=>h.elim
 | _ :: _,[],h=>h.elim
theorem steps_low:∀{L L':List Ly} {n s s':Int} {l:List Int},LowsOf L L'→stepsF L n s=.ok l→s'≤s→stepsF L' n s'=.ok l
 | [],[],_,_,_,_,_,h,_=>h
 | y :: L,y' :: L',n,s,s',l,h,hs,hle=>by
  rw[steps_cons] at hs ⊢;cases hb:zAc y n with
  | none=>rw[hb] at hs;cases hs
  | some p =>
   obtain⟨u,t⟩:=p;obtain⟨t',ht,hb'⟩:=h.1.fits hb;rw[hb] at hs;rw[hb'];simp only at hs ⊢
   split at hs
   ·cases hs
   ·rename_i h1
    rw[dA h1];split at hs
    ·cases hs
    ·rename_i h2
     rw[dA zo];cases hr:stepsF L u (s+t) with
     | error e=>rw[hr] at hs;cases hs
     | ok l2=>rw[steps_low (s':=s'+t') h.2 hr zo];rw[hr] at hs;exact hs
 | [],_ :: _,_,_,_,_,h,_,_=>h.elim
 | _ :: _,[],_,_,_,_,h,_,_=>h.elim
theorem sizes_low {L L':List Ly} {n:Int} {l:List Int} (h:LowsOf L L') (hs:sizesF n L=.ok l):sizesF n L'=.ok l:=by
 unfold sizesF at hs ⊢
 split at hs
 ·cases hs
 ·rename_i h1
  rw[dA h1];split at hs
  ·cases hs
  ·rename_i h2
   rw[dA h2];split at hs
   ·cases hs
   ·rename_i h3
    rw[h.vals.2.1,dA h3];exact steps_low h hs (Int.le_refl _)
theorem steps_get:∀{L:List Ly} {n s:Int} {l:List Int},stepsF L n s=.ok l→∀{i:Nat} {y:Ly},L[i]?=some y→∃a b t,l[i]?=some a∧l[i+1]?=some b∧zAc y a=some (b,t)∧b≤256
 | [],_,_,_,_,_,_,hz=>by cases hz
 | y :: L,n,s,l,h,i,z,hz=>by
  rw[steps_cons] at h;cases hb:zAc y n with
  | none=>rw[hb] at h;cases h
  | some p =>
   obtain⟨u,t⟩:=p;rw[hb] at h;simp only at h
   split at h
   ·cases h
   ·rename_i g1
    split at h
    ·cases h
    ·cases hr:stepsF L u (s+t) with
     | error e=>rw[hr] at h;cases h
     | ok l2 =>
      rw[hr] at h;cases h;cases i with
      | zero=>cases hz;exact⟨n,u,t,rfl,(steps_ok hr).2,hb,zo⟩
      | succ i=>exact steps_get hr hz
theorem steps_pos {w:World}:∀{L:List Ly} {n s:Int} {l:List Int},(∀y∈L,LyOk w m y)→stepsF L n s=.ok l→1≤n→n≤256→∀a∈l,1≤a∧a≤256
 | [],n,s,l,_,h,h1,h2=>by cases h;intro a ha;obtain rfl:=uC.1 ha;exact⟨h1,h2⟩
 | y :: L,n,s,l,hk,h,h1,h2=>by
  rw[steps_cons] at h;cases hb:zAc y n with
  | none=>rw[hb] at h;cases h
  | some p =>
   obtain⟨u,t⟩:=p;rw[hb] at h;simp only at h
   split at h
   ·cases h
   ·rename_i g1
    split at h
    ·cases h
    ·cases hr:stepsF L u (s+t) with
     | error e=>rw[hr] at h;cases h
     | ok l2 =>
      rw[hr] at h;cases h;have h3:=behind_bd (hk y (kB ..)) h1 h2 hb;intro a ha;rcases rB.1 ha with rfl | ha
      ·exact⟨h1,h2⟩
      ·exact steps_pos (fun z hz=>hk z (jB _ hz)) hr h3.1 zo a ha
theorem hd_rise {n:Int}:∀{P:List (Int×Rat)} {a:Int},Rise P→(∀t∈P,a≤t.1∧t.1<n)→a≤n→(P.length:Int)≤n-a
 | [],a,_,_,h=>by rw[List.length_nil];omega
 | x :: P,a,hr,hp,h=>by
  have h1:=Rise.cons.1 hr;have h2:=hp x (kB ..);have h3:=hd_rise (n:=n) (a:=x.1+1) h1.2 (fun t ht=>by have:=h1.1 t ht;have:=hp t (jB _ ht);omega) zo;rw[cC];omega
theorem hd_mem {L:List (Int×Rat)} {x:Int×Rat} (h:x∈nrm L):∃y∈L,y.1=x.1:=by
 by_cases e:∃y∈L,y.1=x.1
 ·exact e
 ·have h1:=(nrm_nrm L).rise.get h;rw[nrm_get,pget_none (fun y hy e2=>e ⟨y,hy,e2⟩)] at h1;exact absurd h1.symm ((nrm_nrm L).nz x h)
theorem aff_some {y:Ly} {n:Int} (h:zAg y n=some (u,t)):plainB y=true∧y.gn=0∧y.rn≠0∧y.rn=y.bn∧(y.rows.all fun v=>rightB v.L n)=true∧(y.bias.all fun x=>x.ex)=true∧u=y.rn∧t=lens y.rows:=by
 unfold zAg at h
 (repeat' split at h)<;>simp_all
theorem aff_of {y:Ly} {n:Int} (h1:plainB y=true) (h2:y.gn=0) (h3:y.rn≠0) (h4:y.rn=y.bn) (h5:(y.rows.all fun v=>rightB v.L n)=true) (h6:(y.bias.all fun x=>x.ex)=true):zAg y n=some ((y.rn:Int),(lens y.rows:Int)):=by
 unfold zAg
 rw[dA (by rw[h1];decide),dA zo,dA h3,dA (fun h=>h h4),dA (by rw[h5];decide),dA (by rw[h6];decide)]
theorem pool_some {y:Ly} {n:Int} (h:poolF y n=some (u,t)):plainB y=true∧y.rn=0∧y.bn=0∧y.gn≠0∧(y.groups.all fun v=>groupB n v)=true∧u=y.gn∧t=glens y.groups:=by
 unfold poolF at h
 (repeat' split at h)<;>simp_all
theorem pool_of {y:Ly} {n:Int} (h1:plainB y=true) (h2:y.rn=0) (h3:y.bn=0) (h4:y.gn≠0) (h5:(y.groups.all fun v=>groupB n v)=true):poolF y n=some ((y.gn:Int),(glens y.groups:Int)):=by
 unfold poolF
 rw[dA (by rw[h1];decide),dA zo,dA zo,dA h4,dA (by rw[h5];decide)]
theorem lens_eq {L:List Vc} (h:∀v∈L,v.L.length=v.n):lens L=((L.map fun v=>prs v.L).map List.length).sum:=by
 unfold lens
 rw[List.map_map];congr 1
 exact List.map_congr_left fun v hv=>by rw[Function.comp,prs_len,h v hv]
theorem glens_eq {L:List Gp} (h:∀v∈L,v.L.length=v.n):glens L=((L.map fun v=>v.L).map List.length).sum:=by
 unfold glens
 rw[List.map_map];congr 1
 exact List.map_congr_left fun v hv=>by rw[Function.comp,h v hv]
def groupL (n:Int) (l:List Int):Bool:=decide (0<l.length)&&risesB n (-1) l
theorem groups_eq {L:List Gp} (h:∀v∈L,v.L.length=v.n) (n:Int):(L.all fun v=>groupB n v)=(L.map fun v=>v.L).all (groupL n):=by
 rw[List.all_map];rw[Bool.eq_iff_iff,sB,sB];refine forall_congr' fun v=>forall_congr' fun hv=>?_;show groupB n v=true↔groupL n v.L=true
 unfold groupB groupL
 rw[h v hv]
theorem rises_in {n:Int}:∀{l:List Int} {a:Int},risesB n a l=true→∀x∈l,a<x∧x<n
 | [],_,_,_,h=>by cases h
 | y :: l,a,h,x,hx=>by
  have h1:((decide (a<y)&&decide (y<n))&&risesB n y l)=true:=h;rw[dB,dB,wB,wB] at h1;rcases rB.1 hx with rfl | hx
  ·exact h1.1
  ·have:=rises_in h1.2 x hx;omega
structure SameOf (y y':Ly):Prop where
 kind:y'.kind=y.kind
 ints:nums y'=nums y
 rows:(y'.rows.map fun v=>prs v.L)=y.rows.map fun v=>nrm (prs v.L)
 rex:∀v∈y'.rows,∀t∈v.L,t.x.ex=true
 bias:(y'.bias.map fun x=>x.q)=y.bias.map fun x=>x.q
 bex:∀x∈y'.bias,x.ex=true
 groups:(y'.groups.map fun g=>g.L)=y.groups.map fun g=>g.L
 lens:y'.rn=y.rn∧y'.bn=y.bn∧y'.kn=y.kn∧y'.gn=y.gn
theorem SameOf.plain {y y':Ly} (h:SameOf y y'):plainB y'=plainB y:=by unfold plainB;rw[h.ints,h.lens.2.2.1]
theorem LyOk.rl {w:World} {y:Ly} (h:LyOk w m y):∀v∈y.rows,v.L.length=v.n:=fun v hv=>(h.rok v hv).1.1
theorem LyOk.gl {w:World} {y:Ly} (h:LyOk w m y):∀v∈y.groups,v.L.length=v.n:=fun v hv=>(h.gok v hv).1.1
theorem rows_self {R R':List Vc} {n:Int} (h:(R'.map fun v=>prs v.L)=R.map fun v=>nrm (prs v.L)) (hx:∀v∈R',∀t∈v.L,t.x.ex=true) (hr:(R.all fun v=>rightB v.L n)=true) :
  (R'.map fun v=>prs v.L)=(R.map fun v=>prs v.L)∧(R'.all fun v=>rightB v.L n)=true:=by
 have h0:=sB.1 hr;have h1:(R'.map fun v=>prs v.L)=R.map fun v=>prs v.L:=h.trans (List.map_congr_left fun v hv=>(rightB_nrm (h0 v hv)).1.self);refine⟨h1,sB.2 fun v hv=>?_⟩;obtain⟨u,hu,e⟩:=xC.1 (h1 ▸ cE (f:=fun v:Vc=>prs v.L) hv);have h2:=rightB_nrm (h0 u hu);rw[show prs u.L=prs v.L from e] at h2;refine rightB_of h2.1 fun t ht=>?_;have h3:(t.at_,t.x.q)∈prs u.L:=by rw[show prs u.L=prs v.L from e];exact cE (f:=fun t:Tm=>(t.at_,t.x.q)) ht
 obtain⟨s,hs,e2⟩:=prs_mem h3;have h4:=(rightB_nrm (h0 u hu)).2 s hs;have h5:t.at_=s.at_:=congrArg Prod.fst e2;exact⟨zo,zo,hx v hv t ht⟩
theorem same_low {w w':World} {m':Nat} {y y':Ly} (h:SameOf y y') (hy:LyOk w m y) (hy':LyOk w' m' y') (hk:y.kind≠2) {n0 u0 t0:Int} (h0:zAc y n0=some (u0,t0)):LowOf y y':=by
 have key:∀{n u t:Int},zAc y n=some (u,t)→zAc y' n=some (u,t)∧valL y'=valL y:=by
  intro n u t hb;have hl:=h.lens;have hv:(y'.rows.map fun v=>prs v.L)=(y.rows.map fun v=>prs v.L)→valL y'=valL y:=fun e=>by
   unfold valL;rw[h.kind,dA hk,dA hk,e,h.bias,h.groups]
  have nil:∀{R:List Vc} {k:Nat},R.length=k→k=0→R=[]:=fun e1 e2=>rC zo;unfold zAc at hb ⊢
  rw[h.kind];by_cases k1:y.kind=1
  ·rw[bB k1] at hb ⊢;obtain⟨a1,a2,a3,a4,a5,a6,rfl,rfl⟩:=aff_some hb;have r:=rows_self h.rows h.rex a5;rw[aff_of (h.plain.trans a1) zo zo zo r.2 (sB.2 h.bex),lens_eq hy'.rl,r.1,←lens_eq hy.rl,hl.1];exact⟨rfl,hv r.1⟩
  ·rw[dA k1,dA hk] at hb ⊢;by_cases k3:y.kind=3
   ·rw[bB k3] at hb ⊢;cases hr:reluB y with
    | false=>rw[dA (by rw[hr];decide)] at hb;cases hb
    | true =>
     rw[bB hr] at hb;cases hb;unfold reluB at hr
     rw[dB,dB,dB,wB,wB,wB] at hr;have e:reluB y'=true:=by
      unfold reluB
      rw[h.plain,hr.1,hl.1,hl.2.1,hl.2.2.2,hr.2.1,hr.2.2.1,hr.2.2.2];rfl
     rw[bB e];refine⟨rfl,hv ?_⟩;rw[nil (R:=y'.rows) hy'.rows.1 zo,nil (R:=y.rows) hy.rows.1 zo]
   ·rw[dA k3] at hb ⊢;by_cases k4:y.kind=4
    ·rw[bB k4] at hb ⊢;obtain⟨a1,a2,a3,a4,a5,rfl,rfl⟩:=pool_some hb;have e:=groups_eq hy'.gl n;rw[h.groups,←groups_eq hy.gl n] at e;rw[pool_of (h.plain.trans a1) zo zo zo (e.trans a5),glens_eq hy'.gl,h.groups,←glens_eq hy.gl,hl.2.2.2];refine⟨rfl,hv ?_⟩;rw[nil (R:=y'.rows) hy'.rows.1 zo,nil (R:=y.rows) hy.rows.1 zo]
    ·rw[dA k4] at hb;cases hb
 exact⟨by rw[h.kind];exact hk,(key h0).2,fun hb=>⟨_,Int.le_refl _,(key hb).1⟩⟩
structure ConvOf (y y':Ly):Prop where
 kind:y'.kind=1
 ints:nums y'=[0,0,0,0,0,0,0,0]
 rows:(y'.rows.map fun v=>prs v.L)=nestO (spotV y) (cRows y) (cCols y) y.out.toNat
 rex:∀v∈y'.rows,∀t∈v.L,t.x.ex=true
 bias:(y'.bias.map fun x=>x.q)=nestO (fun o _ _=>bqF y o) (cRows y) (cCols y) y.out.toNat
 bex:∀x∈y'.bias,x.ex=true
 groups:y'.groups=[]
 lens:y'.kn=0∧y'.gn=0
theorem ite_none {α:Type} {c:Prop} [Decidable c] {x:Option α} {z:α} (h:(if c then none else x)=some z):¬c∧x=some z:=by
 by_cases g:c
 ·rw[bB g] at h;cases h
 ·rw[dA g] at h;exact⟨g,h⟩
theorem conv_some {y:Ly} {n:Int} (h:convF y n=some (u,t)):((sides y).all fun z=>decide (1≤z)&&decide (z≤256))=true∧0≤y.pad∧y.pad<y.kh∧y.pad<y.kw∧y.ch*y.high*y.wide=n∧0≤cHigh y∧0≤cWide y∧(y.kn:Int)=y.out*cEach y∧(y.bn:Int)=y.out∧y.rn=0∧y.gn=0∧(y.kern.all fun x=>x.ex)=true∧(y.bias.all fun x=>x.ex)=true∧u=cUnits y∧t=cUnits y*cEach y:=by
 unfold convF at h
 obtain⟨g0,h⟩:=ite_none h;obtain⟨g1,h⟩:=ite_none h;obtain⟨g2,h⟩:=ite_none h;obtain⟨g3,h⟩:=ite_none h;obtain⟨g4,h⟩:=ite_none h;obtain⟨g5,h⟩:=ite_none h;obtain⟨g6,h⟩:=ite_none h;obtain⟨g7,h⟩:=ite_none h;obtain⟨g8,h⟩:=ite_none h;obtain⟨g9,h⟩:=ite_none h;obtain⟨g10,h⟩:=ite_none h;obtain⟨g11,h⟩:=ite_none h;obtain⟨g12,h⟩:=ite_none h;cases h;exact⟨by cases e:(sides y).all fun z=>decide (1≤z)&&decide (z≤256) with
  | true=>rfl
  | false=>exact absurd e g0,zo,zo,zo,Decidable.not_not.1 g4,zo,zo,Decidable.not_not.1 g7,Decidable.not_not.1 g8,zo,zo,by cases e:y.kern.all fun x=>x.ex with
  | true=>rfl
  | false=>exact absurd e g11,by cases e:y.bias.all fun x=>x.ex with
  | true=>rfl
  | false=>exact absurd e g12,rfl,rfl⟩
theorem nums_units {y:Ly} (h0:1≤y.out) (h1:0≤cHigh y / y.st) (h2:0≤cWide y / y.st):((y.out.toNat*(cRows y*cCols y):Nat):Int)=cUnits y:=by
 unfold cUnits cRows cCols
 rw[pF,pF,wC zo,wC zo,wC zo,Int.mul_assoc]
theorem sum_le {l:List Nat} (h:∀x∈l,x≤K):l.sum≤l.length*K:=by
 induction l with
 | nil=>simp
 | cons x l ih =>
  rw[List.sum_cons,cC,eG];have h1:=h x (kB ..);have h2:=ih fun z hz=>h z (jB _ hz);omega
theorem conv_low {w':World} {m':Nat} {y y':Ly} (h:ConvOf y y') (hy':LyOk w' m' y') (hk:y.kind=2):LowOf y y':=by
 refine⟨by rw[h.kind];decide,?_,fun {n u t} hb=>?_⟩
 ·unfold valL
  rw[dA (by rw[h.kind];decide),bB hk,h.rows,h.bias,h.kind,h.groups];rfl
 ·unfold zAc at hb ⊢
  rw[dA zo,bB hk] at hb;rw[bB h.kind];obtain⟨c1,c2,c3,c4,c5,c6,c7,c8,c9,c10,c11,c12,c13,rfl,rfl⟩:=conv_some hb;have so:=sides_ok c1;have s1:1≤y.ch∧1≤y.high∧1≤y.wide∧1≤y.out∧1≤y.kh∧1≤y.kw∧1≤y.st:=by
   have:=sB.1 c1;simp only[sides,rB,rF,or_false,forall_eq_or_imp,forall_eq,dB,wB] at this
   omega
  have q1:0≤cHigh y / y.st:=nF c6 zo;have q2:0≤cWide y / y.st:=nF c7 zo;have nu:=nums_units s1.2.2.2.1 q1 q2;have rl:y'.rn=y.out.toNat*(cRows y*cCols y):=by
   have:=congrArg List.length h.rows;rw[nA,nestO_len,hy'.rows.1] at this;exact this
  have bl:y'.bn=y.out.toNat*(cRows y*cCols y):=by
   have:=congrArg List.length h.bias;rw[nA,nestO_len,hy'.bias.1] at this;exact this
  have pos:1≤y.out.toNat*(cRows y*cCols y):=by
   have a1:1≤cRows y:=by unfold cRows;omega
   have a2:1≤cCols y:=by unfold cCols;omega
   exact xE (show 1≤y.out.toNat by omega) (xE a1 a2)
  have hrow:∀v∈y'.rows,∃o r c:Nat,prs v.L=spotV y o r c:=fun v hv=>by
   have:=cE (f:=fun v:Vc=>prs v.L) hv;rw[h.rows] at this;obtain⟨o,r,c,_,_,_,e⟩:=nestO_mem this;exact⟨o,r,c,e⟩
  have hright:(y'.rows.all fun v=>rightB v.L n)=true:=sB.2 fun v hv=>by
   obtain⟨o,r,c,e⟩:=hrow v hv;have hn:Nrm (prs v.L):=by rw[e];exact nrm_nrm _
   refine rightB_of hn fun t ht=>?_;have h1:(t.at_,t.x.q)∈spotV y o r c:=by rw[←e];exact cE (f:=fun t:Tm=>(t.at_,t.x.q)) ht
   obtain⟨z,hz,e2⟩:=hd_mem h1;have h2:=spotP_at zo zo hz;rw[e2] at h2;exact⟨h2.1,by rw[←c5];exact h2.2.1,h.rex v hv t ht⟩
  have hp:plainB y'=true:=by unfold plainB;rw[h.ints,h.lens.1];rfl
  have hle:lens y'.rows≤y'.rn*(y.ch.toNat*(y.kh.toNat*y.kw.toNat)):=by
   rw[lens_eq hy'.rl,←hy'.rows.1];have:=sum_le (l:=(y'.rows.map fun v=>prs v.L).map List.length) (K:=y.ch.toNat*(y.kh.toNat*y.kw.toNat)) fun k hk=>by
    obtain⟨p,hp,rfl⟩:=xC.1 hk;obtain⟨v,hv,rfl⟩:=xC.1 hp;obtain⟨o,r,c,e⟩:=hrow v hv;show(prs v.L).length≤_
    rw[e];exact wA (nrm_len _) (spotP_len y o _ _ _)
   rwa [nA,nA] at this
  refine⟨(lens y'.rows:Int),?_,?_⟩
  ·have e:((y.ch.toNat*(y.kh.toNat*y.kw.toNat):Nat):Int)=cEach y:=by
    unfold cEach
    rw[pF,pF,wC zo,wC zo,wC zo,Int.mul_assoc]
   rw[←nu,←rl,←e,←pF];exact Int.ofNat_le.2 hle
  ·rw[aff_of hp h.lens.2 zo zo hright (sB.2 h.bex),rl,nu]
theorem frok_sz {w:World} {x:Fr} (h:FrOk w m x):sz x.q≤max m 1:=h.1.sz
theorem lv_ok {w:World} {y:Ly} (hy:LyOk w m y) (hm:m≤160) (hk:y.kind≠2) {n u:Nat} (hn:1≤n) (hb:zAc y n=some ((u:Int),t)):LvOk (valL y) n u:=by
 have e:valL y=⟨y.kind,y.rows.map fun v=>prs v.L,y.bias.map fun x=>x.q,y.groups.map fun g=>g.L⟩:=by unfold valL;rw[dA hk]
 rw[e];unfold zAc at hb
 rw[dA hk] at hb;refine⟨hn,fun k=>?_,fun k=>?_,fun k=>?_,?_⟩
 ·rw[bB k] at hb;obtain⟨a1,a2,a3,a4,a5,a6,a7,a8⟩:=aff_some hb;have h0:=sB.1 a5;refine⟨by rw[nA,hy.rows.1];omega,by rw[nA,hy.bias.1];omega,fun r hr=>?_,fun b hb=>?_⟩
  ·obtain⟨v,hv,rfl⟩:=xC.1 hr;have h1:=rightB_nrm (h0 v hv);have h2:∀t∈prs v.L,0≤t.1∧t.1<(n:Int)∧sz t.2≤160:=fun t ht=>by
    obtain⟨s,hs,rfl⟩:=prs_mem ht;have h3:=h1.2 s hs;have h4:=frok_sz ((hy.rok v hv).2.1 s hs);exact⟨h3.1,h3.2.1,by show sz s.x.q≤160;omega⟩
   refine⟨?_,h2⟩;have:=hd_rise (a:=0) h1.1.rise (fun t ht=>⟨(h2 t ht).1,(h2 t ht).2.1⟩) zo;show(prs v.L).length≤n
   omega
  ·obtain⟨x,hx,rfl⟩:=xC.1 hb;have h4:=frok_sz (hy.bok x hx);show sz x.q≤160
   omega
 ·have k':y.kind=3:=k;rw[dA zo,bB k'] at hb;split at hb
  ·cases hb;rfl
  ·cases hb
 ·have k':y.kind=4:=k;rw[dA zo,dA zo,bB k'] at hb;obtain⟨a1,a2,a3,a4,a5,a6,a7⟩:=pool_some hb;refine⟨by rw[nA,hy.groups.1];omega,fun g hg=>?_⟩;obtain⟨v,hv,rfl⟩:=xC.1 hg;rw[groups_eq hy.gl,sB] at a5;have h1:=a5 v.L (cE (f:=fun v:Gp=>v.L) hv);unfold groupL at h1
  rw[dB,wB] at h1;refine⟨fun e=>by rw[show v.L=[] from e] at h1;exact absurd h1.1 zd,fun a ha=>?_⟩;have:=rises_in h1.2 a ha;omega
 ·show y.kind=1∨y.kind=3∨y.kind=4
  (repeat' split at hb)<;>first | omega | cases hb
structure NetOk (LV:List Lv) (ns:List Nat):Prop where
 len:ns.length=LV.length+1
 lay:∀{i:Nat} {l:Lv},LV[i]?=some l→∃a b,ns[i]?=some a∧ns[i+1]?=some b∧LvOk l a b
 pos:∀a∈ns,1≤a
 few:LV.length≤8
 sum:ns.sum≤60
theorem sum_take_le (ns:List Nat) (i:Nat):(ns.take i).sum≤ns.sum:=by
 have:=congrArg List.sum (mD i ns);rw[List.sum_append] at this;omega
theorem NetOk.dig {LV:List Lv} (h:NetOk LV ns) {i:Nat} (hi:i≤LV.length):20≤digsF (ns.take i)∧digsF (ns.take i)≤5000000000 :=
 dig_end (fun n hn=>h.pos n (xF hn)) (by rw[mB];have:=h.few;omega) (wA (sum_take_le ns i) h.sum)
theorem digs_succ {i a:Nat} (h:ns[i]?=some a):digsF (ns.take (i+1))=dgs a (digsF (ns.take i)):=by
 unfold digsF;rw[aF,h,Option.toList_some,List.foldl_append];rfl
theorem NetOk.trace {LV:List Lv} (h:NetOk LV ns) {x:List Rat} (hx:ns[0]?=some x.length) (hs:∀q∈x,sz q≤20):∀i,i≤LV.length→ns[i]?=some (aheadT LV x i).length∧∀q∈aheadT LV x i,sz q≤digsF (ns.take i)
 | 0,_=>⟨hx,hs⟩
 | i+1,hi=>by
  have ih:=h.trace hx hs i zo;have hl:=cA (l:=LV) (i:=i) zo;obtain⟨a,b,h1,h2,h3⟩:=h.lay hl;rw[aheadT_succ hl,digs_succ h1,h2];rw[h1] at ih;have e:=Option.some.inj ih.1;exact⟨congrArg some (layT_len h3 e.symm).symm,layT_sz h3 ih.2 (wA zd (h.dig (i:=i) zo).1)⟩
theorem NetOk.spans {LV:List Lv} (h:NetOk LV ns) {s:List Rat×List Rat} (hx:ns[0]?=some s.1.length) (hy:ns[0]?=some s.2.length) (hs:∀q∈s.1,sz q≤20) (ht:∀q∈s.2,sz q≤20) :
  ∀i,i≤LV.length→ns[i]?=some (aheadS LV s i).1.length∧ns[i]?=some (aheadS LV s i).2.length∧(∀q∈(aheadS LV s i).1,sz q≤digsF (ns.take i))∧∀q∈(aheadS LV s i).2,sz q≤digsF (ns.take i)
 | 0,_=>⟨hx,hy,hs,ht⟩
 | i+1,hi=>by
  have ih:=h.spans hx hy hs ht i zo;have hl:=cA (l:=LV) (i:=i) zo;obtain⟨a,b,h1,h2,h3⟩:=h.lay hl;rw[aheadS_succ hl,digs_succ h1,h2];rw[h1] at ih;have e:=Option.some.inj ih.1;have e2:=Option.some.inj ih.2.1;have k:=layS_len h3 e.symm e2.symm;have k2:=layS_sz h3 ih.2.2.1 ih.2.2.2 (wA zd (h.dig (i:=i) zo).1);exact⟨congrArg some k.1.symm,congrArg some k.2.symm,k2.1,k2.2⟩
theorem net_ok {w:World} {L:List Ly} {n:Int} {l:List Int} (hy:∀y∈L,LyOk w m y) (hm:m≤160) (hk:∀y∈L,y.kind≠2) (hs:sizesF n L=.ok l) (hl:L.length≤8) (hsum:(l.map Int.toNat).sum≤60):NetOk (L.map valL) (l.map Int.toNat):=by
 obtain⟨g1,g2,g3,g4⟩:=sizes_steps hs;have hp:=steps_pos hy g4 g1 zo;refine⟨by rw[nA,nA,(steps_ok g4).1],fun {i v} hv=>?_,fun a ha=>?_,by rw[nA];exact hl,hsum⟩
 ·rw[mA] at hv;cases e:L[i]? with
  | none=>rw[e] at hv;cases hv
  | some y =>
   rw[e] at hv;cases hv;obtain⟨a,b,t,h1,h2,h3,h4⟩:=steps_get g4 e;have a1:=hp a (eA h1);have b1:=hp b (eA h2);refine⟨a.toNat,b.toNat,by rw[mA,h1];rfl,by rw[mA,h2];rfl,?_⟩;have hm2:=eA e;refine lv_ok (hy y hm2) hm (hk y hm2) (t:=t) zo ?_;rw[wC zo,wC zo];exact h3
 ·obtain⟨z,hz,rfl⟩:=xC.1 ha;have:=hp z hz;omega
end Go.Proofs.YtiondclbdgijbaaGreatDoor
