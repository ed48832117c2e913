import Derived.Test.YteggjbgbknkoiaaGreatDoorUMxT
import Derived.Test.YteggjbgbknkoiaaGreatDoorUMx2
set_option maxHeartbeats 8000000
set_option maxRecDepth 100000
namespace Go.Proofs.YteggjbgbknkoiaaGreatDoor
def trnE (C:List (List (Int×Rat))):Nat→List (Int×Int×Rat)
 | 0=>[]
 | k+1=>trnE C k++(nrm (C.getD k [])).map fun x=>((k:Int),x.1,x.2)
def rowE (E:List (Int×Int×Rat)) (i:Int):List (Int×Rat):=(E.filter fun e=>decide (e.2.1=i)).map fun e=>(e.1,e.2.2)
def turnF (C:List (List (Int×Rat))) (i:Int):List (Int×Rat):=rowE (trnE C C.length) i
theorem rowE_append (E F:List (Int×Int×Rat)) (i:Int):rowE (E++F) i=rowE E i++rowE F i:=by unfold rowE;rw[List.filter_append,jF]
theorem rowE_one (e:Int×Int×Rat) (i:Int):rowE [e] i=if e.2.1=i then [(e.1,e.2.2)] else []:=by
 unfold rowE
 rw[kG,List.filter_nil];by_cases h:e.2.1=i
 ·rw[gA h,gA (by simpa using h)];rfl
 ·rw[fA h,fA (by simpa using h)];rfl
theorem rowE_col (k i:Int):∀{L:List (Int×Rat)},Nrm L→rowE (L.map fun x=>(k,x.1,x.2)) i=if pget L i=0 then [] else [(k,pget L i)]
 | [],_=>by rw[pget_nil,gA rfl];rfl
 | x :: L,h=>by
  have hr:=Rise.cons.1 h.rise;have e:rowE ((x :: L).map fun x=>(k,x.1,x.2)) i=rowE [(k,x.1,x.2)] i++rowE (L.map fun x=>(k,x.1,x.2)) i:=by rw[←rowE_append];rfl
  rw[e,rowE_one,rowE_col k i h.tail,zAg];by_cases hx:x.1=i
  ·have h0:pget L i=0:=pget_none fun y hy=>by have:=hr.1 y hy;omega
   have hz:=h.nz x pA;simp only
   rw[gA hx,gA h0,gA hx,h0,uC,fA hz];rfl
  ·simp only
   rw[fA hx,fA hx];rfl
theorem trn_step (C:List (List (Int×Rat))) (k:Nat) (i:Int):rowE (trnE C (k+1)) i=rowE (trnE C k) i++(if pget (C.getD k []) i=0 then [] else [((k:Int),pget (C.getD k []) i)]):=by
 show rowE (trnE C k++_) i=_
 rw[rowE_append,rowE_col _ _ (nrm_nrm _),nrm_get]
theorem trn_low (C:List (List (Int×Rat))) (i:Int):∀k,∀x∈rowE (trnE C k) i,0≤x.1∧x.1<(k:Int)
 | 0,x,h=>by cases h
 | k+1,x,h=>by
  rw[trn_step] at h;rcases bC.1 h with h | h
  ·have:=trn_low C i k x h;omega
  ·split at h
   ·cases h
   ·obtain rfl:=cC.1 h;simp only
    omega
theorem trn_nrm (C:List (List (Int×Rat))) (i:Int):∀k,Nrm (rowE (trnE C k) i)
 | 0=>⟨List.Pairwise.nil,fun x hx=>by cases hx⟩
 | k+1=>by
  rw[trn_step];split
  ·rw[mF];exact trn_nrm C i k
  ·exact(trn_nrm C i k).snoc (fun o ho=>(trn_low C i k o ho).2) (by assumption)
theorem trn_get (C:List (List (Int×Rat))) (i:Int):∀(k:Nat) (a:Int),pget (rowE (trnE C k) i) a=if 0≤a∧a<(k:Int) then pget (C.getD a.toNat []) i else 0
 | 0,a=>by rw[fA zo];rfl
 | k+1,a=>by
  rw[trn_step,pget_append,trn_get C i k a];have e:pget (if pget (C.getD k []) i=0 then [] else [((k:Int),pget (C.getD k []) i)]) a=if(k:Int)=a then pget (C.getD k []) i else 0:=by
   by_cases h:pget (C.getD k []) i=0
   ·rw[gA h,pget_nil,h];split<;>rfl
   ·rw[fA h,pget_one]
  rw[e];by_cases h:(k:Int)=a
  ·rw[fA zo,gA h,gA zo,fE,show a.toNat=k by omega]
  ·rw[fA h,uC];by_cases h2:0≤a∧a<(k:Int)
   ·rw[gA h2,gA zo]
   ·rw[fA h2,fA zo]
theorem turn_low (C:List (List (Int×Rat))) (i:Int):∀x∈turnF C i,0≤x.1∧x.1<(C.length:Int):=trn_low C i _
theorem turn_nrm (C:List (List (Int×Rat))) (i:Int):Nrm (turnF C i):=trn_nrm C i _
theorem turn_get (C:List (List (Int×Rat))) (i a:Int):pget (turnF C i) a=if 0≤a∧a<(C.length:Int) then pget (C.getD a.toNat []) i else 0:=trn_get C i _ a
def turnT (C:List (List (Int×Rat))) (n:Nat):List (List (Int×Rat)):=(List.range n).map fun(i:Nat)=>turnF C (i:Int)
theorem turnT_len (C:List (List (Int×Rat))) (n:Nat):(turnT C n).length=n:=by unfold turnT;rw[cB,fF]
theorem turnT_get (C:List (List (Int×Rat))) {n i:Nat} (h:i<n):(turnT C n).getD i []=turnF C (i:Int):=by
 unfold turnT
 rw[bA,rA,rF h];rfl
open Go.RowKit Tw
def RowsE (V:List Vc) (E:List (Int×Int×Rat)):Prop:=∀(a:Nat) (v:Vc),V[a]?=some v→prs v.L=rowE E (a:Int)
def colE (k:Nat) (L:List (Int×Rat)):List (Int×Int×Rat):=L.map fun x=>((k:Int),x.1,x.2)
theorem colE_snoc (k:Nat) {T:List Tm} {j:Nat} {x:Tm} (h:T[j]?=some x):colE k (prs (T.take (j+1)))=colE k (prs (T.take j))++[((k:Int),x.at_,x.x.q)]:=by
 rw[take_snoc h,prs_append];exact jF
theorem RowsE.start (n:Nat):RowsE (List.replicate n zVc) []:=fun a v hv=>by rw[zD (dA hv)];rfl
theorem RowsE.skip {V:List Vc} {E:List (Int×Int×Rat)} (h:RowsE V E) {k at_:Int} {q:Rat} (ho:at_<0∨(V.length:Int)≤at_):RowsE V (E++[(k,at_,q)]):=fun a v hv=>by
 have ha:=(yA.1 hv).1;rw[rowE_append,rowE_one,fA (by simp only;omega),mF];exact h a v hv
theorem RowsE.step {V:List Vc} {E:List (Int×Int×Rat)} (h:RowsE V E) {a:Nat} {u:Vc} (hu:V[a]?=some u) (H:Option Addr) (m c:Nat) (t:Tm) (k:Int):RowsE (V.set a ⟨H,m,c,u.L++[⟨k,t.x⟩]⟩) (E++[(k,(a:Int),t.x.q)]):=fun b v hv=>by
 have ha:=(yA.1 hu).1;rw[rowE_append,rowE_one];by_cases e:b=a
 ·subst e;rw[pD ha,Option.some.injEq] at hv;subst hv;rw[gA rfl,prs_append,h b u hu];rfl
 ·rw[rD (fun e2=>e e2.symm)] at hv;rw[fA (by simp only;omega),mF];exact h b v hv
theorem RowsE.done {V:List Vc} {C:List (List (Int×Rat))} {n:Nat} (h:RowsE V (trnE C C.length)) (hl:V.length=n):V.map (fun v=>prs v.L)=turnT C n:=by
 apply tE
 intro a;unfold turnT
 rw[rA,rA];by_cases ha:a<n
 ·rw[rF ha,aA zo];simp only[cE]
  rw[h a _ (aA zo)];rfl
 ·rw[bB zo,bB (by rw[fF];omega)];rfl
theorem trnE_col {C:List (List (Int×Rat))} {k:Nat} {c:List (Int×Rat)} (h:C[k]?=some c):trnE C (k+1)=trnE C k++colE k (nrm c):=by
 show trnE C k++_=_
 rw[bA,h];rfl
theorem trn_len (C:List (List (Int×Rat))) (i:Int):∀k,(rowE (trnE C k) i).length≤k
 | 0=>cA _
 | k+1=>by
  have:=trn_len C i k;rw[trn_step,yC];split
  ·simp only[List.length_nil];omega
  ·simp only[qC,List.length_nil];omega
theorem RowsE.small {V:List Vc} {C:List (List (Int×Rat))} {k a:Nat} {L:List (Int×Rat)} {u:Vc} (h:RowsE V (trnE C k++colE k L)) (hu:V[a]?=some u):u.L.length≤k+L.length:=by
 have h1:=congrArg List.length (h a u hu);have h2:=trn_len C (a:Int) k;have h3:(rowE (colE k L) (a:Int)).length≤L.length:=by
  unfold rowE colE
  rw[cB];refine kA (List.length_filter_le _ _) ?_;rw[cB];exact cA _
 rw[prs_len,rowE_append,yC] at h1;omega
theorem OnT.one {w:World} {M:Nat} {s s':Bool} {A A':Option Addr} {c l c' l':Nat} {q:Rat} (at_:Int) (h:RN w s A c l s' A' c' l' q) (hs:sz q+1≤M):OnT w [⟨at_,⟨s,A,c,l,s',A',c',l',q,true⟩⟩] (fun _=>M):=fun t ht=>by
 obtain rfl:=cC.1 ht;exact⟨h,rfl,hs⟩
theorem elt_frs:Elt Fr.cs 4 49 30:=Elt.of (.agg #[.bool false,.slice none 0 0,.bool false,.slice none 0 0]) 64 Tryz.underlying49 (by kernel_rfl) zo (by kernel_rfl) (nou_list (by kernel_rfl)) Fr.cs_len
 (fun x u hu=>by simp[Fr.cs] at hu;rcases hu with rfl | rfl | rfl | rfl<;>rfl) (fun x u hu n=>by simp[Fr.cs] at hu;rcases hu with rfl | rfl | rfl | rfl<;>simp)
theorem fr_zero {i:TypeInfo} {z:Value} (h:Tryz.prog.info? 30=some i) (hz:i.zero=some z):z.cells.toList=Fr.cs zFr:=by
 have h1:(Tryz.prog.info? 30).map (fun i=>i.zero)=some (some (.agg #[.bool false,.slice none 0 0,.bool false,.slice none 0 0])):=by kernel_rfl
 rw[h,cE,hz] at h1;obtain rfl:z=.agg #[.bool false,.slice none 0 0,.bool false,.slice none 0 0]:=by simpa using h1
 rfl
theorem fr_store {w:World} {B g n cap i:Nat} {L:List Fr} (h:OwnR w B 30 4 (.slice (some ⟨g,0,none⟩) n cap) n (flat Fr.cs L)) {y:Fr} (hy:L[i]?=some y) (x:Fr) :
  ∃V,V=(((w.setCell ⟨g,i*4,none⟩ (.bool x.s)).setCell ⟨g,i*4+1,none⟩ (.slice x.A x.l x.c)).setCell ⟨g,i*4+2,none⟩ (.bool x.s')).setCell ⟨g,i*4+3,none⟩ (.slice x.A' x.l' x.c')∧
   OwnR V B 30 4 (.slice (some ⟨g,0,none⟩) n cap) n (flat Fr.cs (L.set i x))∧Grew w V (.slice (some ⟨g,0,none⟩) n cap) (.slice (some ⟨g,0,none⟩) n cap):=by
 have:=elt_frs.sets h hy (y:=x) [(0,.bool x.s),(1,.slice x.A x.l x.c),(2,.bool x.s'),(3,.slice x.A' x.l' x.c')] (fun p hp=>by simp at hp;rcases hp with rfl | rfl | rfl | rfl<;>exact⟨by simp,by simp⟩) rfl;exact⟨_,rfl,this⟩
theorem fr_0 {w:World} {B g n cap i:Nat} {L:List Fr} (h:OwnR w B 30 4 (.slice (some ⟨g,0,none⟩) n cap) n (flat Fr.cs L)) {y:Fr} (hy:L[i]?=some y):w.cell? ⟨g,i*4,none⟩=some (.bool y.s) :=
 elt_frs.cell h hy (j:=0) (u:=.bool y.s) zo rfl
def AllFr (w:World) (K:Nat) (L:List Fr):Prop:=∀x∈L,FrOk w K x
theorem AllFr.below {w w':World} {K:Nat} {L:List Fr} (h:AllFr w K L) (hb:Below w.heap.size w w':=by go_grown):AllFr w' K L:=fun x hx=>(h x hx).below hb
theorem AllFr.k {w w':World} {K:Nat} {L:List Fr} (h:AllFr w K L) (hb:K64 w w'):AllFr w' K L:=fun x hx=>(h x hx).k hb
theorem AllFr.set {w:World} {K:Nat} {L:List Fr} (h:AllFr w K L) (i:Nat) {x:Fr} (hx:FrOk w K x):AllFr w K (L.set i x):=fun y hy=>by
 rcases sC hy with hy | rfl
 ·exact h y hy
 ·exact hx
def AllRn (w:World) (K:Nat) (L:List Fr):Prop:=∀x∈L,RN w x.s x.A x.c x.l x.s' x.A' x.c' x.l' x.q∧x.ex=true∧sz x.q+1≤K
theorem AllRn.below {w w':World} {K:Nat} {L:List Fr} (h:AllRn w K L) (hb:Below w.heap.size w w':=by go_grown):AllRn w' K L:=fun x hx=>⟨(h x hx).1.below hb,(h x hx).2⟩
theorem AllRn.k {w w':World} {K:Nat} {L:List Fr} (h:AllRn w K L) (hb:K64 w w'):AllRn w' K L:=fun x hx=>⟨(h x hx).1.k hb,(h x hx).2⟩
theorem AllRn.set {w:World} {K:Nat} {L:List Fr} (h:AllRn w K L) (i:Nat) {x:Fr} (hx:RN w x.s x.A x.c x.l x.s' x.A' x.c' x.l' x.q∧x.ex=true∧sz x.q+1≤K):AllRn w K (L.set i x):=fun y hy=>by
 rcases sC hy with hy | rfl
 ·exact h y hy
 ·exact hx
theorem AllRn.put {w:World} {K:Nat} {s s':Bool} {A A':Option Addr} {c l c' l':Nat} {q:Rat} (h:RN w s A c l s' A' c' l' q) (hs:sz q+1≤K):RN w s A c l s' A' c' l' q∧true=true∧sz q+1≤K:=⟨h,rfl,hs⟩
theorem AllRn.zeros (w:World) (m:Nat) {K:Nat} (hK:2≤K):AllRn w K (List.replicate m zFr):=fun x hx=>by
 rw[zD hx];refine⟨(zFr_ok w (m:=1) zo).rn.1 rfl,rfl,?_⟩;have:=sz_zero;show sz 0+1≤K
 omega
def denseF (P:List (Int×Rat)) (m:Nat):List Rat:=(List.range m).map fun(i:Nat)=>pget P (i:Int)
def DnsE (D:List Fr) (T:List Tm):Prop:=∀(i:Nat) y,D[i]?=some y→y.q=pget (prs T) (i:Int)
theorem DnsE.start (m:Nat):DnsE (List.replicate m zFr) []:=fun i y hy=>by rw[zD (dA hy)];rfl
theorem dns_get {T:List Tm} {j:Nat} {x:Tm} (hx:T[j]?=some x) (a:Int):pget (prs (T.take (j+1))) a=pget (prs (T.take j)) a+if x.at_=a then x.x.q else 0:=by
 rw[take_snoc hx,prs_append,pget_append];congr 1
 exact pget_one (x.at_,x.x.q) a
theorem DnsE.skip {D:List Fr} {T:List Tm} {j:Nat} {x:Tm} (h:DnsE D (T.take j)) (hx:T[j]?=some x) (ho:x.at_<0∨(D.length:Int)≤x.at_):DnsE D (T.take (j+1)):=fun i y hy=>by
 have hi:=(yA.1 hy).1;rw[dns_get hx,fA zo,uC];exact h i y hy
theorem DnsE.step {D:List Fr} {T:List Tm} {j a:Nat} {x:Tm} {y:Fr} (h:DnsE D (T.take j)) (hr:Rise (prs T)) (hx:T[j]?=some x) (ha:x.at_=(a:Int)) (hy:D[a]?=some y) (r:Fr) (hq:r.q=x.x.q):DnsE (D.set a r) (T.take (j+1)):=fun i z hz=>by
 have hal:=(yA.1 hy).1;by_cases e:i=a
 ·subst e;rw[pD hal,Option.some.injEq] at hz;subst hz;have h2:Rise (prs (T.take (j+1))):=by rw[←prs_take];exact List.Pairwise.sublist (List.take_sublist _ _) hr
  have h3:(x.at_,x.x.q)∈prs (T.take (j+1)):=by rw[take_snoc hx,prs_append];exact List.mem_append_right _ (cC.2 rfl)
  rw[←ha,h2.get h3,hq]
 ·rw[rD (fun e2=>e e2.symm)] at hz;rw[dns_get hx,fA zo,uC];exact h i z hz
theorem DnsE.done {D:List Fr} {T:List Tm} {m:Nat} (h:DnsE D T) (hl:D.length=m):D.map (fun x=>x.q)=denseF (prs T) m:=by
 apply tE
 intro i;unfold denseF
 rw[rA,rA];by_cases hi:i<m
 ·rw[rF hi,aA zo];simp only[cE]
  rw[h i _ (aA zo)]
 ·rw[bB zo,bB (by rw[fF];omega)];rfl
theorem denseF_nrm (P:List (Int×Rat)) (m:Nat):denseF (nrm P) m=denseF P m:=by
 unfold denseF
 exact List.map_congr_left fun i _=>nrm_get P i
def TellsFs (w:World) (l:List Rat) (K:Nat) (e:Ending) (w':World):Prop:=∃A n c L,e=.returned (.slice A n c)∧Sl Fr.cs 4 w' A n c L∧AllRn w' K L∧L.map (fun x=>x.q)=l∧Below w.heap.size w w'
def TellsFsO (w:World) (m:Nat) (l:List Rat) (K:Nat) (e:Ending) (w':World):Prop:=∃g L,e=.returned (.slice (some ⟨g,0,none⟩) m m)∧OwnR w' w.heap.size 30 4 (.slice (some ⟨g,0,none⟩) m m) m (flat Fr.cs L)∧AllRn w' K L∧L.map (fun x=>x.q)=l∧Below w.heap.size w w'
theorem TellsFsO.s {w w':World} {m K:Nat} {l:List Rat} {e:Ending} (h:TellsFsO w m l K e w'):TellsFs w l K e w':=by
 obtain⟨g,L,h1,h2,h3⟩:=h;exact⟨_,_,_,L,h1,h2.sl' elt_frs (h2.eltn elt_frs zo),h3⟩
def DS1 (w:World) (g m M nm:Nat) (X:Value) (T:List Tm) (gk:Nat) (s:Value) (wr:World):Prop :=
 ∃(j:Nat) (D:List Fr),j≤nm∧nm-j=gk∧s=.int .i64 (j:Int)∧OwnR wr w.heap.size 30 4 (.slice (some ⟨g,0,none⟩) m m) m (flat Fr.cs D)∧OwnR wr w.heap.size 32 5 X nm (flat Tm.cs T)∧AllRn wr M D∧DnsE D (T.take j)∧OnT wr T (fun _=>M)∧Below w.heap.size w wr
theorem dense_no {w:World} {X:Option Addr} {nx cx:Nat} (k:Int) (g1:k<1):Calls Tryz.prog 18 #[.slice X nx cx,.int .i64 k] w fun e w'=>e=.returned (.slice none 0 0)∧Below w.heap.size w w':=by
 go_enter Tryz.func18,Tryz.ntmps18
 go_wp2_with fail
 go_ret
 exact⟨rfl,Below.refl _ _⟩
theorem denseO_q {w:World} {X:Option Addr} {nx cx m M:Nat} {P:List (Int×Rat)} (h:GV w X nx cx P M) (hM:M≤18000000000) (hM2:2≤M) (hnx:nx≤19) (hm1:1≤m) (hm:m≤65536) (hT:Hid (Tab w)) :
  Calls Tryz.prog 18 #[.slice X nx cx,.int .i64 (m:Int)] w (TellsFsO w m (denseF P m) M):=by
 have HX:=zh h;have HPL:=zh h.len;have g1:¬(m:Int)<1:=zo;have g2:(m:Int)≤65536:=zo;clear h;go_enter Tryz.func18,Tryz.ntmps18
 go_wp2_with (at_make;refine And.left (b:=True) ?_)
 refine⟨?_,trivial⟩;refine Elt.makeN elt_frs zFr (fun i z h1 h2=>fr_zero h1 h2) rfl _ _ rfl .i64 .i64 m (by rw[show min (m:Int) 65536=(m:Int) by omega];rfl) (by rw[show min (m:Int) 65536=(m:Int) by omega];rfl) zo w.heap.size (cA _) ?_;intro g w1 ho1 b1;have HO1:=zh ho1;have hnq:=normO_q (HX.out.below b1) zo hnx (zh (hT.out.below b1));have HB1:=zh b1;clear ho1 b1;go_wp2_with fail
 with_reducible refine hnq.mono ?_
 rintro e w2 ⟨Am,nm,cm,T,rfl,ho2,on2,ep,b2⟩;have HAP:Ap (.slice Am nm cm) (.slice (some ⟨g,0,none⟩) m m):=by
  cases e:(Value.slice Am nm cm).ownBlock with
  | none=>exact .inl e
  | some b =>
   refine .inr fun e2=>?_;rw[e] at e2;have h1:=ho2.base b e;have h2:=HO1.out.lt b e2.symm;omega
 have HO2:=zh (ho2.rebase HB1.out.size);have HO3:=zh (HO1.out.below b2);have HN2:=zh on2;have HEP:=zh ep;have HRI:Hid (Rise (prs T)):=zh (by rw[ep];exact(nrm_nrm P).rise);have HTL:=zh (ho2.eltn elt_vec zo);have HB2:=zh (bT HB1.out b2);have hnm:nm≤19:=by
  have h1:=nrm_len P;rw[←ep,prs_len,ho2.eltn elt_vec zo] at h1;have:=HPL.out;omega
 clear hnq ho2 on2 ep b2 HO1 HB1;go_wp2_with fail
 go_loopg [16] nm (fun gk s wr=>DS1 w g m M nm (.slice Am nm cm) T gk s wr)
 case atStart=>exact⟨0,_,nA _,rfl,rfl,HO3.out,HO2.out,AllRn.zeros _ _ hM2,by rw[cF];exact DnsE.start m,HN2.out,HB2.out⟩
 case round =>
  clear HO2 HO3 HN2 HB2;obtain⟨j,D0,hj,hgj,rfl,ho,ht,hfr,hd,hon,hB⟩:=hrel;have HGJ:=zh hgj;have HD:=zh hd;have HDL:=zh (ho.eltn elt_frs zo);clear hgj hd;by_cases hlj:j<nm
  ·obtain⟨eb,offe,rfl,hel⟩:=(ht.sl' elt_vec HTL.out).at Tm.cs_len zo zo;obtain⟨x,hx⟩:∃x,T[j]?=some x:=⟨T[j]'(by rw[HTL.out];exact hlj),aA _⟩;have hnd:=hel j x hx;have HXI:=zh hx;have HXN:=zh (hon x (dA hx));have apT:=HAP;have j1:(j:Int)<(nm:Int):=zo;have j2:(0:Int)≤(j:Int):=zo;clear hel hx;by_cases k1:x.at_<0
   ·have HD2:=zh (HD.out.skip HXI.out (.inl k1));have g3:¬0≤x.at_:=zo;have Bz:=zr wr;obtain⟨pA0,pA1,pA2,pA3,pA4,-⟩:=(hnd.below Bz).ez;go_upto_region 7 with(fail)
    obtain⟨V11,hW,x0,hN⟩:=zAe wr #[.int .i64 x.at_,.bool x.x.s,.slice x.x.A x.x.l x.x.c,.bool x.x.s',.slice x.x.A' x.x.l' x.x.c'] 32;rw[←hW];clear hW;obtain⟨v0,hb0⟩:=ze wr.heap.size;rw[←hb0] at x0 ⊢;have ow_0:w.heap.size≤v0:=zi (zw hB Bz);replace hfr:=hfr.below hN;replace hon:=hon.below hN;replace ho:=ho.below hN;replace ht:=ht.below hN;replace hB:=bT (bT hB Bz) hN;have HX0:=zh x0;clear x0 hN Bz hb0;have Bz:=zr V11;clear pA0 pA1 pA2 pA3 pA4;have pa0:=(zxb HX0 Bz).cell 0 (.int .i64 x.at_) rfl;go_wp2_with fail
    go_roundg (nm-(j+1))
    case measure=>have:=HGJ.out;omega
    case rel=>exact⟨j+1,_,zo,rfl,by go_num,OwnR.below ho,OwnR.below ht,AllRn.below hfr,HD2.out,OnT.below hon,bT (bT hB Bz)⟩
   ·by_cases k2:(m:Int)≤x.at_
    ·have HD2:=zh (HD.out.skip HXI.out (.inr (by rw[HDL.out];exact k2)));have g3:0≤x.at_:=zo;have g4:¬x.at_<(m:Int):=zo;have Bz:=zr wr;obtain⟨pA0,pA1,pA2,pA3,pA4,-⟩:=(hnd.below Bz).ez;go_upto_region 7 with(fail)
     obtain⟨V11,hW,x0,hN⟩:=zAe wr #[.int .i64 x.at_,.bool x.x.s,.slice x.x.A x.x.l x.x.c,.bool x.x.s',.slice x.x.A' x.x.l' x.x.c'] 32;rw[←hW];clear hW;obtain⟨v0,hb0⟩:=ze wr.heap.size;rw[←hb0] at x0 ⊢;have ow_0:w.heap.size≤v0:=zi (zw hB Bz);replace hfr:=hfr.below hN;replace hon:=hon.below hN;replace ho:=ho.below hN;replace ht:=ht.below hN;replace hB:=bT (bT hB Bz) hN;have HX0:=zh x0;clear x0 hN Bz hb0;have Bz:=zr V11;clear pA0 pA1 pA2 pA3 pA4;have pa0:=(zxb HX0 Bz).cell 0 (.int .i64 x.at_) rfl;go_wp2_with fail
     go_roundg (nm-(j+1))
     case measure=>have:=HGJ.out;omega
     case rel=>exact⟨j+1,_,zo,rfl,by go_num,OwnR.below ho,OwnR.below ht,AllRn.below hfr,HD2.out,OnT.below hon,bT (bT hB Bz)⟩
    ·have g3:0≤x.at_:=zo;have g4:x.at_<(m:Int):=zo;obtain⟨y,hy⟩:∃y,D0[x.at_.toNat]?=some y:=⟨D0[x.at_.toNat]'(by rw[HDL.out];omega),aA _⟩;have HY:=zh hy;have HD2:Hid (∀r:Fr,r.q=x.x.q→DnsE (D0.set x.at_.toNat r) (T.take (j+1))):=zh (fun r hr=>HD.out.step HRI.out HXI.out zo HY.out r hr);have hxr:=HXN.out.1;clear hy;have Bz:=zr wr;obtain⟨pA0,pA1,pA2,pA3,pA4,-⟩:=(hnd.below Bz).ez;go_upto_region 7 with(fail)
     obtain⟨V11,hW,x0,hN⟩:=zAe wr #[.int .i64 x.at_,.bool x.x.s,.slice x.x.A x.x.l x.x.c,.bool x.x.s',.slice x.x.A' x.x.l' x.x.c'] 32;rw[←hW];clear hW;obtain⟨v0,hb0⟩:=ze wr.heap.size;rw[←hb0] at x0 ⊢;have ow_0:w.heap.size≤v0:=zi (zw hB Bz);replace hfr:=hfr.below hN;replace hon:=hon.below hN;replace ho:=ho.below hN;replace ht:=ht.below hN;replace hxr:=hxr.below hN;replace hB:=bT (bT hB Bz) hN;have HX0:=zh x0;clear x0 hN Bz hb0;have Bz:=zr V11;clear pA0 pA1 pA2 pA3 pA4;obtain⟨pa0,pa1,pa2,pa3,pa4,-⟩:=(zxb HX0 Bz).cz;have pB0:=fr_0 ho HY.out;have pB1:=elt_frs.cell ho HY.out (j:=1) (u:=.slice y.A y.l y.c) zo rfl;have pB2:=elt_frs.cell ho HY.out (j:=2) (u:=.bool y.s') zo rfl;have pB3:=elt_frs.cell ho HY.out (j:=3) (u:=.slice y.A' y.l' y.c') zo rfl;have fB0:=ho.frozen (x.at_.toNat*4);have fB1:=ho.frozen (x.at_.toNat*4+1);have fB2:=ho.frozen (x.at_.toNat*4+2);have fB3:=ho.frozen (x.at_.toNat*4+3);have y51:=ho.blk.1;go_upto_region 9 with(fail)
     obtain⟨V12,hV,ho2,hg2⟩:=fr_store ho HY.out ⟨x.x.s,x.x.A,x.x.c,x.x.l,x.x.s',x.x.A',x.x.c',x.x.l',x.x.q,true⟩;rw[←hV];clear hV;replace hB:=(bT hB Bz).trans (hg2.below (zi (zw hB Bz)) (fun g' hg'=>by have:=ho.base g' hg';omega));have ht2:=ht.grown hg2 apT;replace hfr:=AllRn.set hfr x.at_.toNat (x:=⟨x.x.s,x.x.A,x.x.c,x.x.l,x.x.s',x.x.A',x.x.c',x.x.l',x.x.q,true⟩) (AllRn.put (RN.below hxr) HXN.out.2.2);clear HX0;replace hfr:=hfr.k hg2.k;replace hon:=hon.k hg2.k;clear ho ht;have ho:=ho2;have ht:=ht2;clear ho2 hg2 ht2 Bz;have Bz:=zr V12;clear pa0 pa1 pa2 pa3 pa4 pB0 pB1 pB2 pB3 fB0 fB1 fB2 fB3 y51;go_wp2_with fail
     go_roundg (nm-(j+1))
     case measure=>have:=HGJ.out;omega
     case rel=>exact⟨j+1,_,zo,rfl,by go_num,OwnR.below ho,OwnR.below ht,AllRn.below hfr,HD2.out _ rfl,OnT.below hon,bT (bT hB Bz)⟩
  ·obtain rfl:j=nm:=zo;have j1:¬(j:Int)<(j:Int):=zo;have HDN:Hid (D0.map (fun x=>x.q)=denseF P m):=zh (by
    have h9:=HD.out;rw[eA (by rw[HTL.out];exact cA _)] at h9;rw[h9.done HDL.out,HEP.out,denseF_nrm])
   have HSL:=zh ho;have HFR:=zh hfr;clear ho ht hfr hon;go_wp2_with fail
   go_ret
   exact⟨_,D0,rfl,HSL.out,HFR.out,HDN.out,hB⟩
theorem store3 {w:World} {b:Nat} {t:TypeId} {u0 u1 u2:Value} (v0 v1 v2:Value) (h0:Bx w b #[u0,u1,u2] t) (n0:∀n,u0≠.int .u64 n) (n1:∀n,u1≠.int .u64 n) (n2:∀n,u2≠.int .u64 n) :
  ∃W,W=((w.setCell ⟨b,0,none⟩ v0).setCell ⟨b,1,none⟩ v1).setCell ⟨b,2,none⟩ v2∧Bx W b #[v0,v1,v2] t∧K64 w W∧(∀b' cs t',b'≠b→Bx w b' cs t'→Bx W b' cs t')∧(∀B w0,B≤b→Below B w0 w→Below B w0 W):=by
 have h1:Bx (w.setCell ⟨b,0,none⟩ v0) b #[v0,u1,u2] t:=h0.set 0 v0;have h2:Bx ((w.setCell ⟨b,0,none⟩ v0).setCell ⟨b,1,none⟩ v1) b #[v0,v1,u2] t:=h1.set 1 v1;have h3:Bx (((w.setCell ⟨b,0,none⟩ v0).setCell ⟨b,1,none⟩ v1).setCell ⟨b,2,none⟩ v2) b #[v0,v1,v2] t:=h2.set 2 v2;have k0:K64 (w) (w.setCell ⟨b,0,none⟩ v0):=K64.box h0 (i:=0) rfl n0 v0;have k1:K64 (w.setCell ⟨b,0,none⟩ v0) ((w.setCell ⟨b,0,none⟩ v0).setCell ⟨b,1,none⟩ v1):=K64.box h1 (i:=1) rfl n1 v1;have k2:K64 ((w.setCell ⟨b,0,none⟩ v0).setCell ⟨b,1,none⟩ v1) (((w.setCell ⟨b,0,none⟩ v0).setCell ⟨b,1,none⟩ v1).setCell ⟨b,2,none⟩ v2):=K64.box h2 (i:=2) rfl n2 v2;exact⟨_,rfl,h3,((k0.trans k1).trans k2),fun b' cs t' hb hx=>(((hx.far hb v0).far hb v1).far hb v2),fun B w0 hB hb=>(((hb.setCell hB v0).setCell hB v1).setCell hB v2)⟩
def bls (b:Bool):List Value:=[.bool b]
theorem bls_len (b:Bool):(bls b).length=1:=rfl
theorem elt_bls:Elt bls 1 65 4:=Elt.of (.bool false) 1 Tryz.underlying65 (by kernel_rfl) zo (by kernel_rfl) (nou_list (by kernel_rfl)) bls_len (fun x u hu=>by simp[bls] at hu;subst hu;rfl) (fun x u hu n=>by simp[bls] at hu;subst hu;simp)
theorem bl_zero {i:TypeInfo} {z:Value} (h:Tryz.prog.info? 4=some i) (hz:i.zero=some z):z.cells.toList=bls false:=by
 have h1:(Tryz.prog.info? 4).map (fun i=>i.zero)=some (some (.bool false)):=by kernel_rfl
 rw[h,cE,hz] at h1;obtain rfl:z=.bool false:=by simpa using h1
 rfl
theorem bl_store {w:World} {B g n cap i:Nat} {L:List Bool} (h:OwnR w B 4 1 (.slice (some ⟨g,0,none⟩) n cap) n (flat bls L)) {y:Bool} (hy:L[i]?=some y) (x:Bool) :
  ∃V,V=w.setCell ⟨g,i,none⟩ (.bool x)∧OwnR V B 4 1 (.slice (some ⟨g,0,none⟩) n cap) n (flat bls (L.set i x))∧Grew w V (.slice (some ⟨g,0,none⟩) n cap) (.slice (some ⟨g,0,none⟩) n cap):=by
 have:=elt_bls.sets h hy (y:=x) [(0,.bool x)] (fun p hp=>by simp at hp;subst hp;exact⟨by simp,by simp⟩) rfl;refine⟨_,rfl,?_⟩;have e:setsW w g (i*1) [(0,.bool x)]=w.setCell ⟨g,i,none⟩ (.bool x):=by simp[setsW]
 rw[e] at this;exact this
theorem bl_cell {w:World} {B g n cap i:Nat} {L:List Bool} (h:OwnR w B 4 1 (.slice (some ⟨g,0,none⟩) n cap) n (flat bls L)) {y:Bool} (hy:L[i]?=some y):w.cell? ⟨g,i,none⟩=some (.bool y):=by
 have:=elt_bls.cell h hy (j:=0) (u:=.bool y) zo rfl;simpa using this
theorem Sl.grown {α:Type} {f:α→List Value} {k:Nat} {w w':World} {n c:Nat} {A:Option Addr} {L:List α} {row:Option Nat} (h:Sl f k w A n c L) (hg:w.grownBy w' row) (ha:∀a,A=some a→some a.block≠row):Sl f k w' A n c L:=by
 obtain⟨h1,h2,A',c',e,h3,h4⟩:=h;cases e;exact⟨h1,h2,A,c,rfl,h3,fun a ea j u hu=>hg.cell (h4 a ea j u hu) (by rw[show(a.add j).block=a.block from by unfold Addr.add;split<;>rfl];exact ha a ea)⟩
def VOff (g:Nat) (v:Vc):Prop:=∀a,v.A=some a→a.block≠g
theorem CN.grown {w w':World} {g M:Nat} {v:Vc} {x y:Value} (h:CN w v M) (hg:Grew w w' x y) (hx:x.ownBlock=some g) (hv:VOff g v):CN w' v M :=
 ⟨h.1.grown hg.by_ fun a ha e=>hv a ha (by rw[hx] at e;exact Option.some.inj e),h.2.1.k hg.k,h.2.2⟩
theorem VOff.new {w:World} {g:Nat} {A:Option Addr} {n c:Nat} {L:List Tm} (hg:g<w.heap.size) (h:∀a,A=some a→w.heap.size≤a.block):VOff g ⟨A,n,c,L⟩:=fun a ha e=>by have:=h a ha;omega
structure RS (w:World) (B g n:Nat) (V:List Vc) (M:Nat):Prop where
 out:OwnR w B 35 1 (.slice (some ⟨g,0,none⟩) n n) n (flat Vc.cs V)
 cn:∀v∈V,CN w v M∧VOff g v
theorem RS.below {w w':World} {B g n M:Nat} {V:List Vc} (h:RS w B g n V M) (hb:Below w.heap.size w w':=by go_grown):RS w' B g n V M:=⟨h.out.below hb,fun v hv=>⟨(h.cn v hv).1.below hb,(h.cn v hv).2⟩⟩
theorem RS.len {w:World} {B g n M:Nat} {V:List Vc} (h:RS w B g n V M):V.length=n:=h.out.eltn elt_vcs zo
theorem RS.lt {w:World} {B g n M:Nat} {V:List Vc} (h:RS w B g n V M):g<w.heap.size:=h.out.lt g rfl
theorem RS.base {w:World} {B g n M:Nat} {V:List Vc} (h:RS w B g n V M):B≤g:=h.out.base g rfl
theorem RS.sl {w:World} {B g n M:Nat} {V:List Vc} (h:RS w B g n V M):Sl Vc.cs 1 w (some ⟨g,0,none⟩) n n V:=h.out.sl' elt_vcs h.len
theorem RS.grown {w w':World} {B g n M:Nat} {V:List Vc} {x y:Value} (h:RS w B g n V M) (hg:Grew w w' x y) (hx:∀b,x.ownBlock=some b→b≠g∧∀v∈V,VOff b v):RS w' B g n V M:=by
 refine⟨h.out.grown hg ?_,fun v hv=>⟨?_,(h.cn v hv).2⟩⟩
 ·cases e:x.ownBlock with
  | none=>exact .inr (by intro c;cases c)
  | some b=>exact .inr (by intro c;exact(hx b e).1 (Option.some.inj c).symm)
 ·cases e:x.ownBlock with
  | none=>exact⟨(h.cn v hv).1.1.grown hg.by_ (by rw[e];intro a _ c;cases c),(h.cn v hv).1.2.1.k hg.k,(h.cn v hv).1.2.2⟩
  | some b=>exact(h.cn v hv).1.grown hg e ((hx b e).2 v hv)
theorem RS.store {w:World} {B g n M i:Nat} {V:List Vc} (h:RS w B g n V M) {y:Vc} (hy:V[i]?=some y) {x:Vc} (hx:CN w x M) (ho:VOff g x) :
  ∃W,W=w.setCell ⟨g,i,none⟩ (.slice x.A x.n x.c)∧RS W B g n (V.set i x) M∧Grew w W (.slice (some ⟨g,0,none⟩) n n) (.slice (some ⟨g,0,none⟩) n n):=by
 obtain⟨W,hW,h1,h2⟩:=vc_store h.out hy x;refine⟨W,hW,⟨h1,fun v hv=>?_⟩,h2⟩;rcases sC hv with hv | rfl
 ·exact⟨(h.cn v hv).1.grown h2 rfl (h.cn v hv).2,(h.cn v hv).2⟩
 ·exact⟨hx.grown h2 rfl ho,ho⟩
structure KP (Z:Nat→Prop) (w w':World):Prop where
 size:w.heap.size≤w'.heap.size
 k:K64 w w'
 blk:∀b,b<w.heap.size→¬Z b→w'.heap[b]?=w.heap[b]?
section
variable {Z:Nat→Prop} {w0 w w':World}
theorem KP.refl (Z:Nat→Prop) (w:World):KP Z w w:=⟨cA _,K64.below (Below.refl _ _),fun _ _ _=>rfl⟩
theorem KP.below (h:KP Z w0 w) (hb:Below w.heap.size w w':=by go_grown):KP Z w0 w' :=
 ⟨kA h.size hb.size,h.k.trans (K64.below hb),fun b hl hz=>(hb.block b (eB hl h.size)).trans (h.blk b hl hz)⟩
theorem KP.trans {w'':World} (h:KP Z w w') (h':KP Z w' w''):KP Z w w'' :=
 ⟨kA h.size h'.size,h.k.trans h'.k,fun b hl hz=>(h'.blk b (eB hl h.size) hz).trans (h.blk b hl hz)⟩
theorem KP.mono {Z':Nat→Prop} (h:KP Z w w') (hz:∀b,b<w.heap.size→Z b→Z' b):KP Z' w w':=⟨h.size,h.k,fun b hl hn=>h.blk b hl fun c=>hn (hz b hl c)⟩
theorem KP.of_below (Z:Nat→Prop) (hb:Below w.heap.size w w'):KP Z w w':=(KP.refl Z w).below hb
theorem KP.after (hb:Below w0.heap.size w0 w) (h:KP Z w w'):KP Z w0 w' :=
 ⟨kA hb.size h.size,(K64.below hb).trans h.k,fun b hl hz=>(h.blk b (eB hl hb.size) hz).trans (hb.block b hl)⟩
theorem KP.grew {x y:Value} (h:KP Z w0 w) (hg:Grew w w' x y) (hx:∀b,x.ownBlock=some b→b<w0.heap.size→Z b):KP Z w0 w' :=
 ⟨kA h.size hg.size,h.k.trans hg.k,fun b hl hz=>(hg.by_.block b (eB hl h.size) (fun e=>hz (hx b e.symm hl))).trans (h.blk b hl hz)⟩
theorem KP.set {c:Nat} (h:KP Z w0 w) (hs:w.heap.size≤w'.heap.size) (hk:K64 w w') (ho:∀k,k≠c→w'.heap[k]?=w.heap[k]?) (hc:c<w0.heap.size→Z c):KP Z w0 w' :=
 ⟨kA h.size hs,h.k.trans hk,fun b hl hz=>(ho b (fun e=>hz (by subst e;exact hc hl))).trans (h.blk b hl hz)⟩
theorem KP.bx (h:KP Z w w') {b:Nat} {cs:Array Value} {t:TypeId} (hb:Bx w b cs t) (hz:¬Z b):Bx w' b cs t:=(h.blk b hb.lt hz).trans hb
theorem KP.own (h:KP Z w w') {B n size:Nat} {e:TypeId} {v:Value} {xs:List Value} (ho:OwnR w B e size v n xs) (hz:∀b,v.ownBlock=some b→¬Z b):OwnR w' B e size v n xs:=by
 obtain⟨h1,h2 | ⟨g,cap,cur,rfl,a2,a3,a4⟩⟩:=ho
 ·exact⟨h1,.inl h2⟩
 ·exact⟨h1,.inr ⟨g,cap,cur,rfl,a2,h.bx a3 (hz g rfl),a4⟩⟩
theorem cell_heap {w w':World} {p:Addr} (h:w'.heap[p.block]?=w.heap[p.block]?):w'.cell? p=w.cell? p:=by
 unfold World.cell?
 rw[h]
theorem KP.cell (h:KP Z w w') {p:Addr} {u:Value} (hp:w.cell? p=some u) (hz:¬Z p.block):w'.cell? p=some u :=
 (cell_heap (h.blk p.block (World.block_lt_of_cell? w p hp) hz)).trans hp
theorem KP.ela (h:KP Z w w') {b off:Nat} {cs:List Value} (hs:ElA w b off cs) (hz:¬Z b):ElA w' b off cs:=fun i u hu=>h.cell (hs i u hu) hz
theorem KP.sl {α:Type} {f:α→List Value} {k:Nat} {A:Option Addr} {n c:Nat} {L:List α} (h:KP Z w w') (hs:Sl f k w A n c L) (hz:∀a,A=some a→¬Z a.block):Sl f k w' A n c L:=by
 obtain⟨h1,h2,A',c',e,h3,h4⟩:=hs;cases e;exact⟨h1,h2,A,c,rfl,h3,fun a ea j u hu=>h.cell (h4 a ea j u hu) (by rw[show(a.add j).block=a.block from by unfold Addr.add;split<;>rfl];exact hz a ea)⟩
end
def OVs (w:World) (B M:Nat) (V:List Vc):Prop:=∀v∈V,OwnR w B 32 5 (vsl v) v.n (flat Tm.cs v.L)∧OnT w v.L (fun _=>M)
theorem OVs.below {w w':World} {B M:Nat} {V:List Vc} (h:OVs w B M V) (hb:Below w.heap.size w w':=by go_grown):OVs w' B M V:=fun v hv=>⟨(h v hv).1.below hb,(h v hv).2.below hb⟩
theorem OVs.kp {Z:Nat→Prop} {w w':World} {B M:Nat} {V:List Vc} (h:OVs w B M V) (hk:KP Z w w') (hz:∀v∈V,∀b,(vsl v).ownBlock=some b→¬Z b):OVs w' B M V :=
 fun v hv=>⟨hk.own (h v hv).1 (hz v hv),(h v hv).2.k hk.k⟩
theorem OVs.mono {w:World} {B M M':Nat} {V:List Vc} (h:OVs w B M V) (hM:M≤M'):OVs w B M' V:=fun v hv=>⟨(h v hv).1,(h v hv).2.mono fun _ _=>hM⟩
theorem own_cn {w:World} {B M:Nat} {v:Vc} (h1:OwnR w B 32 5 (vsl v) v.n (flat Tm.cs v.L)) (h2:OnT w v.L (fun _=>M)):CN w v M:=by
 refine⟨h1.sl' elt_vec (h1.eltn elt_vec zo),h2,fun e=>?_⟩;obtain⟨H,c,e9,h9,_⟩:=h1.slice;unfold vsl at e9
 cases e9;exact(h9 e).2
theorem OVs.cn {w:World} {B M:Nat} {V:List Vc} (h:OVs w B M V) {v:Vc} (hv:v∈V):CN w v M:=own_cn (h v hv).1 (h v hv).2
theorem own_lt {w:World} {B M b:Nat} {V:List Vc} (h:OVs w B M V) {v:Vc} (hv:v∈V) (hb:(vsl v).ownBlock=some b):b<w.heap.size:=(h v hv).1.lt b hb
def ApV (X:Value) (V:List Vc):Prop:=∀v∈V,Ap (vsl v) X
theorem Ap.block {u v:Value} (h:Ap u v) {b:Nat} (hu:u.ownBlock=some b):v.ownBlock≠some b:=fun e=>by
 rcases h with h | h
 ·rw[hu] at h;cases h
 ·exact h (hu.trans e.symm)
theorem Ap.ne {u v:Value} (h:Ap u v) {b:Nat} (hv:v.ownBlock=some b):some b≠u.ownBlock:=fun e=>by
 rcases h with h | h
 ·rw[←e] at h;cases h
 ·exact h (e.symm.trans hv.symm)
theorem Ap.old {w w':World} {B n k B' n' k':Nat} {e e':TypeId} {u v:Value} {xs ys:List Value} (hu:OwnR w B e k u n xs) (hv:OwnR w' B' e' k' v n' ys) (h:w.heap.size≤B'):Ap u v:=by
 cases e1:u.ownBlock with
 | none=>exact .inl e1
 | some b=>exact .inr fun e2=>by have h1:=hu.lt b e1;have h2:=hv.base b (e2.symm.trans e1);omega
structure RO (w:World) (B g n:Nat) (V:List Vc) (M:Nat):Prop where
 out:OwnR w B 35 1 (.slice (some ⟨g,0,none⟩) n n) n (flat Vc.cs V)
 row:OVs w B M V
 ap:ApV (.slice (some ⟨g,0,none⟩) n n) V
section
variable {w w':World} {B g n M:Nat} {V:List Vc}
theorem RO.len (h:RO w B g n V M):V.length=n:=h.out.eltn elt_vcs zo
theorem RO.base (h:RO w B g n V M):B≤g∧g<w.heap.size:=⟨h.out.base g rfl,h.out.lt g rfl⟩
theorem RO.below (h:RO w B g n V M) (hb:Below w.heap.size w w':=by go_grown):RO w' B g n V M:=⟨h.out.below hb,h.row.below hb,h.ap⟩
theorem RO.mono {M':Nat} (h:RO w B g n V M) (hM:M≤M'):RO w B g n V M':=⟨h.out,h.row.mono hM,h.ap⟩
theorem RO.sl (h:RO w B g n V M):Sl Vc.cs 1 w (some ⟨g,0,none⟩) n n V:=h.out.sl' elt_vcs h.len
theorem RO.kp {Z:Nat→Prop} (h:RO w B g n V M) (hk:KP Z w w') (hg:¬Z g) (hz:∀v∈V,∀b,(vsl v).ownBlock=some b→¬Z b):RO w' B g n V M :=
 ⟨hk.own h.out (fun b e=>by cases e;exact hg),h.row.kp hk hz,h.ap⟩
theorem RO.grown {x y:Value} (h:RO w B g n V M) (hg:Grew w w' x y) (hx:x.ownBlock≠some g) (hv:ApV x V):RO w' B g n V M :=
 ⟨h.out.grown hg (.inr fun e=>hx e.symm),fun v hm=>⟨(h.row v hm).1.grown hg (hv v hm),(h.row v hm).2.k hg.k⟩,h.ap⟩
theorem ApV.grew {x y:Value} (h:ApV x V) (hr:OVs w B M V) (hg:Grew w w' x y):ApV y V:=fun v hm=>hg.ap (hr v hm).1 (h v hm)
theorem RO.far2 {b:Nat} (h:RO w B g n V M) (far:∀b' cs t',b'≠b→Bx w b' cs t'→Bx w' b' cs t') (hk:K64 w w') (hb:b≠g) (hv:∀v∈V,some b≠(vsl v).ownBlock):RO w' B g n V M :=
 ⟨h.out.far2 far (fun e=>hb (Option.some.inj e)),fun v hm=>⟨(h.row v hm).1.far2 far (hv v hm),(h.row v hm).2.k hk⟩,h.ap⟩
theorem RO.store {i:Nat} (h:RO w B g n V M) {y:Vc} (hy:V[i]?=some y) {x:Vc} (hx:OwnR w B 32 5 (vsl x) x.n (flat Tm.cs x.L)) (ho:OnT w x.L (fun _=>M)) (ha:Ap (vsl x) (.slice (some ⟨g,0,none⟩) n n)) :
  ∃W,W=w.setCell ⟨g,i,none⟩ (.slice x.A x.n x.c)∧RO W B g n (V.set i x) M∧Grew w W (.slice (some ⟨g,0,none⟩) n n) (.slice (some ⟨g,0,none⟩) n n):=by
 obtain⟨W,hW,h1,h2⟩:=vc_store h.out hy x;have hm:∀v∈V.set i x,v∈V∨v=x:=fun v hv=>sC hv;refine⟨W,hW,⟨h1,fun v hv=>?_,fun v hv=>?_⟩,h2⟩
 ·rcases hm v hv with hv | rfl
  ·exact⟨(h.row v hv).1.grown h2 (h.ap v hv),(h.row v hv).2.k h2.k⟩
  ·exact⟨hx.grown h2 ha,ho.k h2.k⟩
 ·rcases hm v hv with hv | rfl
  ·exact h.ap v hv
  ·exact ha
theorem TS.ro {X:Value} {nx:Nat} {xs:List Value} (h:TS w B g n X nx xs V M):RO w B g n V M:=⟨h.out,h.row,fun v hv=>(h.og v hv).1.symm⟩
end
theorem own_gv {w:World} {B M n c:Nat} {A:Option Addr} {L:List Tm} {P:List (Int×Rat)} (h1:OwnR w B 32 5 (.slice A n c) n (flat Tm.cs L)) (h2:OnT w L (fun _=>M)) (e:prs L=P) (hr:Rise P):GV w A n c P (M+1):=by
 subst e;exact(own_cn (v:=⟨A,n,c,L⟩) h1 h2).nv.gv hr
theorem OVs.gv {w:World} {B M:Nat} {V:List Vc} (h:OVs w B M V) {v:Vc} (hv:v∈V) (hr:Rise (prs v.L)):GV w v.A v.n v.c (prs v.L) (M+1):=(h.cn hv).nv.gv hr
theorem own_len {w:World} {B n c:Nat} {A:Option Addr} {L:List Tm} (h1:OwnR w B 32 5 (.slice A n c) n (flat Tm.cs L)):(prs L).length=n:=by rw[prs_len];exact h1.eltn elt_vec zo
theorem rest_len (P:List (Int×Rat)) (co:Int):(restF P co).length≤P.length+1:=by
 unfold restF
 have h1:=nrm_len ((P.filter fun x=>decide (x.1≠co))++[(co,(0:Rat))]);have h2:=List.length_filter_le (fun x:Int×Rat=>decide (x.1≠co)) P;rw[yC,List.length_singleton] at h1;omega
theorem on_sz {w:World} {M:Nat} {L:List Tm} (h:OnT w L (fun _=>M)) (hr:Rise (prs L)) (hM:2≤M) (a:Int):sz (pget (prs L) a)+1≤M:=by
 by_cases e:pget (prs L) a=0
 ·rw[e];have:=sz_zero;omega
 ·obtain⟨t,ht,rfl⟩:=pget_mem e;rw[hr.get ht];obtain⟨u,hu,rfl⟩:=prs_mem ht;exact(h u hu).2.2
theorem rowB {B g n c:Nat} (h:B≤g):∀t,(Value.slice (some ⟨g,0,none⟩) n c).ownBlock=some t→B≤t:=fun t e=>by cases e;exact h
theorem rowN {b g n c:Nat} (h:b≠g):some b≠(Value.slice (some ⟨g,0,none⟩) n c).ownBlock:=fun e=>h (by cases e;rfl)
theorem lu_start {C:List (List (Int×Rat))} {n:Nat} (hl:C.length=n):FacInv n ⟨turnT C n,List.replicate n true,[]⟩:=FacInv.start (turnT_len C n) fun k=>by
 by_cases hk:k<n
 ·rw[turnT_get C hk];exact⟨turn_nrm C _,fun t ht=>by rw[←hl];exact turn_low C _ t ht⟩
 ·rw[bA,bB (by rw[turnT_len];omega)];exact⟨⟨List.Pairwise.nil,fun x hx=>(by cases hx)⟩,fun x hx=>(by cases hx)⟩
def facT (C:List (List (Int×Rat))) (n:Nat):FacSt:=⟨turnT C n,List.replicate n true,[]⟩
def facST (C:List (List (Int×Rat))) (n:Nat):List StepF:=match facUp (facT C n) n with | some t=>t.ST | none=>[]
theorem facST_eq {C:List (List (Int×Rat))} {n:Nat} {t:FacSt} (h:facUp (facT C n) n=some t):facST C n=t.ST:=by unfold facST;rw[h]
def plc (n:Nat):List Int:=(List.range n).map fun(i:Nat)=>(i:Int)
theorem plc_mem {n:Nat} {a:Int}:a∈plc n↔0≤a∧a<(n:Int):=by
 unfold plc
 rw[tC];constructor
 ·rintro⟨i,hi,rfl⟩;have:=xF.1 hi;omega
 ·intro h;exact⟨a.toNat,xF.2 zo,zo⟩
theorem plc_len (n:Nat):(plc n).length=n:=by unfold plc;rw[cB,fF]
theorem plc_nodup (n:Nat):(plc n).Nodup:=by
 unfold plc List.Nodup
 rw[gG];exact(List.nodup_range (n:=n)).imp fun h e=>h zo
def mA (C:List (List (Int×Rat))) (j a:Int):Rat:=pget (C.getD a.toNat []) j
theorem dotV_row {V:List Int} {r s x:Int→Rat} (h:∀a∈V,r a=s a):dotV V r x=dotV V s x:=by
 induction V with
 | nil=>rfl
 | cons a V ih=>rw[dotV_cons,dotV_cons,h a pA,ih fun b hb=>h b (qA _ hb)]
theorem dotV_add (V:List Int) (r s x:Int→Rat):dotV V (fun a=>r a+s a) x=dotV V r x+dotV V s x:=by
 induction V with
 | nil=>show(0:Rat)=0+0;grind
 | cons a V ih=>rw[dotV_cons,dotV_cons,dotV_cons,ih];grind
theorem dotV_zero (V:List Int) (x:Int→Rat):dotV V (fun _=>0) x=0:=by
 induction V with
 | nil=>rfl
 | cons a V ih=>rw[dotV_cons,ih];grind
theorem dotV_one {V:List Int} (hV:V.Nodup) (b:Int) (q:Rat) (x:Int→Rat):dotV V (fun a=>if a=b then q else 0) x=if b∈V then q*x b else 0:=by
 induction V with
 | nil=>rw[fA (by simp)];rfl
 | cons a V ih =>
  have⟨h1,h2⟩:=List.nodup_cons.1 hV;rw[dotV_cons,ih h2];by_cases e:a=b
  ·subst e;rw[gA rfl,fA h1,gA pA];grind
  ·rw[fA e];by_cases h:b∈V
   ·rw[gA h,gA (qA _ h)];grind
   ·rw[fA h,fA (fun h3=>by rcases sB.1 h3 with h4 | h4;exact e h4.symm;exact h h4)];grind
theorem dotV_ev {V:List Int} (hV:V.Nodup) (x:Int→Rat):∀{P:List (Int×Rat)},(∀t∈P,t.1∈V)→dotV V (pget P) x=ev P x
 | [],_=>dotV_zero V x
 | t :: P,h=>by
  have e:dotV V (pget (t :: P)) x=dotV V (fun a=>(if a=t.1 then t.2 else 0)+pget P a) x:=dotV_row fun a _=>by
   rw[zAg];by_cases h2:t.1=a
   ·rw[gA h2,gA h2.symm]
   ·rw[fA h2,fA (fun e=>h2 e.symm),fE]
  rw[e,dotV_add,dotV_one hV,gA (h t pA),dotV_ev hV x (fun u hu=>h u (qA _ hu)),ev_cons]
section
variable {C:List (List (Int×Rat))} {n:Nat} {t:FacSt}
theorem row_dot (hl:C.length=n) (j:Nat) (hj:j<n) (x:Int→Rat):ev ((turnT C n).getD j []) x=dotV (plc n) (mA C (j:Int)) x:=by
 rw[turnT_get C hj,←dotV_ev (plc_nodup n) x (P:=turnF C (j:Int)) (fun t ht=>plc_mem.2 (by rw[←hl];exact turn_low C _ t ht))];refine dotV_row fun a ha=>?_;have h:=plc_mem.1 ha;rw[turn_get,gA (by rw[hl];exact h)];rfl
theorem lu_sol (hl:C.length=n) (h:facUp (facT C n) n=some t) (f:Int→Rat) (j:Int) (hj:j∈plc n):dotV (plc n) (mA C j) (back (fwd t.ST f) t.ST)=f j:=by
 have h1:=plc_mem.1 hj;have h2:=fac_ftran (lu_start hl) rfl h f j.toNat zo;have h3:=row_dot hl j.toNat zo (back (fwd t.ST f) t.ST);rw[sF h1.1] at h2 h3;rw[←h3];exact h2
theorem lu_uniq (hl:C.length=n) (h:facUp (facT C n) n=some t) {x y:Int→Rat} (hxy:∀j∈plc n,dotV (plc n) (mA C j) x=dotV (plc n) (mA C j) y) (a:Int) (ha:a∈plc n):x a=y a:=by
 have h1:=plc_mem.1 ha;refine fac_uniq (lu_start hl) rfl h (fun j hj=>?_) a h1.1 h1.2;show ev ((turnT C n).getD j []) x=ev ((turnT C n).getD j []) y
 rw[row_dot hl j hj,row_dot hl j hj];exact hxy _ (plc_mem.2 zo)
theorem lu_sz (hl:C.length=n) (hn:1≤n) (h:facUp (facT C n) n=some t) {D S:Nat} (hD:∀j∈plc n,∀a∈plc n,sz (mA C j a)≤D) {f:Int→Rat} (hf:∀j∈plc n,sz (f j)≤S) (a:Int) (ha:a∈plc n):sz (back (fwd t.ST f) t.ST a)≤solG D S (n-1):=by
 refine sol_sz (n-1) (V:=plc n) (E:=(plc n).map fun j=>(mA C j,f j)) (by rw[plc_len];omega) (plc_nodup n) (fun e he=>?_) (fun y hy b hb=>?_) (fun e he=>?_) a ha
 ·obtain⟨j,hj,rfl⟩:=tC.1 he;exact lu_sol hl h f j hj
 ·refine lu_uniq hl h (fun j hj=>?_) b hb;rw[hy (mA C j,f j) (tC.2 ⟨j,hj,rfl⟩),lu_sol hl h f j hj]
 ·obtain⟨j,hj,rfl⟩:=tC.1 he;exact⟨fun b hb=>hD j hj b hb,hf j hj⟩
end
def CW (w:World) (A:Option Addr) (n c:Nat) (C:List (List (Int×Rat))) (M:Nat):Prop :=
 ∃CL:List Vc,Sl Vc.cs 1 w A n c CL∧(∀v∈CL,GV w v.A v.n v.c (prs v.L) M)∧CL.map (fun v=>prs v.L)=C
def CM (w:World) (A:Option Addr) (n c:Nat) (C:List (List (Int×Rat))) (M:Nat):Prop :=
 ∃CL:List Vc,Sl Vc.cs 1 w A n c CL∧(∀v∈CL,CN w v M)∧CL.map (fun v=>prs v.L)=C
theorem CW.below {w w':World} {A:Option Addr} {n c M:Nat} {C:List (List (Int×Rat))} (h:CW w A n c C M) (hb:Below w.heap.size w w':=by go_grown):CW w' A n c C M:=by
 obtain⟨CL,h1,h2,h3⟩:=h;exact⟨CL,h1.below hb,fun v hv=>(h2 v hv).below hb,h3⟩
theorem CM.below {w w':World} {A:Option Addr} {n c M:Nat} {C:List (List (Int×Rat))} (h:CM w A n c C M) (hb:Below w.heap.size w w':=by go_grown):CM w' A n c C M:=by
 obtain⟨CL,h1,h2,h3⟩:=h;exact⟨CL,h1.below hb,fun v hv=>(h2 v hv).below hb,h3⟩
theorem CW.len {w:World} {A:Option Addr} {n c M:Nat} {C:List (List (Int×Rat))} (h:CW w A n c C M):C.length=n:=by
 obtain⟨CL,h1,_,rfl⟩:=h;rw[cB,h1.1]
theorem CM.len {w:World} {A:Option Addr} {n c M:Nat} {C:List (List (Int×Rat))} (h:CM w A n c C M):C.length=n:=by
 obtain⟨CL,h1,_,rfl⟩:=h;rw[cB,h1.1]
theorem CM.cw {w:World} {A:Option Addr} {n c M:Nat} {C:List (List (Int×Rat))} (h:CM w A n c C M) (hr:∀x∈C,Rise x):CW w A n c C (M+1):=by
 obtain⟨CL,h1,h2,rfl⟩:=h;exact⟨CL,h1,fun v hv=>(h2 v hv).nv.gv (hr _ (qF (f:=fun v:Vc=>prs v.L) hv)),rfl⟩
theorem less_iff (p q:Piv):p.less q=true↔p.cost<q.cost∨p.cost=q.cost∧(p.col<q.col∨p.col=q.col∧p.row<q.row):=by
 unfold Piv.less
 by_cases h:p.cost=q.cost
 ·rw[fA (by simp[h])];by_cases h2:p.col=q.col
  ·rw[fA (by simp[h2])];simp[h,h2]
  ·rw[gA h2];simp[h,h2]
 ·rw[gA h];simp[h]
theorem less_no (p q:Piv):p.less q=false↔q.cost<p.cost∨q.cost=p.cost∧(q.col<p.col∨q.col=p.col∧q.row≤p.row):=by
 rw[←Bool.not_eq_true,less_iff];omega
def MinP (S:Piv→Prop) (o:Option Piv):Prop:=match o with
 | none=>∀q,¬S q
 | some p=>S p∧∀q,S q→q.less p=false
theorem MinP.uniq {S:Piv→Prop} {a b:Option Piv} (h:MinP S a) (h':MinP S b):a=b:=by
 cases a with
 | none=>cases b with
  | none=>rfl
  | some q=>exact absurd h'.1 (h q)
 | some p=>cases b with
  | none=>exact absurd h.1 (h' p)
  | some q =>
   have h1:=(less_no _ _).1 (h.2 q h'.1);have h2:=(less_no _ _).1 (h'.2 p h.1);obtain⟨a1,a2,a3⟩:=p;obtain⟨b1,b2,b3⟩:=q;simp only at h1 h2
   congr 2<;>omega
theorem MinP.congr {S S':Piv→Prop} {a:Option Piv} (h:MinP S a) (e:∀q,S q↔S' q):MinP S' a:=by
 cases a with
 | none=>exact fun q hq=>h q ((e q).2 hq)
 | some p=>exact⟨(e p).1 h.1,fun q hq=>h.2 q ((e q).2 hq)⟩
theorem MinP.bst {S:Piv→Prop} {a:Option Piv} (h:MinP S a) (p:Piv):MinP (fun q=>S q∨q=p) (bst a p):=by
 cases a with
 | none=>exact⟨.inr rfl,fun q hq=>by
   rcases hq with hq | rfl
   ·exact absurd hq (h q)
   ·rw[less_no];omega⟩
 | some r =>
  cases hl:p.less r with
  | true =>
   rw[bst_yes hl];refine⟨.inr rfl,fun q hq=>?_⟩;rcases hq with hq | rfl
   ·have h1:=(less_no _ _).1 (h.2 q hq);have h2:=(less_iff _ _).1 hl;rw[less_no];omega
   ·rw[less_no];omega
  | false =>
   rw[bst_no hl];refine⟨.inl h.1,fun q hq=>?_⟩;rcases hq with hq | rfl
   ·exact h.2 q hq
   ·exact hl
theorem MinP.fold {L:List Piv}:∀{S:Piv→Prop} {a:Option Piv},MinP S a→MinP (fun q=>S q∨q∈L) (L.foldl Go.Proofs.YteggjbgbknkoiaaGreatDoor.bst a):=by
 induction L with
 | nil=>intro S a h;exact h.congr fun q=>by simp
 | cons p L ih=>intro S a h;exact(ih (h.bst p)).congr fun q=>by simp only[sB];constructor<;>(intro h;grind)
theorem best_min (R:List (List (Int×Rat))) (OB:List Bool) (C:List Int):∀i,MinP (fun q=>∃k,k<i∧OB.getD k false=true∧q∈cand C k (R.getD k [])) (bestUp R OB C i)
 | 0=>fun q h=>by obtain⟨k,hk,_⟩:=h;omega
 | i+1=>by
  have ih:=best_min R OB C i;unfold bestUp
  split
  case isTrue ho =>
   refine ih.fold.congr fun q=>⟨fun h=>?_,fun h=>?_⟩
   ·rcases h with⟨k,h1,h2⟩ | h
    ·exact⟨k,zo,h2⟩
    ·exact⟨i,zo,ho,h⟩
   ·obtain⟨k,h1,h2,h3⟩:=h;by_cases e:k=i
    ·subst e;exact .inr h3
    ·exact .inl ⟨k,zo,h2,h3⟩
  case isFalse ho =>
   refine ih.congr fun q=>⟨fun⟨k,h1,h2⟩=>⟨k,zo,h2⟩,fun⟨k,h1,h2,h3⟩=>?_⟩;by_cases e:k=i
   ·subst e;exact absurd h2 ho
   ·exact⟨k,zo,h2,h3⟩
def costT (T:List (List Rat)) (OB OC:List Bool) (n i j:Nat):Int:=((cntQ OC (fun k=>tq T i k) n:Nat)-1:Int)*((cntQ OB (fun k=>tq T k j) n:Nat)-1)
def pst (b:Option Piv) (p:Piv):Option Piv:=match b with
 | none=>some p
 | some q=>if p.cost<q.cost then some p else some q
def pickIn (T:List (List Rat)) (OB OC:List Bool) (n k:Nat) (b:Option Piv):Nat→Option Piv
 | 0=>b
 | i+1=>if OB.getD i false=true∧OC.getD k false=true∧tq T i k≠0 then pst (pickIn T OB OC n k b i) ⟨costT T OB OC n i k,(k:Int),(i:Int)⟩ else pickIn T OB OC n k b i
def pickUp (T:List (List Rat)) (OB OC:List Bool) (n:Nat):Nat→Option Piv
 | 0=>none
 | k+1=>pickIn T OB OC n k (pickUp T OB OC n k) n
def pickF (T:List (List Rat)) (OB OC:List Bool) (n:Nat):Option Piv:=pickUp T OB OC n n
def Met (T:List (List Rat)) (OB OC:List Bool) (n k i:Nat) (q:Piv):Prop:=∃i' k':Nat,i'<n∧(k'<k∨k'=k∧i'<i)∧OB.getD i' false=true∧OC.getD k' false=true∧tq T i' k'≠0∧q=⟨costT T OB OC n i' k',(k':Int),(i':Int)⟩
theorem pst_bst {S:Piv→Prop} {b:Option Piv} {p:Piv} (h:MinP S b) (hS:∀q,S q→q.col<p.col∨q.col=p.col∧q.row<p.row):pst b p=bst b p:=by
 cases b with
 | none=>rfl
 | some q =>
  have h1:=hS q h.1;cases hl:p.less q with
  | true =>
   rw[bst_yes hl];have:=(less_iff _ _).1 hl;exact gA zo
  | false =>
   rw[bst_no hl];have:=(less_no _ _).1 hl;exact fA zo
theorem pickIn_min (T:List (List Rat)) (OB OC:List Bool) (n k:Nat) {b:Option Piv} (hb:MinP (Met T OB OC n k 0) b):∀i,i≤n→MinP (Met T OB OC n k i) (pickIn T OB OC n k b i)
 | 0,_=>hb
 | i+1,hi=>by
  have ih:=pickIn_min T OB OC n k hb i zo;unfold pickIn
  split
  case isTrue h =>
   rw[pst_bst ih fun q hq=>by
    obtain⟨i',k',_,h2,_,_,_,rfl⟩:=hq;simp only
    omega]
   refine(ih.bst _).congr fun q=>⟨fun h2=>?_,fun h2=>?_⟩
   ·rcases h2 with⟨i',k',h3,h4,h5⟩ | rfl
    ·exact⟨i',k',h3,zo,h5⟩
    ·exact⟨i,k,zo,zo,h.1,h.2.1,h.2.2,rfl⟩
   ·obtain⟨i',k',h3,h4,h5,h6,h7,h8⟩:=h2;by_cases e:k'=k∧i'=i
    ·obtain⟨rfl,rfl⟩:=e;exact .inr h8
    ·exact .inl ⟨i',k',h3,zo,h5,h6,h7,h8⟩
  case isFalse h =>
   refine ih.congr fun q=>⟨fun⟨i',k',h3,h4,h5⟩=>⟨i',k',h3,zo,h5⟩,fun⟨i',k',h3,h4,h5,h6,h7,h8⟩=>?_⟩;by_cases e:k'=k∧i'=i
   ·obtain⟨rfl,rfl⟩:=e;exact absurd ⟨h5,h6,h7⟩ h
   ·exact⟨i',k',h3,zo,h5,h6,h7,h8⟩
theorem pickUp_min (T:List (List Rat)) (OB OC:List Bool) (n:Nat):∀k,MinP (Met T OB OC n k 0) (pickUp T OB OC n k)
 | 0=>fun q h=>by obtain⟨i',k',_,h2,_⟩:=h;omega
 | k+1=>(pickIn_min T OB OC n k (pickUp_min T OB OC n k) n (cA n)).congr fun q=>by
  constructor
  ·rintro⟨i',k',h3,h4,h5⟩;exact⟨i',k',h3,zo,h5⟩
  ·rintro⟨i',k',h3,h4,h5⟩;exact⟨i',k',h3,zo,h5⟩
theorem hit {P:List (Int×Rat)} (h:Nrm P) (k:Int):P.countP (fun t=>decide (t.1=k))=if pget P k≠0 then 1 else 0:=by
 induction P with
 | nil=>rw[pget_nil,fA (by simp)];rfl
 | cons t P ih =>
  have h1:=Rise.cons.1 h.rise;have h2:=h.nz t pA;rw[List.countP_cons,ih h.tail,zAg];by_cases e:t.1=k
  ·have h3:pget P k=0:=pget_none fun y hy=>by have:=h1.1 y hy;omega
   rw[fA (by simp[h3]),gA (by simp[e]),gA e,h3,uC,gA h2]
  ·rw[fA (show ¬decide (t.1=k)=true by simpa using e),fA e];rfl
theorem len_cnt {P:List (Int×Rat)} (h:Nrm P) (OC:List Bool) {n:Nat} (hP:∀t∈P,0≤t.1∧t.1<(n:Int)∧OC.getD t.1.toNat false=true):cntQ OC (fun k=>pget P (k:Int)) n=P.length:=by
 have key:∀m:Nat,cntQ OC (fun k=>pget P (k:Int)) m=P.countP (fun t=>decide (t.1<(m:Int))):=by
  intro m;induction m with
  | zero =>
   rw[List.countP_eq_zero.2 fun t ht=>by have:=hP t ht;simp;omega];rfl
  | succ m ih =>
   have h1:P.countP (fun t=>decide (t.1<((m+1:Nat):Int)))=P.countP (fun t=>decide (t.1<(m:Int)))+P.countP (fun t=>decide (t.1=(m:Int))):=by
    clear hP ih h;induction P with
    | nil=>rfl
    | cons t P ih =>
     rw[List.countP_cons,List.countP_cons,List.countP_cons,ih];by_cases e:t.1=(m:Int)
     ·rw[gA (by simp[e];omega),fA (by simp[e]),gA (by simp[e])];omega
     ·by_cases e2:t.1<(m:Int)
      ·rw[gA (by simp;omega),gA (by simpa using e2),fA (by simpa using e)];omega
      ·rw[fA (by simp;omega),fA (by simpa using e2),fA (by simpa using e)];omega
   rw[h1,hit h,←ih];show cntQ OC _ m+_=_
   congr 1
   by_cases e:pget P (m:Int)=0
   ·rw[fA fun c=>c.2 e,fA fun c=>c e]
   ·obtain⟨t,ht,h3⟩:=pget_mem e;have h4:=(hP t ht).2.2;rw[h3,eF] at h4;rw[gA ⟨h4,e⟩,gA e]
 rw[key,List.countP_eq_length];intro t ht;have:=hP t ht;simp
 omega
theorem bumps_get {P:List (Int×Rat)} (hP:∀t∈P,0≤t.1) (k:Nat):∀{C:List Int},k<C.length→(bumps C P).getD k 0=C.getD k 0+(P.countP (fun t=>decide (t.1=(k:Int))):Nat):=by
 induction P with
 | nil=>intro C _;show C.getD k 0=_;simp
 | cons t P ih =>
  intro C hk;show(bumps (bump C t.1) P).getD k 0=_
  have h0:=hP t pA;rw[ih (fun u hu=>hP u (qA _ hu)) (by rw[bump_len];exact hk),List.countP_cons];unfold bump
  rw[getD_set];by_cases e:t.1=(k:Int)
  ·have e2:t.1.toNat=k:=zo;rw[gA ⟨e2,hk⟩,gA (by simpa using e),e2];omega
  ·rw[fA (fun c=>e zo),fA (by simpa using e)];omega
theorem cnt_get {R:List (List (Int×Rat))} {OB:List Bool} (hR:∀r,Nrm (R.getD r [])∧∀t∈R.getD r [],0≤t.1) {k:Nat} (hk:k<R.length):∀i,(cntUp R OB i).getD k 0=(cntQ OB (fun r=>pget (R.getD r []) (k:Int)) i:Nat)
 | 0=>by
  show(List.replicate R.length (0:Int)).getD k 0=_
  rw[bA,cD,gA hk];rfl
 | i+1=>by
  have ih:=cnt_get hR hk (OB:=OB) i;unfold cntUp
  show _=((cntQ OB _ i+_:Nat):Int)
  split
  case isTrue ho =>
   rw[bumps_get (hR i).2 k (by rw[cnt_len];exact hk),ih,hit (hR i).1];by_cases e:pget (R.getD i []) (k:Int)=0
   ·rw[fA fun c=>c e,fA fun c=>c.2 e];omega
   ·rw[gA e,gA ⟨ho,e⟩];omega
  case isFalse ho =>
   rw[ih,fA fun c=>ho c.1];omega
structure OrdSt where
 T:List (List Rat)
 OB:List Bool
 OC:List Bool
 P:List (Int×Int)
def elimT (T:List (List Rat)) (OB:List Bool) (row col:Nat):Nat→List (List Rat)
 | 0=>T
 | i+1=>if OB.getD i false=true∧i≠row∧tq T i col≠0 then(elimT T OB row col i).set i (offF (T.getD i []) (tq T i col / tq T row col) (T.getD row [])) else elimT T OB row col i
def ordStep (n:Nat) (s:OrdSt) (p:Piv):OrdSt:=⟨elimT s.T s.OB p.row.toNat p.col.toNat n,s.OB.set p.row.toNat false,s.OC.set p.col.toNat false,s.P++[(p.row,p.col)]⟩
def ordUp (n:Nat) (s:OrdSt):Nat→OrdSt
 | 0=>s
 | k+1=>match pickF (ordUp n s k).T (ordUp n s k).OB (ordUp n s k).OC n with
  | none=>ordUp n s k
  | some p=>ordStep n (ordUp n s k) p
theorem ord_stop {n : Nat} {s : OrdSt} {k : Nat} (h : pickF (ordUp n s k).T (ordUp n s k).OB (ordUp n s k).OC n = none) : ∀ {m : Nat}, k ≤ m → ordUp n s m = ordUp n s k := by
  intro m hm;induction m with
  | zero => obtain rfl : k = 0 := by omega
            rfl
  | succ m ih =>
    by_cases e : k = m + 1
    · rw [e]
    · have h1 := ih zo
      show (match pickF (ordUp n s m).T (ordUp n s m).OB (ordUp n s m).OC n with | none => ordUp n s m | some p => ordStep n (ordUp n s m) p) = _
      rw [h1, h]
theorem ord_step {n:Nat} {s:OrdSt} {k:Nat} {p:Piv} (h:pickF (ordUp n s k).T (ordUp n s k).OB (ordUp n s k).OC n=some p):ordUp n s (k+1)=ordStep n (ordUp n s k) p:=by
 show(match pickF (ordUp n s k).T (ordUp n s k).OB (ordUp n s k).OC n with | none=>ordUp n s k | some p=>ordStep n (ordUp n s k) p)=_
 rw[h]
theorem elimT_len (T:List (List Rat)) (OB:List Bool) (row col:Nat):∀i,(elimT T OB row col i).length=T.length
 | 0=>rfl
 | i+1=>by
  unfold elimT
  split
  ·rw[nB,elimT_len T OB row col i]
  ·exact elimT_len T OB row col i
theorem elimT_later (T:List (List Rat)) (OB:List Bool) (row col:Nat):∀(i j:Nat),i≤j→(elimT T OB row col i)[j]?=T[j]?
 | 0,_,_=>rfl
 | i+1,j,h=>by
  unfold elimT
  split
  ·rw[rD zo,elimT_later T OB row col i j zo]
  ·exact elimT_later T OB row col i j zo
theorem elimT_row (T:List (List Rat)) (OB:List Bool) (row col:Nat) (j:Nat) (hj:j<T.length):∀i,(elimT T OB row col i).getD j []=if j<i∧OB.getD j false=true∧j≠row∧tq T j col≠0 then offF (T.getD j []) (tq T j col / tq T row col) (T.getD row []) else T.getD j []
 | 0=>by rw[fA zo];rfl
 | i+1=>by
  unfold elimT
  split
  case isTrue h =>
   rw[getD_set,elimT_row T OB row col j hj i,elimT_len];by_cases e:i=j
   ·subst e;rw[gA ⟨rfl,hj⟩,gA ⟨zo,h⟩]
   ·rw[fA (fun c=>e c.1)];by_cases h2:j<i
    ·simp[h2,show j<i+1 by omega]
    ·simp[h2,show ¬j<i+1 by omega]
  case isFalse h =>
   rw[elimT_row T OB row col j hj i];by_cases e:i=j
   ·subst e;rw[fA zo,fA (fun c=>h c.2)]
   ·by_cases h2:j<i
    ·simp[h2,show j<i+1 by omega]
    ·simp[h2,show ¬j<i+1 by omega]
def Sq (T:List (List Rat)) (n m:Nat):Prop:=T.length=n∧∀i,i<n→(T.getD i []).length=m
theorem elimT_sq {T:List (List Rat)} {n m:Nat} (h:Sq T n m) (OB:List Bool) {row:Nat} (hr:row<n) (col i:Nat):Sq (elimT T OB row col i) n m:=by
 refine⟨by rw[elimT_len,h.1],fun j hj=>?_⟩;rw[elimT_row T OB row col j (by rw[h.1];exact hj)];split
 ·rw[offF_len _ (by rw[h.2 j hj,h.2 row hr];exact cA _),h.2 j hj]
 ·exact h.2 j hj
theorem elimT_get {T:List (List Rat)} {n m:Nat} (h:Sq T n m) (OB:List Bool) {row col j k:Nat} (hr:row<n) (hj:j<n) (hk:k<m) (ho:OB.getD j false=true) (hjr:j≠row):tq (elimT T OB row col n) j k=tq T j k-tq T j col / tq T row col*tq T row k:=by
 unfold tq
 rw[elimT_row T OB row col j (by rw[h.1];exact hj)];by_cases e:tq T j col=0
 ·rw[fA (fun c=>c.2.2.2 e)];have e':(T.getD j []).getD col 0=0:=e;rw[e'];grind
 ·rw[gA ⟨hj,ho,hjr,e⟩,offF_get _ (by rw[h.2 j hj];exact hk) (by rw[h.2 row hr];exact hk)];rfl
theorem elimT_off {T:List (List Rat)} {n m:Nat} (h:Sq T n m) {OB:List Bool} {row col j k:Nat} (hj:j<n) (ho:OB.getD j false=false∨j=row):tq (elimT T OB row col n) j k=tq T j k:=by
 unfold tq
 rw[elimT_row T OB row col j (by rw[h.1];exact hj),fA (fun c=>by rcases ho with ho | ho;(· rw[ho] at c;exact absurd c.2.1 (by simp));exact c.2.2.1 ho)]
structure MtO (n:Nat) (s:FacSt) (o:OrdSt):Prop where
 inv:FacInv n s
 sq:Sq o.T n n
 hOB:o.OB=s.OB
 same:∀i,s.OB.getD i false=true→∀k,k<n→tq o.T i k=pget (s.R.getD i []) (k:Int)
 hOC:o.OC.length=n
 shut:∀k,k<n→(o.OC.getD k false=false↔∃st∈s.ST,st.col=(k:Int))
 hP:o.P=s.ST.map fun st=>(st.row,st.col)
theorem MtO.lt {n:Nat} {s:FacSt} {o:OrdSt} (h:MtO n s o) {i:Nat} (hi:s.OB.getD i false=true):i<n:=by
 rcases kB i n with h1 | h1
 ·exact h1
 ·rw[bA,bB (by rw[h.inv.hO];exact h1)] at hi;cases hi
theorem MtO.pick {n:Nat} {s:FacSt} {o:OrdSt} (h:MtO n s o):pickF o.T o.OB o.OC n=nextF s.R s.OB:=by
 refine(pickUp_min o.T o.OB o.OC n n).uniq ((best_min s.R s.OB (cntUp s.R s.OB s.R.length) s.R.length).congr fun q=>?_);have hopen:∀i,s.OB.getD i false=true→∀t∈s.R.getD i [],0≤t.1∧t.1<(n:Int)∧o.OC.getD t.1.toNat false=true:=fun i hi t ht=>by
  have h1:=(h.inv.row i).2 t ht;refine⟨h1.1,h1.2,?_⟩;cases e:o.OC.getD t.1.toNat false with
  | true=>rfl
  | false =>
   obtain⟨st,h2,h3⟩:=(h.shut t.1.toNat zo).1 e;have h4:=h.inv.free i hi st h2;rw[h3,sF h1.1] at h4;exact absurd h4 ((h.inv.row i).1.get_ne ht)
 have hcost:∀(i:Nat) (k:Nat),s.OB.getD i false=true→k<n→costT o.T o.OB o.OC n i k=(((s.R.getD i []).length:Int)-1)*((cntUp s.R s.OB s.R.length).getD k 0-1):=fun i k hi hk=>by
  unfold costT
  rw[cnt_get (fun r=>⟨(h.inv.row r).1,fun t ht=>((h.inv.row r).2 t ht).1⟩) (by rw[h.inv.hR];exact hk),h.inv.hR,h.hOB,
   cntQ_congr (B:=o.OC) (g:=fun k=>pget (s.R.getD i []) (k:Int)) (fun k hk _=>by rw[h.same i hi k hk]),
   len_cnt (h.inv.row i).1 o.OC (hopen i hi),
   cntQ_congr (B:=s.OB) (f:=fun r=>tq o.T r k) (g:=fun r=>pget (s.R.getD r []) (k:Int)) (fun r _ ho=>by rw[h.same r ho k hk])]
 constructor
 ·rintro⟨i,h1,h2,h3⟩;unfold cand at h3
  obtain⟨t,ht,rfl⟩:=tC.1 h3;have h4:=hopen i h2 t ht;have h5:((t.1.toNat:Nat):Int)=t.1:=sF h4.1;refine⟨i,t.1.toNat,h.lt h2,.inl zo,by rw[h.hOB];exact h2,h4.2.2,?_,?_⟩
  ·rw[h.same i h2 _ zo,h5];exact(h.inv.row i).1.get_ne ht
  ·rw[hcost i _ h2 zo,h5]
 ·rintro⟨i,k,h1,h2,h3,h4,h5,rfl⟩;rw[h.hOB] at h3;have hk:k<n:=zo;rw[h.same i h3 k hk] at h5;obtain⟨t,ht,e⟩:=pget_mem h5;refine⟨i,by rw[h.inv.hR];exact h1,h3,?_⟩;unfold cand
  refine tC.2 ⟨t,ht,?_⟩;rw[hcost i k h3 hk,e,eF]
theorem MtO.step {n:Nat} {s t:FacSt} {o:OrdSt} {p:Piv} (h:MtO n s o) (hp:nextF s.R s.OB=some p) (ht:facStep s=some t):MtO n t (ordStep n o p):=by
 obtain⟨h1,_⟩:=h.inv.step ht;obtain⟨r,hr,hrow,hopen,t0,ht0,hcol⟩:=next_mem hp;rw[h.inv.hR] at hr;have hc:=(h.inv.row r).2 t0 ht0;rw[hcol] at hc;obtain⟨c,hcc⟩:∃c:Nat,p.col=(c:Int):=⟨p.col.toNat,zo⟩;have hcn:c<n:=zo;have e1:p.row.toNat=r:=zo;have e2:p.col.toNat=c:=zo;have hpv:pget (s.R.getD r []) p.col≠0:=by rw[←hcol];exact(h.inv.row r).1.get_ne ht0
 have et:=(step_some (t:=s) (pc:=p.cost) (co:=p.col) (k:=r) (by rw[hp,←hrow])).symm.trans ht;have et:=(Option.some.inj et).symm;subst et;have hob:∀j,(s.OB.set r false).getD j false=true→s.OB.getD j false=true∧j≠r:=fun j hj=>by
  rw[getD_set] at hj;split at hj
  ·cases hj
  ·rename_i h9
   refine⟨hj,fun e=>?_⟩;subst e;exact h9 ⟨rfl,by rw[h.inv.hO];exact hr⟩
 refine⟨h1,?_,?_,?_,?_,?_,?_⟩
 ·show Sq (elimT o.T o.OB p.row.toNat p.col.toNat n) n n
  exact elimT_sq h.sq _ zo _ _
 ·show o.OB.set p.row.toNat false=s.OB.set r false
  rw[e1,h.hOB]
 ·intro j hj k hk;obtain⟨h2,h3⟩:=hob j hj;have hjn:=h.lt h2;show tq (elimT o.T o.OB p.row.toNat p.col.toNat n) j k=pget ((elimUp s.R (s.OB.set r false) p.col (pget (s.R.getD r []) p.col) (restF (s.R.getD r []) p.col) s.R.length).1.getD j []) (k:Int)
  rw[e1,e2,elimT_get h.sq o.OB hr hjn hk (by rw[h.hOB];exact h2) h3,elim_all_get hpv,taken_get,h.same j h2 k hk,h.same j h2 c hcn,h.same r hopen c hcn,h.same r hopen k hk,hcc];by_cases e:pget (s.R.getD j []) (c:Int)=0
  ·rw[fA (fun c=>c.2.2 e),e];grind
  ·rw[gA ⟨by rw[h.inv.hR];exact hjn,hj,e⟩]
 ·show(o.OC.set p.col.toNat false).length=n
  rw[nB,h.hOC]
 ·intro k hk;show(o.OC.set p.col.toNat false).getD k false=false↔∃st∈s.ST++[_],st.col=(k:Int)
  rw[e2,getD_set];by_cases e:c=k
  ·subst e;rw[gA ⟨rfl,by rw[h.hOC];exact hk⟩];refine⟨fun _=>⟨_,List.mem_append_right _ (cC.2 rfl),hcc⟩,fun _=>rfl⟩
  ·rw[fA (fun c=>e c.1),h.shut k hk];constructor
   ·rintro⟨st,h2,h3⟩;exact⟨st,List.mem_append_left _ h2,h3⟩
   ·rintro⟨st,h2,h3⟩;rcases bC.1 h2 with h4 | h4
    ·exact⟨st,h4,h3⟩
    ·obtain rfl:=cC.1 h4;exact absurd (show p.col=(k:Int) from h3) zo
 ·show o.P++[(p.row,p.col)]=(s.ST++[_]).map _
  rw[h.hP,jF,hrow];rfl
def tableT (C:List (List (Int×Rat))) (n:Nat):List (List Rat):=(List.range n).map fun(i:Nat)=>C.map fun c=>pget c (i:Int)
theorem tableT_row (C:List (List (Int×Rat))) {n i:Nat} (hi:i<n):(tableT C n).getD i []=C.map fun c=>pget c (i:Int):=by
 unfold tableT
 rw[bA,rA,rF hi];rfl
theorem tableT_get (C:List (List (Int×Rat))) {n i:Nat} (hi:i<n) (k:Nat):tq (tableT C n) i k=pget (C.getD k []) (i:Int):=by
 unfold tq
 rw[tableT_row C hi,bA,rA,bA];cases C[k]?<;>rfl
def ordT (C:List (List (Int×Rat))) (n:Nat):OrdSt:=⟨tableT C n,List.replicate n true,List.replicate n true,[]⟩
theorem mt_start {C:List (List (Int×Rat))} {n:Nat} (hl:C.length=n):MtO n (facT C n) (ordT C n) where
 inv:=lu_start hl
 sq:=⟨by show(tableT C n).length=n;unfold tableT;rw[cB,fF],fun i hi=>by
  show((tableT C n).getD i []).length=n
  rw[tableT_row C hi,cB,hl]⟩
 hOB:=rfl
 same:=fun i hi k hk=>by
  have hin:i<n:=by
   rcases kB i n with h1 | h1
   ·exact h1
   ·have hi:(List.replicate n true).getD i false=true:=hi;rw[bA,bB (by rw[nC];exact h1)] at hi;cases hi
  show tq (tableT C n) i k=pget ((turnT C n).getD i []) (k:Int)
  rw[tableT_get C hin,turnT_get C hin,turn_get,gA zo,eF]
 hOC:=nC
 shut:=fun k hk=>by
  show(List.replicate n true).getD k false=false↔∃st∈[],_
  rw[bA,cD,gA hk];simp
 hP:=rfl
theorem ord_match {C:List (List (Int×Rat))} {n:Nat} (hl:C.length=n):∀k,(∃t,facUp (facT C n) k=some t∧MtO n t (ordUp n (ordT C n) k)∧t.ST.length=k)∨(facUp (facT C n) k=none∧(ordUp n (ordT C n) k).P.length<k∧pickF (ordUp n (ordT C n) k).T (ordUp n (ordT C n) k).OB (ordUp n (ordT C n) k).OC n=none)
 | 0=>.inl ⟨_,rfl,mt_start hl,rfl⟩
 | k+1=>by
  rcases ord_match hl k with⟨t,h1,h2,h3⟩ | ⟨h1,h2,h3⟩
  ·have hf:facUp (facT C n) (k+1)=facStep t:=fac_more h1;cases hp:nextF t.R t.OB with
   | none =>
    refine .inr ⟨by rw[hf,step_none hp],?_⟩;have h4:pickF (ordUp n (ordT C n) k).T (ordUp n (ordT C n) k).OB (ordUp n (ordT C n) k).OC n=none:=by rw[h2.pick,hp]
    rw[ord_stop h4 (Nat.le_succ k)];refine⟨?_,h4⟩;rw[h2.hP,cB,h3];exact Nat.lt_succ_self k
   | some p =>
    have h4:pickF (ordUp n (ordT C n) k).T (ordUp n (ordT C n) k).OB (ordUp n (ordT C n) k).OC n=some p:=by rw[h2.pick,hp]
    have h5:∃u,facStep t=some u:=by unfold facStep;rw[hp];exact⟨_,rfl⟩
    obtain⟨u,hu⟩:=h5;refine .inl ⟨u,by rw[hf,hu],by rw[ord_step h4];exact h2.step hp hu,?_⟩;obtain⟨_,st,h6,_⟩:=h2.inv.step hu;rw[h6,yC,h3];rfl
  ·exact .inr ⟨by show(match facUp (facT C n) k with | none=>none | some t=>facStep t)=none;rw[h1],by rw[ord_stop h3 (Nat.le_succ k)];exact⟨zo,h3⟩⟩
theorem ord_yes {C:List (List (Int×Rat))} {n:Nat} {t:FacSt} (hl:C.length=n) (h:facUp (facT C n) n=some t):(ordUp n (ordT C n) n).P=t.ST.map (fun st=>(st.row,st.col))∧t.ST.length=n:=by
 rcases ord_match hl n with⟨u,h1,h2,h3⟩ | ⟨h1,_⟩
 ·obtain rfl:t=u:=Option.some.inj (h.symm.trans h1);exact⟨h2.hP,h3⟩
 ·rw[h] at h1;cases h1
theorem sz_frac {q:Rat} {a b:Int} {u v:Nat} (hb:b≠0) (h:q*(b:Rat)=(a:Rat)) (ha:a.natAbs<B ^ u) (hv:b.natAbs<B ^ v):sz q≤max u v:=by
 have key:∀a b:Int,0<b→q*(b:Rat)=(a:Rat)→a.natAbs<B ^ u→b.natAbs<B ^ v→sz q≤max u v:=fun a b hb h ha hv=>by
  have hb':(b:Rat)≠0:=fun c=>by have:=Rat.intCast_eq_zero_iff.1 c;omega
  have e:q=qof a b:=by
   rw[qof_eq];rw[←h,Rat.mul_div_cancel hb']
  rw[e];exact sz_qof hb (nl_le_of_lt ha) (nl_le_of_lt hv)
 rcases Int.lt_or_gt_of_ne hb with h1 | h1
 ·refine key (-a) (-b) zo ?_ (by rw[wF];exact ha) (by rw[wF];exact hv);rw[Rat.intCast_neg,Rat.intCast_neg,←h];grind
 ·exact key a b h1 h ha hv
theorem pow_mono {a b:Nat} (h:a≤b):2 ^ a≤2 ^ b:=mC (Nat.succ_pos 1) h
theorem lt_words {a x w:Nat} (h:a≤2 ^ x) (hx:x<64*w):a<B ^ w:=by
 have e:B=2 ^ 64:=rfl;rw[e,←eE];exact pB h (Nat.pow_lt_pow_right zo hx)
theorem words_le {a w:Nat} (h:nl a≤w):a≤2 ^ (64*w):=by
 have e:B=2 ^ 64:=rfl;have h1:=nl_le_iff.1 h;rw[e,←eE] at h1;exact Nat.le_of_lt h1
def Fine (n m:Nat) (I:Nat→Prop) (b e q:Nat) (G:Nat→Nat) (t:Nat→Nat→Rat):Prop :=
 ∃(c:Nat→Nat→Int) (d g:Nat→Int) (P:Int),P≠0∧P.natAbs≤2 ^ q∧(∀i,d i≠0∧(d i).natAbs≤2 ^ e)∧(∀k,g k≠0∧(g k).natAbs≤2 ^ G k)∧
  ∀i k,I i→i<n→k<m→(c i k).natAbs≤2 ^ (b+G k)∧t i k*((d i:Rat)*(g k:Rat)*(P:Rat))=(c i k:Rat)
theorem rat_ne {a:Int} (h:a≠0):(a:Rat)≠0:=fun c=>h (Rat.intCast_eq_zero_iff.1 c)
theorem Fine.sz {n m b e q:Nat} {I:Nat→Prop} {G:Nat→Nat} {t:Nat→Nat→Rat} (h:Fine n m I b e q G t) {i k w:Nat} (hi:I i) (hin:i<n) (hk:k<m) (h1:b+G k<64*w) (h2:e+G k+q<64*w):Go.Proofs.YteggjbgbknkoiaaGreatDoor.sz (t i k)≤w:=by
 obtain⟨c,d,g,P,hP,hP2,hd,hg,ht⟩:=h;obtain⟨h3,h4⟩:=ht i k hi hin hk;have h5:=sz_frac (q:=t i k) (a:=c i k) (b:=d i*g k*P) (u:=w) (v:=w) (vD (vD (hd i).1 (hg k).1) hP) (by rw[yB,yB];exact h4) (lt_words h3 h1)
  (lt_words (x:=e+G k+q) (by
   rw[rC,rC,wB,wB];exact pC (pC (hd i).2 (hg k).2) hP2) h2)
 omega
theorem Fine.quo {n m b e q:Nat} {I:Nat→Prop} {G:Nat→Nat} {t:Nat→Nat→Rat} (h:Fine n m I b e q G t) {i p k w:Nat} (hi:I i) (hp:I p) (hin:i<n) (hpn:p<n) (hk:k<m) (hG:G k=0) (h0:t p k≠0) (h1:b+e<64*w):Go.Proofs.YteggjbgbknkoiaaGreatDoor.sz (t i k / t p k)≤w:=by
 obtain⟨c,d,g,P,hP,hP2,hd,hg,ht⟩:=h;obtain⟨h3,h4⟩:=ht i k hi hin hk;obtain⟨h5,h6⟩:=ht p k hp hpn hk;rw[hG] at h3 h5;have e0:((d p:Rat)*(g k:Rat)*(P:Rat))≠0:=by
  have:=rat_ne (vD (vD (hd p).1 (hg k).1) hP);rwa [yB,yB] at this
 have e1:c p k≠0:=fun c0=>by
  rw[c0] at h6;rcases Rat.mul_eq_zero.1 h6 with h7 | h7
  ·exact h0 h7
  ·exact e0 h7
 have e2:t i k / t p k*t p k=t i k:=sD h0;have h7:=sz_frac (q:=t i k / t p k) (a:=c i k*d p) (b:=c p k*d i) (u:=w) (v:=w) (vD e1 (hd i).1)
  (by
   have e3:((g k:Rat)*(P:Rat))≠0:=by
    have:=rat_ne (vD (hg k).1 hP);rwa [yB] at this
   rw[yB,yB];generalize t i k / t p k=x at e2
   rw[←h4,←h6,←e2];grind)
  (lt_words (x:=b+e) (by rw[rC,wB];exact pC h3 (hd p).2) h1)
  (lt_words (x:=b+e) (by rw[rC,wB];exact pC h5 (hd i).2) h1)
 omega
theorem Fine.quo2 {n m b e q:Nat} {I:Nat→Prop} {G:Nat→Nat} {t:Nat→Nat→Rat} (h:Fine n m I b e q G t) {i k c w:Nat} (hi:I i) (hin:i<n) (hk:k<m) (hc:c<m) (h0:t i c≠0) (h1:b+G k+G c<64*w):Go.Proofs.YteggjbgbknkoiaaGreatDoor.sz (t i k / t i c)≤w:=by
 obtain⟨f,d,g,P,hP,hP2,hd,hg,ht⟩:=h;obtain⟨h3,h4⟩:=ht i k hi hin hk;obtain⟨h5,h6⟩:=ht i c hi hin hc;have e0:((d i:Rat)*(g c:Rat)*(P:Rat))≠0:=by
  have:=rat_ne (vD (vD (hd i).1 (hg c).1) hP);rwa [yB,yB] at this
 have e1:f i c≠0:=fun c0=>by
  rw[c0] at h6;rcases Rat.mul_eq_zero.1 h6 with h7 | h7
  ·exact h0 h7
  ·exact e0 h7
 have e2:t i k / t i c*t i c=t i k:=sD h0;have h7:=sz_frac (q:=t i k / t i c) (a:=f i k*g c) (b:=f i c*g k) (u:=w) (v:=w) (vD e1 (hg k).1)
  (by
   rw[yB,yB];generalize t i k / t i c=x at e2
   rw[←h4,←h6,←e2];grind)
  (lt_words (x:=b+G k+G c) (by rw[rC,wB];exact pC h3 (hg c).2) h1)
  (lt_words (x:=b+G k+G c) (by rw[rC,show b+G k+G c=(b+G c)+G k by omega,wB];exact pC h5 (hg k).2) h1)
 omega
theorem two_bits {a b c d:Int} {x y z:Nat} (ha:a.natAbs≤2 ^ x) (hb:b.natAbs≤2 ^ (y+z)) (hc:c.natAbs≤2 ^ x) (hd:d.natAbs≤2 ^ (y+z)):(a*b-c*d).natAbs≤2 ^ (x+y+1+z):=by
 have h1:(a*b).natAbs≤2 ^ (x+(y+z)):=by rw[rC,wB];exact pC ha hb
 have h2:(c*d).natAbs≤2 ^ (x+(y+z)):=by rw[rC,wB];exact pC hc hd
 have h3:2 ^ (x+y+1+z)=2*2 ^ (x+(y+z)):=by rw[show x+y+1+z=(x+(y+z))+1 by omega,dB,tA]
 rw[h3];omega
theorem Fine.step {n m b e q:Nat} {I I':Nat→Prop} {G:Nat→Nat} {t t':Nat→Nat→Rat} (h:Fine n m I b e q G t) {p k:Nat} (hp:I p) (hpn:p<n) (hk:k<m) (hG:G k=0) (h0:t p k≠0) (hI:∀i,I' i→I i)
  (h1:∀i j,I' i→i<n→j<m→i≠p→t' i j=t i j-t i k / t p k*t p j) (h2:∀j,I' p→j<m→t' p j=t p j):Fine n m I' (b+b+1) e (q+b) G t':=by
 obtain⟨c,d,g,P,hP,hP2,hd,hg,ht⟩:=h;obtain⟨h5,h6⟩:=ht p k hp hpn hk;rw[hG] at h5;have e0:((d p:Rat)*(g k:Rat)*(P:Rat))≠0:=by
  have:=rat_ne (vD (vD (hd p).1 (hg k).1) hP);rwa [yB,yB] at this
 have e1:c p k≠0:=fun c0=>by
  rw[c0] at h6;rcases Rat.mul_eq_zero.1 h6 with h7 | h7
  ·exact h0 h7
  ·exact e0 h7
 refine⟨fun i j=>if i=p then c p k*c p j else c p k*c i j-c i k*c p j,d,g,P*c p k,vD hP e1,?_,hd,hg,fun i j hi hin hj=>?_⟩
 ·rw[rC,wB];exact pC hP2 h5
 ·obtain⟨h7,h8⟩:=ht p j hp hpn hj;by_cases ei:i=p
  ·subst ei;simp only[if_true]
   refine⟨?_,?_⟩
   ·have:=two_bits (a:=c i k) (b:=c i j) (c:=0) (d:=0) (x:=b) (y:=b) (z:=G j) h5 h7 (nA _) (nA _);rwa [Int.mul_zero,Int.sub_zero] at this
   ·rw[h2 j hi hj,yB,yB,←h8,←h6];grind
  ·simp only[fA ei]
   obtain⟨h9,h10⟩:=ht i j (hI i hi) hin hj;obtain⟨h11,h12⟩:=ht i k (hI i hi) hin hk;rw[hG] at h11;refine⟨two_bits h5 h9 h11 h7,?_⟩;have e2:t i k / t p k*t p k=t i k:=sD h0;rw[h1 i j hi hin hj ei,Rat.intCast_sub,yB,yB,yB,←h8,←h6,←h10,←h12];generalize t i k / t p k=x at e2
   rw[←e2];grind
theorem Fine.mono {n m b e q b' q':Nat} {I:Nat→Prop} {G:Nat→Nat} {t:Nat→Nat→Rat} (h:Fine n m I b e q G t) (hb:b≤b') (hq:q≤q'):Fine n m I b' e q' G t:=by
 obtain⟨c,d,g,P,hP,hP2,hd,hg,ht⟩:=h;exact⟨c,d,g,P,hP,kA hP2 (mC zo hq),hd,hg,fun i k hi hin hk=>⟨kA (ht i k hi hin hk).1 (mC zo zo),(ht i k hi hin hk).2⟩⟩
theorem Fine.next {n m k:Nat} {I I':Nat→Prop} {G:Nat→Nat} {t t':Nat→Nat→Rat} (h:Fine n m I (897*2 ^ k-1) 896 (897*2 ^ k) G t) {p c:Nat} (hp:I p) (hpn:p<n) (hk:c<m) (hG:G c=0) (h0:t p c≠0) (hI:∀i,I' i→I i)
  (h1:∀i j,I' i→i<n→j<m→i≠p→t' i j=t i j-t i c / t p c*t p j) (h2:∀j,I' p→j<m→t' p j=t p j):Fine n m I' (897*2 ^ (k+1)-1) 896 (897*2 ^ (k+1)) G t':=by
 have e:=h.step hp hpn hk hG h0 hI h1 h2;have h3:1≤2 ^ k:=Nat.one_le_two_pow;have h4:2 ^ (k+1)=2*2 ^ k:=by rw[dB,tA]
 exact e.mono (by rw[h4];omega) (by rw[h4];omega)
theorem pow_seven {k:Nat} (h:k≤7):2 ^ k≤128:=mC (show 2 > 0 by omega) h
theorem rat_num (x:Rat):x*((x.den:Int):Rat)=(x.num:Rat):=by
 have h:(x.num:Rat) / ((x.den:Int):Rat)=x:=by rw[←qof_eq,qof_self]
 have h0:((x.den:Int):Rat)≠0:=rat_ne (zi x.den_nz);have h1:(x.num:Rat) / ((x.den:Int):Rat)*((x.den:Int):Rat)=(x.num:Rat):=sD h0;rwa [h] at h1
theorem den_all:∀(L:List Rat),(∀x∈L,sz x≤2)→∃d:Int,d≠0∧d.natAbs≤2 ^ (128*L.length)∧∀x∈L,∃c:Int,x*(d:Rat)=(c:Rat)∧c.natAbs≤2 ^ (128*L.length)
 | [],_=>⟨1,by decide,by simp,fun x hx=>by cases hx⟩
 | x :: L,h=>by
  obtain⟨d,h1,h2,h3⟩:=den_all L fun y hy=>h y (qA _ hy);have hx:=h x pA;unfold sz at hx
  have hn:=words_le (show nl x.num.natAbs≤2 by omega);have hd:=words_le (show nl x.den≤2 by omega);have hd0:((x.den:Nat):Int)≠0:=zi x.den_nz;have ex:x*((x.den:Int):Rat)=(x.num:Rat):=rat_num x;have e4:2 ^ (128*(x :: L).length)=2 ^ (64*2)*2 ^ (128*L.length):=by rw[qC,←wB];congr 1;omega
  refine⟨(x.den:Int)*d,vD hd0 h1,?_,fun y hy=>?_⟩
  ·rw[rC,xE,e4];exact pC hd h2
  ·rcases sB.1 hy with rfl | hy
   ·refine⟨y.num*d,?_,?_⟩
    ·rw[yB,yB,←ex];grind
    ·rw[rC,e4];exact pC hn h2
   ·obtain⟨c,h5,h6⟩:=h3 y hy;refine⟨(x.den:Int)*c,?_,?_⟩
    ·rw[yB,yB,←h5];grind
    ·rw[rC,xE,e4];exact pC hd h6
theorem den_side:∀(P:List (Int×Rat)),(∀x∈P,sz x.2≤2)→∃d:Int,d≠0∧d.natAbs≤2 ^ (128*P.length)∧∀a,∃c:Int,pget P a*(d:Rat)=(c:Rat)∧c.natAbs≤P.length*2 ^ (128*P.length)
 | [],_=>⟨1,by decide,by simp,fun a=>⟨0,by rw[pget_nil];exact nE _,by simp⟩⟩
 | x :: P,h=>by
  obtain⟨d,h1,h2,h3⟩:=den_side P fun y hy=>h y (qA _ hy);have hx:=h x pA;unfold sz at hx
  have hn:=words_le (show nl x.2.num.natAbs≤2 by omega);have hd:=words_le (show nl x.2.den≤2 by omega);have hd0:((x.2.den:Nat):Int)≠0:=zi x.2.den_nz;have ex:x.2*((x.2.den:Int):Rat)=(x.2.num:Rat):=rat_num x.2;have e4:2 ^ (128*(x :: P).length)=2 ^ (64*2)*2 ^ (128*P.length):=by rw[qC,←wB];congr 1;omega
  refine⟨(x.2.den:Int)*d,vD hd0 h1,?_,fun a=>?_⟩
  ·rw[rC,xE,e4];exact pC hd h2
  ·obtain⟨c,h5,h6⟩:=h3 a;rw[zAg];have k1:((x.2.den:Int)*c).natAbs≤P.length*2 ^ (128*(x :: P).length):=by
    rw[rC,xE,e4,kD];exact pC hd h6
   have k2:(x.2.num*d).natAbs≤2 ^ (128*(x :: P).length):=by rw[rC,e4];exact pC hn h2
   by_cases e:x.1=a
   ·refine⟨x.2.num*d+(x.2.den:Int)*c,?_,?_⟩
    ·rw[gA e,Rat.intCast_add,yB,yB,yB,←h5,←ex];grind
    ·rw[qC,aC,dE];rw[qC] at k1 k2;omega
   ·refine⟨(x.2.den:Int)*c,?_,?_⟩
    ·rw[fA e,yB,yB,←h5];grind
    ·rw[qC,aC,dE];rw[qC] at k1;exact kA k1 (Nat.le_add_right _ _)
theorem Fine.start {n m:Nat} {t:Nat→Nat→Rat} (hm:m≤7) (h:∀i k,i<n→k<m→Go.Proofs.YteggjbgbknkoiaaGreatDoor.sz (t i k)≤2) (I:Nat→Prop):Fine n m I 896 896 0 (fun _=>0) t:=by
 obtain⟨N,hN⟩:∃N:Nat,896=N:=⟨_,rfl⟩;rw[hN];have key:∀i,∃d:Int,d≠0∧d.natAbs≤2 ^ N∧∀k,i<n→k<m→∃c:Int,t i k*(d:Rat)=(c:Rat)∧c.natAbs≤2 ^ N:=fun i=>by
  by_cases hi:i<n
  ·obtain⟨d,h1,h2,h3⟩:=den_all ((List.range m).map fun k=>t i k) fun x hx=>by
    obtain⟨k,hk,rfl⟩:=tC.1 hx;exact h i k hi (xF.1 hk)
   rw[cB,fF] at h2 h3;have h4:2 ^ (128*m)≤2 ^ N:=pow_mono zo;refine⟨d,h1,kA h2 h4,fun k _ hk=>?_⟩;obtain⟨c,h5,h6⟩:=h3 (t i k) (tC.2 ⟨k,xF.2 hk,rfl⟩);exact⟨c,h5,kA h6 h4⟩
  ·exact⟨1,by decide,Nat.one_le_two_pow,fun k hi'=>absurd hi' hi⟩
 have key2:∀i k,∃c:Int,i<n→k<m→t i k*((Classical.choose (key i):Int):Rat)=(c:Rat)∧c.natAbs≤2 ^ N:=fun i k=>by
  by_cases hi:i<n∧k<m
  ·obtain⟨c,hc⟩:=(Classical.choose_spec (key i)).2.2 k hi.1 hi.2;exact⟨c,fun _ _=>hc⟩
  ·exact⟨0,fun h1 h2=>absurd ⟨h1,h2⟩ hi⟩
 refine⟨fun i k=>Classical.choose (key2 i k),fun i=>Classical.choose (key i),fun _=>1,1,by decide,Nat.one_le_two_pow,fun i=>⟨(Classical.choose_spec (key i)).1,(Classical.choose_spec (key i)).2.1⟩,fun _=>⟨Int.one_ne_zero,Nat.one_le_two_pow⟩,fun i k _ hi hk=>?_⟩;have h1:=Classical.choose_spec (key2 i k) hi hk;refine⟨h1.2,?_⟩;rw[←h1.1];have e:((1:Int):Rat)=1:=rfl;rw[e];grind
def gside (n k:Nat):Nat:=if k<n then 0 else 1027
theorem Fine.side {n:Nat} {t:Nat→Nat→Rat} (hn:n≤7) (h:∀i k,i<n→k<n→Go.Proofs.YteggjbgbknkoiaaGreatDoor.sz (t i k)≤2) {P:List (Int×Rat)} (hP:∀x∈P,Go.Proofs.YteggjbgbknkoiaaGreatDoor.sz x.2≤2) (hl:P.length≤8) (ht:∀i,i<n→t i n=pget P (i:Int)) (I:Nat→Prop) :
  Fine n (n+1) I 896 896 0 (gside n) t:=by
 have hcs:=Fine.start (n:=n) (m:=n) (t:=t) hn h I;unfold gside
 obtain⟨N,hN⟩:∃N:Nat,896=N:=⟨_,rfl⟩;obtain⟨N2,hN2⟩:∃N:Nat,1024=N:=⟨_,rfl⟩;obtain⟨N3,hN3⟩:∃N:Nat,1027=N:=⟨_,rfl⟩;rw[hN] at hcs ⊢;rw[hN3];obtain⟨c,d,g,Q,hQ,hQ2,hd,hg,hc⟩:=hcs;obtain⟨f,f1,f2,f3⟩:=den_side P hP;have h4:2 ^ (128*P.length)≤2 ^ N2:=pow_mono zo;have key:∀a:Int,∃c:Int,pget P a*(f:Rat)=(c:Rat)∧c.natAbs≤2 ^ N3:=fun a=>by
  obtain⟨c,c1,c2⟩:=f3 a;refine⟨c,c1,kA c2 (kA (pC hl h4) (by rw[show(8:Nat)=2 ^ 3 from rfl,←wB];exact pow_mono zo))⟩
 refine⟨fun i k=>if k<n then c i k*1 else Classical.choose (key (i:Int))*(d i*Q),d,fun k=>if k<n then g k else f,Q,hQ,hQ2,hd,fun k=>?_,fun i k hI hi hk=>?_⟩
 ·dsimp only
  by_cases e:k<n
  ·rw[gA e,gA e];exact hg k
  ·rw[fA e,fA e];exact⟨f1,kA f2 (kA h4 (pow_mono zo))⟩
 ·by_cases e:k<n
  ·simp only[gA e,Int.mul_one];exact hc i k hI hi e
  ·obtain rfl:k=n:=zo;have h5:=Classical.choose_spec (key (i:Int));simp only[fA e]
   refine⟨?_,?_⟩
   ·rw[rC,rC,show N+N3=N3+(N+0) by omega,wB _ N3,wB _ N];exact pC h5.2 (pC (hd i).2 hQ2)
   ·rw[ht i hi,yB,yB,←h5.1];grind
def sumQ (f:Nat→Rat):Nat→Rat
 | 0=>0
 | m+1=>sumQ f m+f m
theorem sumQ_congr {f g:Nat→Rat}:∀{m:Nat},(∀k,k<m→f k=g k)→sumQ f m=sumQ g m
 | 0,_=>rfl
 | m+1,h=>by show sumQ f m+f m=sumQ g m+g m;rw[sumQ_congr fun k hk=>h k zo,h m zo]
theorem sumQ_zero {f:Nat→Rat}:∀{m:Nat},(∀k,k<m→f k=0)→sumQ f m=0
 | 0,_=>rfl
 | m+1,h=>by show sumQ f m+f m=0;rw[sumQ_zero fun k hk=>h k zo,h m zo,uC]
theorem sumQ_sub (f g:Nat→Rat) (q:Rat):∀m,sumQ (fun k=>f k-q*g k) m=sumQ f m-q*sumQ g m
 | 0=>by show(0:Rat)=0-q*0;grind
 | m+1=>by show sumQ (fun k=>f k-q*g k) m+(f m-q*g m)=(sumQ f m+f m)-q*(sumQ g m+g m);rw[sumQ_sub f g q m];grind
theorem sumQ_one {f:Nat→Rat} {k:Nat}:∀{m:Nat},k<m→(∀j,j<m→j≠k→f j=0)→sumQ f m=f k
 | m+1,hk,h=>by
  show sumQ f m+f m=f k
  by_cases e:k=m
  ·subst e;rw[sumQ_zero fun j hj=>h j zo zo,fE]
  ·rw[sumQ_one zo fun j hj=>h j zo,h m zo (fun c=>e c.symm),uC]
theorem sumQ_two {f:Nat→Rat} {i k:Nat} (hik:i<k):∀{m:Nat},k<m→(∀j,j<m→j≠i→j≠k→f j=0)→sumQ f m=f i+f k
 | m+1,hk,h=>by
  show sumQ f m+f m=f i+f k
  by_cases e:k=m
  ·subst e;rw[sumQ_one hik fun j hj hji=>h j zo hji zo]
  ·rw[sumQ_two hik zo fun j hj=>h j zo,h m zo zo (fun c=>e c.symm),uC]
def rowQ (T:List (List Rat)) (i:Nat) (z:Nat→Rat) (m:Nat):Rat:=sumQ (fun k=>tq T i k*z k) m
def swapT (T:List (List Rat)) (k a:Nat):List (List Rat):=(T.set k (T.getD a [])).set a (T.getD k [])
theorem swapT_row {T:List (List Rat)} {k a i:Nat} (hk:k<T.length) (ha:a<T.length):(swapT T k a).getD i []=if i=a then T.getD k [] else if i=k then T.getD a [] else T.getD i []:=by
 unfold swapT
 rw[getD_set,getD_set,nB];by_cases h:i=a
 ·rw[gA ⟨h.symm,zo⟩,gA h]
 ·rw[fA (fun c=>h c.1.symm),fA h];by_cases h2:i=k
  ·rw[gA ⟨h2.symm,zo⟩,gA h2]
  ·rw[fA (fun c=>h2 c.1.symm),fA h2]
theorem swapT_get {T:List (List Rat)} {k a i:Nat} (hk:k<T.length) (ha:a<T.length) (j:Nat):tq (swapT T k a) i j=if i=a then tq T k j else if i=k then tq T a j else tq T i j:=by
 unfold tq
 rw[swapT_row hk ha];split
 ·rfl
 ·split<;>rfl
theorem swapT_sq {T:List (List Rat)} {n m k a:Nat} (h:Sq T n m) (hk:k<n) (ha:a<n):Sq (swapT T k a) n m:=by
 refine⟨by unfold swapT;rw[nB,nB,h.1],fun i hi=>?_⟩;rw[swapT_row (by rw[h.1];exact hk) (by rw[h.1];exact ha)];split
 ·exact h.2 k hk
 ·split
  ·exact h.2 a ha
  ·exact h.2 i hi
theorem Fine.swap {n m b e q k a:Nat} {G:Nat→Nat} {T:List (List Rat)} (h:Fine n m (fun _=>True) b e q G (tq T)) (hk:k<n) (ha:a<n) (hT:T.length=n):Fine n m (fun _=>True) b e q G (tq (swapT T k a)):=by
 obtain⟨c,d,g,P,hP,hP2,hd,hg,ht⟩:=h;refine⟨fun i j=>c (if i=a then k else if i=k then a else i) j,fun i=>d (if i=a then k else if i=k then a else i),g,P,hP,hP2,fun i=>hd _,hg,fun i j _ hi hj=>?_⟩;have e1:tq (swapT T k a) i j=tq T (if i=a then k else if i=k then a else i) j:=by
  rw[swapT_get zo zo];split
  ·rfl
  ·split<;>rfl
 rw[e1];refine ht _ j trivial ?_ hj;split
 ·exact hk
 ·split
  ·exact ha
  ·exact hi
structure GJ (n:Nat) (T0:List (List Rat)) (k:Nat) (T:List (List Rat)):Prop where
 sq:Sq T n (n+1)
 fine:Fine n (n+1) (fun _=>True) (897*2 ^ k-1) 896 (897*2 ^ k) (gside n) (tq T)
 diag:∀j,j<k→tq T j j≠0
 zero:∀j,j<k→∀i,i<n→i≠j→tq T i j=0
 eqv:∀z:Nat→Rat,(∀i,i<n→rowQ T i z (n+1)=0)→∀i,i<n→rowQ T0 i z (n+1)=0
theorem ones_get {n i:Nat} (hi:i<n):(List.replicate n true).getD i false=true:=by rw[bA,cD,gA hi];rfl
theorem GJ.step {n k a:Nat} {T0 T:List (List Rat)} (h:GJ n T0 k T) (hk:k<n) (hka:k≤a) (ha:a<n) (h0:tq T a k≠0):GJ n T0 (k+1) (elimT (swapT T k a) (List.replicate n true) k k n):=by
 obtain⟨T1,hT1⟩:∃T1,T1=swapT T k a:=⟨_,rfl⟩;have hs1:Sq T1 n (n+1):=by rw[hT1];exact swapT_sq h.sq hk ha
 have hg1:∀i j,tq T1 i j=if i=a then tq T k j else if i=k then tq T a j else tq T i j:=fun i j=>by rw[hT1];exact swapT_get (by rw[h.sq.1];exact hk) (by rw[h.sq.1];exact ha) j
 have h1:tq T1 k k≠0:=by
  rw[hg1];by_cases e:k=a
  ·rw[gA e];rw[←e] at h0;exact h0
  ·rw[fA e,gA rfl];exact h0
 have hf1:Fine n (n+1) (fun _=>True) (897*2 ^ k-1) 896 (897*2 ^ k) (gside n) (tq T1):=by rw[hT1];exact h.fine.swap hk ha h.sq.1
 have hz1:∀j,j<k→∀i,i<n→i≠j→tq T1 i j=0:=fun j hj i hi hij=>by
  rw[hg1];split
  ·exact h.zero j hj k hk zo
  ·split
   ·exact h.zero j hj a ha zo
   ·exact h.zero j hj i hi hij
 have hd1:∀j,j<k→tq T1 j j≠0:=fun j hj=>by
  rw[hg1,fA zo,fA zo];exact h.diag j hj
 have he1:∀z:Nat→Rat,(∀i,i<n→rowQ T1 i z (n+1)=0)→∀i,i<n→rowQ T i z (n+1)=0:=fun z hz i hi=>by
  have e:∃i',i'<n∧∀j,tq T1 i' j=tq T i j:=by
   by_cases e1:i=k
   ·exact⟨a,ha,fun j=>by rw[hg1,gA rfl,e1]⟩
   ·by_cases e2:i=a
    ·refine⟨k,hk,fun j=>?_⟩;rw[hg1,fA zo,gA rfl,e2]
    ·exact⟨i,hi,fun j=>by rw[hg1,fA e2,fA e1]⟩
  obtain⟨i',h2,h3⟩:=e;have h4:=hz i' h2;unfold rowQ at h4 ⊢
  rw[←h4];exact sumQ_congr fun j _=>by rw[h3]
 rw[←hT1];have hgo:∀i j,i<n→j<n+1→i≠k→tq (elimT T1 (List.replicate n true) k k n) i j=tq T1 i j-tq T1 i k / tq T1 k k*tq T1 k j:=fun i j hi hj hik=>elimT_get hs1 _ hk hi hj (ones_get hi) hik;have hgk:∀j,tq (elimT T1 (List.replicate n true) k k n) k j=tq T1 k j:=fun j=>elimT_off hs1 hk (.inr rfl);refine⟨elimT_sq hs1 _ hk _ _,?_,?_,?_,?_⟩
 ·exact hf1.next (p:=k) (c:=k) trivial hk zo (by unfold gside;rw[gA hk]) h1 (fun _ _=>trivial) (fun i j _ hi hj hik=>hgo i j hi hj hik) (fun j _ _=>hgk j)
 ·intro j hj;by_cases e:j=k
  ·rw[e,hgk];exact h1
  ·rw[hgo j j zo zo e,hz1 j zo k hk zo,uE];have:=hd1 j zo;grind
 ·intro j hj i hi hij;by_cases e:i=k
  ·rw[e,hgk];exact hz1 j zo k hk zo
  ·rw[hgo i j hi zo e];by_cases e2:j=k
   ·rw[e2,sD h1];grind
   ·rw[hz1 j zo k hk zo,hz1 j zo i hi hij,uE];grind
 ·intro z hz;refine h.eqv z (he1 z fun i hi=>?_);have hzk:=hz k hk;have ek:rowQ (elimT T1 (List.replicate n true) k k n) k z (n+1)=rowQ T1 k z (n+1):=by unfold rowQ;exact sumQ_congr fun j _=>by rw[hgk]
  by_cases e:i=k
  ·rw[e,←ek];exact hzk
  ·have hzi:=hz i hi;have ei:rowQ (elimT T1 (List.replicate n true) k k n) i z (n+1)=rowQ T1 i z (n+1)-tq T1 i k / tq T1 k k*rowQ T1 k z (n+1):=by
    unfold rowQ
    rw[←sumQ_sub];exact sumQ_congr fun j hj=>by rw[hgo i j hi hj e];grind
   rw[ei,←ek,hzk,uE] at hzi;grind
theorem GJ.none {n k:Nat} {T0 T:List (List Rat)} (h:GJ n T0 k T) (hk:k<n) (h0:∀a,k≤a→a<n→tq T a k=0):∃z:Nat→Rat,z k≠0∧z n=0∧∀i,i<n→rowQ T0 i z (n+1)=0:=by
 refine⟨fun j=>if j<k then -(tq T j k / tq T j j) else if j=k then 1 else 0,?_,?_,h.eqv _ fun i hi=>?_⟩
 ·simp
 ·simp only
  rw[fA zo,fA zo]
 ·unfold rowQ
  by_cases e:i<k
  ·rw[sumQ_two (i:=i) (k:=k) e zo fun j hj hji hjk=>by
    by_cases e2:j<k
    ·rw[h.zero j e2 i hi (fun c=>hji c.symm),nE]
    ·simp only;rw[fA e2,fA hjk,uE]]
   have h1:=h.diag i e;have h2:tq T i k / tq T i i*tq T i i=tq T i k:=sD h1;simp only[gA e,Nat.lt_irrefl,if_false,if_true]
   grind
  ·refine sumQ_zero fun j hj=>?_;by_cases e2:j<k
   ·rw[h.zero j e2 i hi zo,nE]
   ·by_cases e3:j=k
    ·rw[e3,h0 i zo hi,nE]
    ·simp only
     rw[fA e2,fA e3,uE]
theorem GJ.sz {n k:Nat} {T0 T:List (List Rat)} (h:GJ n T0 k T) (hk:k≤7) {i j:Nat} (hi:i<n) (hj:j<n+1):Go.Proofs.YteggjbgbknkoiaaGreatDoor.sz (tq T i j)≤1825:=by
 have h1:=pow_seven hk;have h2:gside n j≤1027:=by unfold gside;split<;>omega
 exact h.fine.sz trivial hi hj zo zo
theorem GJ.quo {n k:Nat} {T0 T:List (List Rat)} (h:GJ n T0 k T) (hk:k≤7) {i p c:Nat} (hi:i<n) (hp:p<n) (hc:c<n) (h0:tq T p c≠0):Go.Proofs.YteggjbgbknkoiaaGreatDoor.sz (tq T i c / tq T p c)≤1825:=by
 have h1:=pow_seven hk;exact h.fine.quo trivial trivial hi hp (show c<n+1 by omega) (by unfold gside;rw[gA hc]) h0 zo
theorem GJ.last {n k:Nat} {T0 T:List (List Rat)} (h:GJ n T0 k T) (hk:k≤7) {i:Nat} (hi:i<n) (h0:tq T i i≠0):Go.Proofs.YteggjbgbknkoiaaGreatDoor.sz (tq T i n / tq T i i)≤1825:=by
 have h1:=pow_seven hk;have h2:gside n n=1027:=by unfold gside;rw[fA (Nat.lt_irrefl n)]
 have h3:gside n i=0:=by unfold gside;rw[gA hi]
 exact h.fine.quo2 trivial hi (Nat.lt_succ_self n) zo h0 zo
def augT (T:List (List Rat)) (f:Nat→Rat) (n:Nat):List (List Rat):=(List.range n).map fun i=>T.getD i []++[f i]
theorem augT_row {T:List (List Rat)} {f:Nat→Rat} {n i:Nat} (hi:i<n):(augT T f n).getD i []=T.getD i []++[f i]:=by
 unfold augT
 rw[bA,rA,rF hi];rfl
theorem augT_get {T:List (List Rat)} {f:Nat→Rat} {n i k:Nat} (h:Sq T n n) (hi:i<n) (hk:k<n):tq (augT T f n) i k=tq T i k:=by
 unfold tq
 rw[augT_row hi,bA,gF (by rw[h.2 i hi];exact hk),←bA]
theorem augT_last {T:List (List Rat)} {f:Nat→Rat} {n i:Nat} (h:Sq T n n) (hi:i<n):tq (augT T f n) i n=f i:=by
 unfold tq
 have e:(T.getD i []).length=n:=h.2 i hi;rw[augT_row hi,bA,fD zo,e,vE];rfl
theorem augT_sq {T:List (List Rat)} {f:Nat→Rat} {n:Nat} (h:Sq T n n):Sq (augT T f n) n (n+1):=by
 refine⟨by unfold augT;rw[cB,fF],fun i hi=>?_⟩;rw[augT_row hi,yC,h.2 i hi];rfl
theorem GJ.start {n:Nat} {T:List (List Rat)} {P:List (Int×Rat)} (h:Sq T n n) (hn:n≤7) (hT:∀i k,i<n→k<n→Go.Proofs.YteggjbgbknkoiaaGreatDoor.sz (tq T i k)≤2) (hP:∀x∈P,Go.Proofs.YteggjbgbknkoiaaGreatDoor.sz x.2≤2) (hl:P.length≤8):GJ n (augT T (fun i=>pget P (i:Int)) n) 0 (augT T (fun i=>pget P (i:Int)) n) where
 sq:=augT_sq h
 fine:=(Fine.side hn (fun i k hi hk=>by rw[augT_get h hi hk];exact hT i k hi hk) hP hl (fun i hi=>augT_last h hi) _).mono (by rw[Nat.pow_zero];omega) (nA _)
 diag:=fun j hj=>absurd hj (Nat.not_lt_zero _)
 zero:=fun j hj=>absurd hj (Nat.not_lt_zero _)
 eqv:=fun _ hz=>hz
theorem table_sq {C:List (List (Int×Rat))} {n:Nat} (hl:C.length=n):Sq (tableT C n) n n:=⟨by unfold tableT;rw[cB,fF],fun i hi=>by rw[tableT_row C hi,cB,hl]⟩
theorem pick_mem {T:List (List Rat)} {OB OC:List Bool} {n:Nat} {p:Piv} (h:pickF T OB OC n=some p):∃i k:Nat,i<n∧k<n∧OB.getD i false=true∧OC.getD k false=true∧tq T i k≠0∧p=⟨costT T OB OC n i k,(k:Int),(i:Int)⟩:=by
 have h1:MinP (Met T OB OC n n 0) (some p):=by rw[←h];exact pickUp_min T OB OC n n
 obtain⟨i,k,h2,h3,h4⟩:=h1.1;exact⟨i,k,h2,zo,h4⟩
structure OrdOk (n s:Nat) (o:OrdSt):Prop where
 sq:Sq o.T n n
 hB:o.OB.length=n
 hC:o.OC.length=n
 hP:o.P.length≤s
 small:∀i k,i<n→k<n→Go.Proofs.YteggjbgbknkoiaaGreatDoor.sz (tq o.T i k)≤1825
 fine:Fine n n (fun i=>o.OB.getD i false=true) (897*2 ^ s-1) 896 (897*2 ^ s) (fun _=>0) (tq o.T)
theorem OrdOk.quo {n s:Nat} {o:OrdSt} (h:OrdOk n s o) (hs:s≤7) {i p c:Nat} (hi:i<n) (hp:p<n) (hc:c<n) (ho:o.OB.getD i false=true) (ho2:o.OB.getD p false=true) (h0:tq o.T p c≠0):Go.Proofs.YteggjbgbknkoiaaGreatDoor.sz (tq o.T i c / tq o.T p c)≤1825:=by
 have h1:=pow_seven hs;exact h.fine.quo ho ho2 hi hp hc rfl h0 zo
theorem ord_ok {C:List (List (Int×Rat))} {n:Nat} (hl:C.length=n) (hn:n≤7) (hC:∀i k,i<n→k<n→Go.Proofs.YteggjbgbknkoiaaGreatDoor.sz (tq (tableT C n) i k)≤2):∀s,s≤7→OrdOk n s (ordUp n (ordT C n) s)
 | 0,_=>⟨table_sq hl,nC,nC,cA _,fun i k hi hk=>kA (hC i k hi hk) zo,(Fine.start hn hC _).mono (by rw[Nat.pow_zero];omega) (nA _)⟩
 | s+1,hs=>by
  have ih:=ord_ok hl hn hC s zo;have h1:=pow_seven hs;have h2:2 ^ (s+1)=2*2 ^ s:=by rw[dB,tA]
  cases hp:pickF (ordUp n (ordT C n) s).T (ordUp n (ordT C n) s).OB (ordUp n (ordT C n) s).OC n with
  | none =>
   rw[ord_stop hp (Nat.le_succ s)];exact⟨ih.sq,ih.hB,ih.hC,by have:=ih.hP;omega,ih.small,ih.fine.mono zo zo⟩
  | some p =>
   rw[ord_step hp];obtain⟨r,c,hr,hc,ho,_,h0,rfl⟩:=pick_mem hp;obtain⟨o,ho1⟩:∃o,o=ordUp n (ordT C n) s:=⟨_,rfl⟩;rw[←ho1] at ih ho h0 ⊢;have hop:∀i,(o.OB.set r false).getD i false=true→o.OB.getD i false=true∧i≠r:=fun i hi=>by
    rw[getD_set] at hi;split at hi
    ·cases hi
    ·rename_i h9
     refine⟨hi,fun e=>?_⟩;subst e;exact h9 ⟨rfl,by rw[ih.hB];exact hr⟩
   have hf:Fine n n (fun i=>(o.OB.set r false).getD i false=true) (897*2 ^ (s+1)-1) 896 (897*2 ^ (s+1)) (fun _=>0) (tq (elimT o.T o.OB r c n)) :=
    ih.fine.next (p:=r) (c:=c) ho hr hc rfl h0 (fun i hi=>(hop i hi).1) (fun i j hi hin hj hir=>elimT_get ih.sq o.OB hr hin hj (hop i hi).1 hir) (fun j hi _=>absurd rfl (hop r hi).2)
   refine⟨elimT_sq ih.sq _ hr _ _,by show(o.OB.set r false).length=n;rw[nB,ih.hB],by show(o.OC.set c false).length=n;rw[nB,ih.hC],by show(o.P++[_]).length≤s+1;rw[yC];have:=ih.hP;simp only[qC,List.length_nil];omega,fun i k hi hk=>?_,hf⟩;show Go.Proofs.YteggjbgbknkoiaaGreatDoor.sz (tq (elimT o.T o.OB r c n) i k)≤1825
   by_cases e:(o.OB.set r false).getD i false=true
   ·exact hf.sz (k:=k) e hi hk zo zo
   ·rw[elimT_off ih.sq hi]
    ·exact ih.small i k hi hk
    ·by_cases e2:i=r
     ·exact .inr e2
     ·left
      rw[getD_set,fA (fun c=>e2 c.1.symm)] at e;simpa using e
end Go.Proofs.YteggjbgbknkoiaaGreatDoor
