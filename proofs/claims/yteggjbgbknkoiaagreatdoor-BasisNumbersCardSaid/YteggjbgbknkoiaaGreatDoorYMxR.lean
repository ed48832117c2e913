import Derived.Test.YteggjbgbknkoiaaGreatDoorYMxT
import Derived.Test.YteggjbgbknkoiaaGreatDoorYMx2
set_option maxHeartbeats 8000000
set_option maxRecDepth 100000
namespace Go.Proofs.YteggjbgbknkoiaaGreatDoor
theorem idxP_get:∀(l:List Rat) (a:Int),pget (idxP l) a=if 0≤a∧a<(l.length:Int) then l.getD a.toNat 0 else 0:=by
 have key:∀(l:List Rat) (s:Nat) (a:Int),pget (l.mapIdx fun i q=>(((s+i:Nat):Int),q)) a=if(s:Int)≤a∧a<((s+l.length:Nat):Int) then l.getD (a.toNat-s) 0 else 0:=by
  intro l;induction l with
  | nil=>intro s a;rw[List.mapIdx_nil,pget_nil,uA (by rw[List.length_nil];omega)]
  | cons q l ih =>
   intro s a;rw[List.mapIdx_cons,zAe];have e:(l.mapIdx fun i q=>(((s+(i+1):Nat):Int),q))=l.mapIdx fun i q=>(((s+1+i:Nat):Int),q):=by
    congr 1
    funext i q
    congr 1
    omega
   rw[e,ih,eD];simp only[kD]
   by_cases h:(s:Int)=a
   ·rw[zA h,uA zo,zA zo,wC,show a.toNat-s=0 by omega];rfl
   ·rw[uA h];by_cases h2:(s:Int)≤a∧a<((s+(l.length+1):Nat):Int)
    ·rw[zA zo,zA h2,show a.toNat-s=(a.toNat-(s+1))+1 by omega,List.getD_cons_succ]
    ·rw[uA zo,uA h2]
 intro l a;have h:=key l 0 a;simp only[kC,Nat.sub_zero] at h
 unfold idxP
 simpa using h
def trnE (C:List (List (Int×Rat))):Nat→List (Int×Int×Rat)
 | 0=>[]
 | k+1=>trnE C k++(nrm (C.getD k [])).map fun x=>((k:Int),x.1,x.2)
def rowE (E:List (Int×Int×Rat)) (i:Int):List (Int×Rat):=(E.filter fun e=>decide (e.2.1=i)).map fun e=>(e.1,e.2.2)
def turnF (C:List (List (Int×Rat))) (i:Int):List (Int×Rat):=rowE (trnE C C.length) i
theorem rowE_append (E F:List (Int×Int×Rat)) (i:Int):rowE (E++F) i=rowE E i++rowE F i:=by unfold rowE;rw[List.filter_append,mG]
theorem rowE_one (e:Int×Int×Rat) (i:Int):rowE [e] i=if e.2.1=i then [(e.1,e.2.2)] else []:=by
 unfold rowE
 rw[dG,List.filter_nil];by_cases h:e.2.1=i
 ·rw[zA h,zA (by simpa using h)];rfl
 ·rw[uA h,uA (by simpa using h)];rfl
theorem rowE_col (k i:Int):∀{L:List (Int×Rat)},Nrm L→rowE (L.map fun x=>(k,x.1,x.2)) i=if pget L i=0 then [] else [(k,pget L i)]
 | [],_=>by rw[pget_nil,zA rfl];rfl
 | x :: L,h=>by
  have hr:=Rise.cons.1 h.rise;have e:rowE ((x :: L).map fun x=>(k,x.1,x.2)) i=rowE [(k,x.1,x.2)] i++rowE (L.map fun x=>(k,x.1,x.2)) i:=by rw[←rowE_append];rfl
  rw[e,rowE_one,rowE_col k i h.tail,zAe];by_cases hx:x.1=i
  ·have h0:pget L i=0:=pget_none fun y hy=>by have:=hr.1 y hy;omega
   have hz:=h.nz x qA;simp only
   rw[zA hx,zA h0,zA hx,h0,wC,uA hz];rfl
  ·simp only
   rw[uA hx,uA hx];rfl
theorem trn_step (C:List (List (Int×Rat))) (k:Nat) (i:Int):rowE (trnE C (k+1)) i=rowE (trnE C k) i++(if pget (C.getD k []) i=0 then [] else [((k:Int),pget (C.getD k []) i)]):=by
 show rowE (trnE C k++_) i=_
 rw[rowE_append,rowE_col _ _ (nrm_nrm _),nrm_get]
theorem trn_low (C:List (List (Int×Rat))) (i:Int):∀k,∀x∈rowE (trnE C k) i,0≤x.1∧x.1<(k:Int)
 | 0,x,h=>by cases h
 | k+1,x,h=>by
  rw[trn_step] at h;rcases nC.1 h with h | h
  ·have:=trn_low C i k x h;omega
  ·split at h
   ·cases h
   ·obtain rfl:=gC.1 h;simp only
    omega
theorem trn_nrm (C:List (List (Int×Rat))) (i:Int):∀k,Nrm (rowE (trnE C k) i)
 | 0=>⟨List.Pairwise.nil,fun x hx=>by cases hx⟩
 | k+1=>by
  rw[trn_step];split
  ·rw[kG];exact trn_nrm C i k
  ·exact(trn_nrm C i k).snoc (fun o ho=>(trn_low C i k o ho).2) (by assumption)
theorem trn_get (C:List (List (Int×Rat))) (i:Int):∀(k:Nat) (a:Int),pget (rowE (trnE C k) i) a=if 0≤a∧a<(k:Int) then pget (C.getD a.toNat []) i else 0
 | 0,a=>by rw[uA zo];rfl
 | k+1,a=>by
  rw[trn_step,pget_append,trn_get C i k a];have e:pget (if pget (C.getD k []) i=0 then [] else [((k:Int),pget (C.getD k []) i)]) a=if(k:Int)=a then pget (C.getD k []) i else 0:=by
   by_cases h:pget (C.getD k []) i=0
   ·rw[zA h,pget_nil,h];split<;>rfl
   ·rw[uA h,pget_one]
  rw[e];by_cases h:(k:Int)=a
  ·rw[uA zo,zA h,zA zo,bE,show a.toNat=k by omega]
  ·rw[uA h,wC];by_cases h2:0≤a∧a<(k:Int)
   ·rw[zA h2,zA zo]
   ·rw[uA h2,uA zo]
theorem turn_low (C:List (List (Int×Rat))) (i:Int):∀x∈turnF C i,0≤x.1∧x.1<(C.length:Int):=trn_low C i _
theorem turn_nrm (C:List (List (Int×Rat))) (i:Int):Nrm (turnF C i):=trn_nrm C i _
theorem turn_get (C:List (List (Int×Rat))) (i a:Int):pget (turnF C i) a=if 0≤a∧a<(C.length:Int) then pget (C.getD a.toNat []) i else 0:=trn_get C i _ a
def turnT (C:List (List (Int×Rat))) (n:Nat):List (List (Int×Rat)):=(List.range n).map fun(i:Nat)=>turnF C (i:Int)
theorem turnT_len (C:List (List (Int×Rat))) (n:Nat):(turnT C n).length=n:=by unfold turnT;rw[xB,zF]
theorem turnT_get (C:List (List (Int×Rat))) {n i:Nat} (h:i<n):(turnT C n).getD i []=turnF C (i:Int):=by
 unfold turnT
 rw[dA,qB,kF h];rfl
open Go.RowKit Tw
def RowsE (V:List Vc) (E:List (Int×Int×Rat)):Prop:=∀(a:Nat) (v:Vc),V[a]?=some v→prs v.L=rowE E (a:Int)
def colE (k:Nat) (L:List (Int×Rat)):List (Int×Int×Rat):=L.map fun x=>((k:Int),x.1,x.2)
theorem colE_snoc (k:Nat) {T:List Tm} {j:Nat} {x:Tm} (h:T[j]?=some x):colE k (prs (T.take (j+1)))=colE k (prs (T.take j))++[((k:Int),x.at_,x.x.q)]:=by
 rw[take_snoc h,prs_append];exact mG
theorem RowsE.start (n:Nat):RowsE (List.replicate n zVc) []:=fun a v hv=>by rw[vD (eA hv)];rfl
theorem RowsE.step {V:List Vc} {E:List (Int×Int×Rat)} (h:RowsE V E) {a:Nat} {u:Vc} (hu:V[a]?=some u) (H:Option Addr) (m c:Nat) (t:Tm) (k:Int):RowsE (V.set a ⟨H,m,c,u.L++[⟨k,t.x⟩]⟩) (E++[(k,(a:Int),t.x.q)]):=fun b v hv=>by
 have ha:=(yB.1 hu).1;rw[rowE_append,rowE_one];by_cases e:b=a
 ·subst e;rw[bD ha,Option.some.injEq] at hv;subst hv;rw[zA rfl,prs_append,h b u hu];rfl
 ·rw[dD (fun e2=>e e2.symm)] at hv;rw[uA (by simp only;omega),kG];exact h b v hv
theorem RowsE.done {V:List Vc} {C:List (List (Int×Rat))} {n:Nat} (h:RowsE V (trnE C C.length)) (hl:V.length=n):V.map (fun v=>prs v.L)=turnT C n:=by
 apply sE
 intro a;unfold turnT
 rw[qB,qB];by_cases ha:a<n
 ·rw[kF ha,cA zo];simp only[cF]
  rw[h a _ (cA zo)];rfl
 ·rw[eB zo,eB (by rw[zF];omega)];rfl
theorem trnE_col {C:List (List (Int×Rat))} {k:Nat} {c:List (Int×Rat)} (h:C[k]?=some c):trnE C (k+1)=trnE C k++colE k (nrm c):=by
 show trnE C k++_=_
 rw[dA,h];rfl
theorem trn_len (C:List (List (Int×Rat))) (i:Int):∀k,(rowE (trnE C k) i).length≤k
 | 0=>aA _
 | k+1=>by
  have:=trn_len C i k;rw[trn_step,jC];split
  ·simp only[List.length_nil];omega
  ·simp only[eD,List.length_nil];omega
theorem RowsE.small {V:List Vc} {C:List (List (Int×Rat))} {k a:Nat} {L:List (Int×Rat)} {u:Vc} (h:RowsE V (trnE C k++colE k L)) (hu:V[a]?=some u):u.L.length≤k+L.length:=by
 have h1:=congrArg List.length (h a u hu);have h2:=trn_len C (a:Int) k;have h3:(rowE (colE k L) (a:Int)).length≤L.length:=by
  unfold rowE colE
  rw[xB];refine wA (List.length_filter_le _ _) ?_;rw[xB];exact aA _
 rw[prs_len,rowE_append,jC] at h1;omega
theorem OnT.one {w:World} {M:Nat} {s s':Bool} {A A':Option Addr} {c l c' l':Nat} {q:Rat} (at_:Int) (h:RN w s A c l s' A' c' l' q) (hs:sz q+1≤M):OnT w [⟨at_,⟨s,A,c,l,s',A',c',l',q,true⟩⟩] (fun _=>M):=fun t ht=>by
 obtain rfl:=gC.1 ht;exact⟨h,rfl,hs⟩
theorem elt_frs:Elt Fr.cs 4 49 30:=Elt.of (.agg #[.bool false,.slice none 0 0,.bool false,.slice none 0 0]) 64 Tryz.underlying49 (by kernel_rfl) zo (by kernel_rfl) (nou_list (by kernel_rfl)) Fr.cs_len
 (fun x u hu=>by simp[Fr.cs] at hu;rcases hu with rfl | rfl | rfl | rfl<;>rfl) (fun x u hu n=>by simp[Fr.cs] at hu;rcases hu with rfl | rfl | rfl | rfl<;>simp)
theorem fr_zero {i:TypeInfo} {z:Value} (h:Tryz.prog.info? 30=some i) (hz:i.zero=some z):z.cells.toList=Fr.cs zFr:=by
 have h1:(Tryz.prog.info? 30).map (fun i=>i.zero)=some (some (.agg #[.bool false,.slice none 0 0,.bool false,.slice none 0 0])):=by kernel_rfl
 rw[h,cF,hz] at h1;obtain rfl:z=.agg #[.bool false,.slice none 0 0,.bool false,.slice none 0 0]:=by simpa using h1
 rfl
theorem fr_store {w:World} {B g n cap i:Nat} {L:List Fr} (h:OwnR w B 30 4 (.slice (some ⟨g,0,none⟩) n cap) n (flat Fr.cs L)) {y:Fr} (hy:L[i]?=some y) (x:Fr) :
  ∃V,V=(((w.setCell ⟨g,i*4,none⟩ (.bool x.s)).setCell ⟨g,i*4+1,none⟩ (.slice x.A x.l x.c)).setCell ⟨g,i*4+2,none⟩ (.bool x.s')).setCell ⟨g,i*4+3,none⟩ (.slice x.A' x.l' x.c')∧
   OwnR V B 30 4 (.slice (some ⟨g,0,none⟩) n cap) n (flat Fr.cs (L.set i x))∧Grew w V (.slice (some ⟨g,0,none⟩) n cap) (.slice (some ⟨g,0,none⟩) n cap):=by
 have:=elt_frs.sets h hy (y:=x) [(0,.bool x.s),(1,.slice x.A x.l x.c),(2,.bool x.s'),(3,.slice x.A' x.l' x.c')] (fun p hp=>by simp at hp;rcases hp with rfl | rfl | rfl | rfl<;>exact⟨by simp,by simp⟩) rfl;exact⟨_,rfl,this⟩
theorem fr_0 {w:World} {B g n cap i:Nat} {L:List Fr} (h:OwnR w B 30 4 (.slice (some ⟨g,0,none⟩) n cap) n (flat Fr.cs L)) {y:Fr} (hy:L[i]?=some y):w.cell? ⟨g,i*4,none⟩=some (.bool y.s) :=
 elt_frs.cell h hy (j:=0) (u:=.bool y.s) zo rfl
def AllFr (w:World) (K:Nat) (L:List Fr):Prop:=∀x∈L,FrOk w K x
theorem AllFr.below {w w':World} {K:Nat} {L:List Fr} (h:AllFr w K L) (hb:Below w.heap.size w w':=by go_grown):AllFr w' K L:=fun x hx=>(h x hx).below hb
theorem AllFr.k {w w':World} {K:Nat} {L:List Fr} (h:AllFr w K L) (hb:K64 w w'):AllFr w' K L:=fun x hx=>(h x hx).k hb
theorem AllFr.set {w:World} {K:Nat} {L:List Fr} (h:AllFr w K L) (i:Nat) {x:Fr} (hx:FrOk w K x):AllFr w K (L.set i x):=fun y hy=>by
 rcases qC hy with hy | rfl
 ·exact h y hy
 ·exact hx
def AllRn (w:World) (K:Nat) (L:List Fr):Prop:=∀x∈L,RN w x.s x.A x.c x.l x.s' x.A' x.c' x.l' x.q∧x.ex=true∧sz x.q+1≤K
theorem AllRn.below {w w':World} {K:Nat} {L:List Fr} (h:AllRn w K L) (hb:Below w.heap.size w w':=by go_grown):AllRn w' K L:=fun x hx=>⟨(h x hx).1.below hb,(h x hx).2⟩
theorem AllRn.k {w w':World} {K:Nat} {L:List Fr} (h:AllRn w K L) (hb:K64 w w'):AllRn w' K L:=fun x hx=>⟨(h x hx).1.k hb,(h x hx).2⟩
theorem AllRn.set {w:World} {K:Nat} {L:List Fr} (h:AllRn w K L) (i:Nat) {x:Fr} (hx:RN w x.s x.A x.c x.l x.s' x.A' x.c' x.l' x.q∧x.ex=true∧sz x.q+1≤K):AllRn w K (L.set i x):=fun y hy=>by
 rcases qC hy with hy | rfl
 ·exact h y hy
 ·exact hx
theorem AllRn.put {w:World} {K:Nat} {s s':Bool} {A A':Option Addr} {c l c' l':Nat} {q:Rat} (h:RN w s A c l s' A' c' l' q) (hs:sz q+1≤K):RN w s A c l s' A' c' l' q∧true=true∧sz q+1≤K:=⟨h,rfl,hs⟩
theorem AllRn.zeros (w:World) (m:Nat) {K:Nat} (hK:2≤K):AllRn w K (List.replicate m zFr):=fun x hx=>by
 rw[vD hx];refine⟨(zFr_ok w (m:=1) zo).rn.1 rfl,rfl,?_⟩;have:=sz_zero;show sz 0+1≤K
 omega
def denseF (P:List (Int×Rat)) (m:Nat):List Rat:=(List.range m).map fun(i:Nat)=>pget P (i:Int)
def DnsE (D:List Fr) (T:List Tm):Prop:=∀(i:Nat) y,D[i]?=some y→y.q=pget (prs T) (i:Int)
theorem DnsE.start (m:Nat):DnsE (List.replicate m zFr) []:=fun i y hy=>by rw[vD (eA hy)];rfl
theorem dns_get {T:List Tm} {j:Nat} {x:Tm} (hx:T[j]?=some x) (a:Int):pget (prs (T.take (j+1))) a=pget (prs (T.take j)) a+if x.at_=a then x.x.q else 0:=by
 rw[take_snoc hx,prs_append,pget_append];congr 1
 exact pget_one (x.at_,x.x.q) a
theorem DnsE.skip {D:List Fr} {T:List Tm} {j:Nat} {x:Tm} (h:DnsE D (T.take j)) (hx:T[j]?=some x) (ho:x.at_<0∨(D.length:Int)≤x.at_):DnsE D (T.take (j+1)):=fun i y hy=>by
 have hi:=(yB.1 hy).1;rw[dns_get hx,uA zo,wC];exact h i y hy
theorem DnsE.step {D:List Fr} {T:List Tm} {j a:Nat} {x:Tm} {y:Fr} (h:DnsE D (T.take j)) (hr:Rise (prs T)) (hx:T[j]?=some x) (ha:x.at_=(a:Int)) (hy:D[a]?=some y) (r:Fr) (hq:r.q=x.x.q):DnsE (D.set a r) (T.take (j+1)):=fun i z hz=>by
 have hal:=(yB.1 hy).1;by_cases e:i=a
 ·subst e;rw[bD hal,Option.some.injEq] at hz;subst hz;have h2:Rise (prs (T.take (j+1))):=by rw[←prs_take];exact List.Pairwise.sublist (List.take_sublist _ _) hr
  have h3:(x.at_,x.x.q)∈prs (T.take (j+1)):=by rw[take_snoc hx,prs_append];exact List.mem_append_right _ (gC.2 rfl)
  rw[←ha,h2.get h3,hq]
 ·rw[dD (fun e2=>e e2.symm)] at hz;rw[dns_get hx,uA zo,wC];exact h i z hz
theorem DnsE.done {D:List Fr} {T:List Tm} {m:Nat} (h:DnsE D T) (hl:D.length=m):D.map (fun x=>x.q)=denseF (prs T) m:=by
 apply sE
 intro i;unfold denseF
 rw[qB,qB];by_cases hi:i<m
 ·rw[kF hi,cA zo];simp only[cF]
  rw[h i _ (cA zo)]
 ·rw[eB zo,eB (by rw[zF];omega)];rfl
theorem denseF_nrm (P:List (Int×Rat)) (m:Nat):denseF (nrm P) m=denseF P m:=by
 unfold denseF
 exact List.map_congr_left fun i _=>nrm_get P i
def TellsFs (w:World) (l:List Rat) (K:Nat) (e:Ending) (w':World):Prop:=∃A n c L,e=.returned (.slice A n c)∧Sl Fr.cs 4 w' A n c L∧AllRn w' K L∧L.map (fun x=>x.q)=l∧Below w.heap.size w w'
def TellsFsO (w:World) (m:Nat) (l:List Rat) (K:Nat) (e:Ending) (w':World):Prop:=∃g L,e=.returned (.slice (some ⟨g,0,none⟩) m m)∧OwnR w' w.heap.size 30 4 (.slice (some ⟨g,0,none⟩) m m) m (flat Fr.cs L)∧AllRn w' K L∧L.map (fun x=>x.q)=l∧Below w.heap.size w w'
theorem TellsFsO.s {w w':World} {m K:Nat} {l:List Rat} {e:Ending} (h:TellsFsO w m l K e w'):TellsFs w l K e w':=by
 obtain⟨g,L,h1,h2,h3⟩:=h;exact⟨_,_,_,L,h1,h2.sl' elt_frs (h2.eltn elt_frs zo),h3⟩
def DS1 (w:World) (g m M nm:Nat) (X:Value) (T:List Tm) (gk:Nat) (s:Value) (wr:World):Prop :=
 ∃(j:Nat) (D:List Fr),j≤nm∧nm-j=gk∧s=.int .i64 (j:Int)∧OwnR wr w.heap.size 30 4 (.slice (some ⟨g,0,none⟩) m m) m (flat Fr.cs D)∧OwnR wr w.heap.size 32 5 X nm (flat Tm.cs T)∧AllRn wr M D∧DnsE D (T.take j)∧OnT wr T (fun _=>M)∧Below w.heap.size w wr
theorem dense_no {w:World} {X:Option Addr} {nx cx:Nat} (k:Int) (g1:k<1):Calls Tryz.prog 18 #[.slice X nx cx,.int .i64 k] w fun e w'=>e=.returned (.slice none 0 0)∧Below w.heap.size w w':=by
 go_enter Tryz.func18,Tryz.ntmps18
 go_wp2_with fail
 go_ret
 exact⟨rfl,Below.refl _ _⟩
theorem denseO_q {w:World} {X:Option Addr} {nx cx m M:Nat} {P:List (Int×Rat)} (h:GV w X nx cx P M) (hM:M≤18000000000) (hM2:2≤M) (hnx:nx≤1000000) (hm1:1≤m) (hm:m≤65536) (hT:Hid (Tab w)) :
  Calls Tryz.prog 18 #[.slice X nx cx,.int .i64 (m:Int)] w (TellsFsO w m (denseF P m) M):=by
 have HX:=zh h;have HPL:=zh h.len;have g1:¬(m:Int)<1:=zo;have g2:(m:Int)≤65536:=zo;clear h;go_enter Tryz.func18,Tryz.ntmps18
 go_wp2_with (at_make;refine And.left (b:=True) ?_)
 refine⟨?_,trivial⟩;refine Elt.makeN elt_frs zFr (fun i z h1 h2=>fr_zero h1 h2) rfl _ _ rfl .i64 .i64 m (by rw[show min (m:Int) 65536=(m:Int) by omega];rfl) (by rw[show min (m:Int) 65536=(m:Int) by omega];rfl) zo w.heap.size (aA _) ?_;intro g w1 ho1 b1;have HO1:=zh ho1;have hnq:=normO_q (HX.out.below b1) zo hnx (zh (hT.out.below b1));have HB1:=zh b1;clear ho1 b1;go_wp2_with fail
 with_reducible refine hnq.mono ?_
 rintro e w2 ⟨Am,nm,cm,T,rfl,ho2,on2,ep,b2⟩;have HAP:Ap (.slice Am nm cm) (.slice (some ⟨g,0,none⟩) m m):=by
  cases e:(Value.slice Am nm cm).ownBlock with
  | none=>exact .inl e
  | some b =>
   refine .inr fun e2=>?_;rw[e] at e2;have h1:=ho2.base b e;have h2:=HO1.out.lt b e2.symm;omega
 have HO2:=zh (ho2.rebase HB1.out.size);have HO3:=zh (HO1.out.below b2);have HN2:=zh on2;have HEP:=zh ep;have HRI:Hid (Rise (prs T)):=zh (by rw[ep];exact(nrm_nrm P).rise);have HTL:=zh (ho2.eltn elt_vec zo);have HB2:=zh (bT HB1.out b2);have hnm:nm≤1000000:=by
  have h1:=nrm_len P;rw[←ep,prs_len,ho2.eltn elt_vec zo] at h1;have:=HPL.out;omega
 clear hnq ho2 on2 ep b2 HO1 HB1;go_wp2_with fail
 go_loopg [16] nm (fun gk s wr=>DS1 w g m M nm (.slice Am nm cm) T gk s wr)
 case atStart=>exact⟨0,_,cB _,rfl,rfl,HO3.out,HO2.out,AllRn.zeros _ _ hM2,by rw[yE];exact DnsE.start m,HN2.out,HB2.out⟩
 case round =>
  clear HO2 HO3 HN2 HB2;obtain⟨j,D0,hj,hgj,rfl,ho,ht,hfr,hd,hon,hB⟩:=hrel;have HGJ:=zh hgj;have HD:=zh hd;have HDL:=zh (ho.eltn elt_frs zo);clear hgj hd;by_cases hlj:j<nm
  ·obtain⟨eb,offe,rfl,hel⟩:=(ht.sl' elt_vec HTL.out).at Tm.cs_len zo zo;obtain⟨x,hx⟩:∃x,T[j]?=some x:=⟨T[j]'(by rw[HTL.out];exact hlj),cA _⟩;have hnd:=hel j x hx;have HXI:=zh hx;have HXN:=zh (hon x (eA hx));have apT:=HAP;have j1:(j:Int)<(nm:Int):=zo;have j2:(0:Int)≤(j:Int):=zo;clear hel hx;by_cases k1:x.at_<0
   ·have HD2:=zh (HD.out.skip HXI.out (.inl k1));have g3:¬0≤x.at_:=zo;have Bz:=zr wr;obtain⟨pA0,pA1,pA2,pA3,pA4,-⟩:=(hnd.below Bz).ez;go_upto_region 7 with(fail)
    obtain⟨V11,hW,x0,hN⟩:=zAc wr #[.int .i64 x.at_,.bool x.x.s,.slice x.x.A x.x.l x.x.c,.bool x.x.s',.slice x.x.A' x.x.l' x.x.c'] 32;rw[←hW];clear hW;obtain⟨v0,hb0⟩:=ze wr.heap.size;rw[←hb0] at x0 ⊢;have ow_0:w.heap.size≤v0:=zi (zww hB Bz);replace hfr:=hfr.below hN;replace hon:=hon.below hN;replace ho:=ho.below hN;replace ht:=ht.below hN;replace hB:=bT (bT hB Bz) hN;have HX0:=zh x0;clear x0 hN Bz hb0;have Bz:=zr V11;clear pA0 pA1 pA2 pA3 pA4;have pa0:=(zx HX0 Bz).cell 0 (.int .i64 x.at_) rfl;go_wp2_with fail
    go_roundg (nm-(j+1))
    case measure=>have:=HGJ.out;omega
    case rel=>exact⟨j+1,_,zo,rfl,by go_num,OwnR.below ho,OwnR.below ht,AllRn.below hfr,HD2.out,OnT.below hon,bT (bT hB Bz)⟩
   ·by_cases k2:(m:Int)≤x.at_
    ·have HD2:=zh (HD.out.skip HXI.out (.inr (by rw[HDL.out];exact k2)));have g3:0≤x.at_:=zo;have g4:¬x.at_<(m:Int):=zo;have Bz:=zr wr;obtain⟨pA0,pA1,pA2,pA3,pA4,-⟩:=(hnd.below Bz).ez;go_upto_region 7 with(fail)
     obtain⟨V11,hW,x0,hN⟩:=zAc wr #[.int .i64 x.at_,.bool x.x.s,.slice x.x.A x.x.l x.x.c,.bool x.x.s',.slice x.x.A' x.x.l' x.x.c'] 32;rw[←hW];clear hW;obtain⟨v0,hb0⟩:=ze wr.heap.size;rw[←hb0] at x0 ⊢;have ow_0:w.heap.size≤v0:=zi (zww hB Bz);replace hfr:=hfr.below hN;replace hon:=hon.below hN;replace ho:=ho.below hN;replace ht:=ht.below hN;replace hB:=bT (bT hB Bz) hN;have HX0:=zh x0;clear x0 hN Bz hb0;have Bz:=zr V11;clear pA0 pA1 pA2 pA3 pA4;have pa0:=(zx HX0 Bz).cell 0 (.int .i64 x.at_) rfl;go_wp2_with fail
     go_roundg (nm-(j+1))
     case measure=>have:=HGJ.out;omega
     case rel=>exact⟨j+1,_,zo,rfl,by go_num,OwnR.below ho,OwnR.below ht,AllRn.below hfr,HD2.out,OnT.below hon,bT (bT hB Bz)⟩
    ·have g3:0≤x.at_:=zo;have g4:x.at_<(m:Int):=zo;obtain⟨y,hy⟩:∃y,D0[x.at_.toNat]?=some y:=⟨D0[x.at_.toNat]'(by rw[HDL.out];omega),cA _⟩;have HY:=zh hy;have HD2:Hid (∀r:Fr,r.q=x.x.q→DnsE (D0.set x.at_.toNat r) (T.take (j+1))):=zh (fun r hr=>HD.out.step HRI.out HXI.out zo HY.out r hr);have hxr:=HXN.out.1;clear hy;have Bz:=zr wr;obtain⟨pA0,pA1,pA2,pA3,pA4,-⟩:=(hnd.below Bz).ez;go_upto_region 7 with(fail)
     obtain⟨V11,hW,x0,hN⟩:=zAc wr #[.int .i64 x.at_,.bool x.x.s,.slice x.x.A x.x.l x.x.c,.bool x.x.s',.slice x.x.A' x.x.l' x.x.c'] 32;rw[←hW];clear hW;obtain⟨v0,hb0⟩:=ze wr.heap.size;rw[←hb0] at x0 ⊢;have ow_0:w.heap.size≤v0:=zi (zww hB Bz);replace hfr:=hfr.below hN;replace hon:=hon.below hN;replace ho:=ho.below hN;replace ht:=ht.below hN;replace hxr:=hxr.below hN;replace hB:=bT (bT hB Bz) hN;have HX0:=zh x0;clear x0 hN Bz hb0;have Bz:=zr V11;clear pA0 pA1 pA2 pA3 pA4;obtain⟨pa0,pa1,pa2,pa3,pa4,-⟩:=(zx HX0 Bz).cz;have pB0:=fr_0 ho HY.out;have pB1:=elt_frs.cell ho HY.out (j:=1) (u:=.slice y.A y.l y.c) zo rfl;have pB2:=elt_frs.cell ho HY.out (j:=2) (u:=.bool y.s') zo rfl;have pB3:=elt_frs.cell ho HY.out (j:=3) (u:=.slice y.A' y.l' y.c') zo rfl;have fB0:=ho.frozen (x.at_.toNat*4);have fB1:=ho.frozen (x.at_.toNat*4+1);have fB2:=ho.frozen (x.at_.toNat*4+2);have fB3:=ho.frozen (x.at_.toNat*4+3);have y51:=ho.blk.1;go_upto_region 9 with(fail)
     obtain⟨V12,hV,ho2,hg2⟩:=fr_store ho HY.out ⟨x.x.s,x.x.A,x.x.c,x.x.l,x.x.s',x.x.A',x.x.c',x.x.l',x.x.q,true⟩;rw[←hV];clear hV;replace hB:=(bT hB Bz).trans (hg2.below (zi (zww hB Bz)) (fun g' hg'=>by have:=ho.base g' hg';omega));have ht2:=ht.grown hg2 apT;replace hfr:=AllRn.set hfr x.at_.toNat (x:=⟨x.x.s,x.x.A,x.x.c,x.x.l,x.x.s',x.x.A',x.x.c',x.x.l',x.x.q,true⟩) (AllRn.put (RN.below hxr) HXN.out.2.2);clear HX0;replace hfr:=hfr.k hg2.k;replace hon:=hon.k hg2.k;clear ho ht;have ho:=ho2;have ht:=ht2;clear ho2 hg2 ht2 Bz;have Bz:=zr V12;clear pa0 pa1 pa2 pa3 pa4 pB0 pB1 pB2 pB3 fB0 fB1 fB2 fB3 y51;go_wp2_with fail
     go_roundg (nm-(j+1))
     case measure=>have:=HGJ.out;omega
     case rel=>exact⟨j+1,_,zo,rfl,by go_num,OwnR.below ho,OwnR.below ht,AllRn.below hfr,HD2.out _ rfl,OnT.below hon,bT (bT hB Bz)⟩
  ·obtain rfl:j=nm:=zo;have j1:¬(j:Int)<(j:Int):=zo;have HDN:Hid (D0.map (fun x=>x.q)=denseF P m):=zh (by
    have h9:=HD.out;rw[nA (by rw[HTL.out];exact aA _)] at h9;rw[h9.done HDL.out,HEP.out,denseF_nrm])
   have HSL:=zh ho;have HFR:=zh hfr;clear ho ht hfr hon;go_wp2_with fail
   go_ret
   exact⟨_,D0,rfl,HSL.out,HFR.out,HDN.out,hB⟩
theorem store3 {w:World} {b:Nat} {t:TypeId} {u0 u1 u2:Value} (v0 v1 v2:Value) (h0:Bx w b #[u0,u1,u2] t) (n0:∀n,u0≠.int .u64 n) (n1:∀n,u1≠.int .u64 n) (n2:∀n,u2≠.int .u64 n) :
  ∃W,W=((w.setCell ⟨b,0,none⟩ v0).setCell ⟨b,1,none⟩ v1).setCell ⟨b,2,none⟩ v2∧Bx W b #[v0,v1,v2] t∧K64 w W∧(∀b' cs t',b'≠b→Bx w b' cs t'→Bx W b' cs t')∧(∀B w0,B≤b→Below B w0 w→Below B w0 W):=by
 have h1:Bx (w.setCell ⟨b,0,none⟩ v0) b #[v0,u1,u2] t:=h0.set 0 v0;have h2:Bx ((w.setCell ⟨b,0,none⟩ v0).setCell ⟨b,1,none⟩ v1) b #[v0,v1,u2] t:=h1.set 1 v1;have h3:Bx (((w.setCell ⟨b,0,none⟩ v0).setCell ⟨b,1,none⟩ v1).setCell ⟨b,2,none⟩ v2) b #[v0,v1,v2] t:=h2.set 2 v2;have k0:K64 (w) (w.setCell ⟨b,0,none⟩ v0):=K64.box h0 (i:=0) rfl n0 v0;have k1:K64 (w.setCell ⟨b,0,none⟩ v0) ((w.setCell ⟨b,0,none⟩ v0).setCell ⟨b,1,none⟩ v1):=K64.box h1 (i:=1) rfl n1 v1;have k2:K64 ((w.setCell ⟨b,0,none⟩ v0).setCell ⟨b,1,none⟩ v1) (((w.setCell ⟨b,0,none⟩ v0).setCell ⟨b,1,none⟩ v1).setCell ⟨b,2,none⟩ v2):=K64.box h2 (i:=2) rfl n2 v2;exact⟨_,rfl,h3,((k0.trans k1).trans k2),fun b' cs t' hb hx=>(((hx.far hb v0).far hb v1).far hb v2),fun B w0 hB hb=>(((hb.setCell hB v0).setCell hB v1).setCell hB v2)⟩
def bls (b:Bool):List Value:=[.bool b]
theorem bls_len (b:Bool):(bls b).length=1:=rfl
theorem elt_bls:Elt bls 1 65 4:=Elt.of (.bool false) 1 Tryz.underlying65 (by kernel_rfl) zo (by kernel_rfl) (nou_list (by kernel_rfl)) bls_len (fun x u hu=>by simp[bls] at hu;subst hu;rfl) (fun x u hu n=>by simp[bls] at hu;subst hu;simp)
theorem bl_zero {i:TypeInfo} {z:Value} (h:Tryz.prog.info? 4=some i) (hz:i.zero=some z):z.cells.toList=bls false:=by
 have h1:(Tryz.prog.info? 4).map (fun i=>i.zero)=some (some (.bool false)):=by kernel_rfl
 rw[h,cF,hz] at h1;obtain rfl:z=.bool false:=by simpa using h1
 rfl
theorem bl_store {w:World} {B g n cap i:Nat} {L:List Bool} (h:OwnR w B 4 1 (.slice (some ⟨g,0,none⟩) n cap) n (flat bls L)) {y:Bool} (hy:L[i]?=some y) (x:Bool) :
  ∃V,V=w.setCell ⟨g,i,none⟩ (.bool x)∧OwnR V B 4 1 (.slice (some ⟨g,0,none⟩) n cap) n (flat bls (L.set i x))∧Grew w V (.slice (some ⟨g,0,none⟩) n cap) (.slice (some ⟨g,0,none⟩) n cap):=by
 have:=elt_bls.sets h hy (y:=x) [(0,.bool x)] (fun p hp=>by simp at hp;subst hp;exact⟨by simp,by simp⟩) rfl;refine⟨_,rfl,?_⟩;have e:setsW w g (i*1) [(0,.bool x)]=w.setCell ⟨g,i,none⟩ (.bool x):=by simp[setsW]
 rw[e] at this;exact this
theorem bl_cell {w:World} {B g n cap i:Nat} {L:List Bool} (h:OwnR w B 4 1 (.slice (some ⟨g,0,none⟩) n cap) n (flat bls L)) {y:Bool} (hy:L[i]?=some y):w.cell? ⟨g,i,none⟩=some (.bool y):=by
 have:=elt_bls.cell h hy (j:=0) (u:=.bool y) zo rfl;simpa using this
theorem Sl.grown {α:Type} {f:α→List Value} {k:Nat} {w w':World} {n c:Nat} {A:Option Addr} {L:List α} {row:Option Nat} (h:Sl f k w A n c L) (hg:w.grownBy w' row) (ha:∀a,A=some a→some a.block≠row):Sl f k w' A n c L:=by
 obtain⟨h1,h2,A',c',e,h3,h4⟩:=h;cases e;exact⟨h1,h2,A,c,rfl,h3,fun a ea j u hu=>hg.cell (h4 a ea j u hu) (by rw[show(a.add j).block=a.block from by unfold Addr.add;split<;>rfl];exact ha a ea)⟩
def VOff (g:Nat) (v:Vc):Prop:=∀a,v.A=some a→a.block≠g
theorem CN.grown {w w':World} {g M:Nat} {v:Vc} {x y:Value} (h:CN w v M) (hg:Grew w w' x y) (hx:x.ownBlock=some g) (hv:VOff g v):CN w' v M :=
 ⟨h.1.grown hg.by_ fun a ha e=>hv a ha (by rw[hx] at e;exact Option.some.inj e),h.2.1.k hg.k,h.2.2⟩
theorem VOff.new {w:World} {g:Nat} {A:Option Addr} {n c:Nat} {L:List Tm} (hg:g<w.heap.size) (h:∀a,A=some a→w.heap.size≤a.block):VOff g ⟨A,n,c,L⟩:=fun a ha e=>by have:=h a ha;omega
structure RS (w:World) (B g n:Nat) (V:List Vc) (M:Nat):Prop where
 out:OwnR w B 35 1 (.slice (some ⟨g,0,none⟩) n n) n (flat Vc.cs V)
 cn:∀v∈V,CN w v M∧VOff g v
theorem RS.below {w w':World} {B g n M:Nat} {V:List Vc} (h:RS w B g n V M) (hb:Below w.heap.size w w':=by go_grown):RS w' B g n V M:=⟨h.out.below hb,fun v hv=>⟨(h.cn v hv).1.below hb,(h.cn v hv).2⟩⟩
theorem RS.len {w:World} {B g n M:Nat} {V:List Vc} (h:RS w B g n V M):V.length=n:=h.out.eltn elt_vcs zo
theorem RS.lt {w:World} {B g n M:Nat} {V:List Vc} (h:RS w B g n V M):g<w.heap.size:=h.out.lt g rfl
theorem RS.base {w:World} {B g n M:Nat} {V:List Vc} (h:RS w B g n V M):B≤g:=h.out.base g rfl
theorem RS.sl {w:World} {B g n M:Nat} {V:List Vc} (h:RS w B g n V M):Sl Vc.cs 1 w (some ⟨g,0,none⟩) n n V:=h.out.sl' elt_vcs h.len
theorem RS.grown {w w':World} {B g n M:Nat} {V:List Vc} {x y:Value} (h:RS w B g n V M) (hg:Grew w w' x y) (hx:∀b,x.ownBlock=some b→b≠g∧∀v∈V,VOff b v):RS w' B g n V M:=by
 refine⟨h.out.grown hg ?_,fun v hv=>⟨?_,(h.cn v hv).2⟩⟩
 ·cases e:x.ownBlock with
  | none=>exact .inr (by intro c;cases c)
  | some b=>exact .inr (by intro c;exact(hx b e).1 (Option.some.inj c).symm)
 ·cases e:x.ownBlock with
  | none=>exact⟨(h.cn v hv).1.1.grown hg.by_ (by rw[e];intro a _ c;cases c),(h.cn v hv).1.2.1.k hg.k,(h.cn v hv).1.2.2⟩
  | some b=>exact(h.cn v hv).1.grown hg e ((hx b e).2 v hv)
theorem RS.store {w:World} {B g n M i:Nat} {V:List Vc} (h:RS w B g n V M) {y:Vc} (hy:V[i]?=some y) {x:Vc} (hx:CN w x M) (ho:VOff g x) :
  ∃W,W=w.setCell ⟨g,i,none⟩ (.slice x.A x.n x.c)∧RS W B g n (V.set i x) M∧Grew w W (.slice (some ⟨g,0,none⟩) n n) (.slice (some ⟨g,0,none⟩) n n):=by
 obtain⟨W,hW,h1,h2⟩:=vc_store h.out hy x;refine⟨W,hW,⟨h1,fun v hv=>?_⟩,h2⟩;rcases qC hv with hv | rfl
 ·exact⟨(h.cn v hv).1.grown h2 rfl (h.cn v hv).2,(h.cn v hv).2⟩
 ·exact⟨hx.grown h2 rfl ho,ho⟩
structure KP (Z:Nat→Prop) (w w':World):Prop where
 size:w.heap.size≤w'.heap.size
 k:K64 w w'
 blk:∀b,b<w.heap.size→¬Z b→w'.heap[b]?=w.heap[b]?
section
variable {Z:Nat→Prop} {w0 w w':World}
theorem KP.refl (Z:Nat→Prop) (w:World):KP Z w w:=⟨aA _,K64.below (Below.refl _ _),fun _ _ _=>rfl⟩
theorem KP.below (h:KP Z w0 w) (hb:Below w.heap.size w w':=by go_grown):KP Z w0 w' :=
 ⟨wA h.size hb.size,h.k.trans (K64.below hb),fun b hl hz=>(hb.block b (dB hl h.size)).trans (h.blk b hl hz)⟩
theorem KP.trans {w'':World} (h:KP Z w w') (h':KP Z w' w''):KP Z w w'' :=
 ⟨wA h.size h'.size,h.k.trans h'.k,fun b hl hz=>(h'.blk b (dB hl h.size) hz).trans (h.blk b hl hz)⟩
theorem KP.mono {Z':Nat→Prop} (h:KP Z w w') (hz:∀b,b<w.heap.size→Z b→Z' b):KP Z' w w':=⟨h.size,h.k,fun b hl hn=>h.blk b hl fun c=>hn (hz b hl c)⟩
theorem KP.of_below (Z:Nat→Prop) (hb:Below w.heap.size w w'):KP Z w w':=(KP.refl Z w).below hb
theorem KP.after (hb:Below w0.heap.size w0 w) (h:KP Z w w'):KP Z w0 w' :=
 ⟨wA hb.size h.size,(K64.below hb).trans h.k,fun b hl hz=>(h.blk b (dB hl hb.size) hz).trans (hb.block b hl)⟩
theorem KP.grew {x y:Value} (h:KP Z w0 w) (hg:Grew w w' x y) (hx:∀b,x.ownBlock=some b→b<w0.heap.size→Z b):KP Z w0 w' :=
 ⟨wA h.size hg.size,h.k.trans hg.k,fun b hl hz=>(hg.by_.block b (dB hl h.size) (fun e=>hz (hx b e.symm hl))).trans (h.blk b hl hz)⟩
theorem KP.set {c:Nat} (h:KP Z w0 w) (hs:w.heap.size≤w'.heap.size) (hk:K64 w w') (ho:∀k,k≠c→w'.heap[k]?=w.heap[k]?) (hc:c<w0.heap.size→Z c):KP Z w0 w' :=
 ⟨wA h.size hs,h.k.trans hk,fun b hl hz=>(ho b (fun e=>hz (by subst e;exact hc hl))).trans (h.blk b hl hz)⟩
theorem KP.bx (h:KP Z w w') {b:Nat} {cs:Array Value} {t:TypeId} (hb:Bx w b cs t) (hz:¬Z b):Bx w' b cs t:=(h.blk b hb.lt hz).trans hb
theorem KP.own (h:KP Z w w') {B n size:Nat} {e:TypeId} {v:Value} {xs:List Value} (ho:OwnR w B e size v n xs) (hz:∀b,v.ownBlock=some b→¬Z b):OwnR w' B e size v n xs:=by
 obtain⟨h1,h2 | ⟨g,cap,cur,rfl,a2,a3,a4⟩⟩:=ho
 ·exact⟨h1,.inl h2⟩
 ·exact⟨h1,.inr ⟨g,cap,cur,rfl,a2,h.bx a3 (hz g rfl),a4⟩⟩
theorem cell_heap {w w':World} {p:Addr} (h:w'.heap[p.block]?=w.heap[p.block]?):w'.cell? p=w.cell? p:=by
 unfold World.cell?
 rw[h]
theorem KP.cell (h:KP Z w w') {p:Addr} {u:Value} (hp:w.cell? p=some u) (hz:¬Z p.block):w'.cell? p=some u :=
 (cell_heap (h.blk p.block (World.block_lt_of_cell? w p hp) hz)).trans hp
theorem KP.ela (h:KP Z w w') {b off:Nat} {cs:List Value} (hs:ElA w b off cs) (hz:¬Z b):ElA w' b off cs:=fun i u hu=>h.cell (hs i u hu) hz
theorem KP.sl {α:Type} {f:α→List Value} {k:Nat} {A:Option Addr} {n c:Nat} {L:List α} (h:KP Z w w') (hs:Sl f k w A n c L) (hz:∀a,A=some a→¬Z a.block):Sl f k w' A n c L:=by
 obtain⟨h1,h2,A',c',e,h3,h4⟩:=hs;cases e;exact⟨h1,h2,A,c,rfl,h3,fun a ea j u hu=>h.cell (h4 a ea j u hu) (by rw[show(a.add j).block=a.block from by unfold Addr.add;split<;>rfl];exact hz a ea)⟩
end
def OVs (w:World) (B M:Nat) (V:List Vc):Prop:=∀v∈V,OwnR w B 32 5 (vsl v) v.n (flat Tm.cs v.L)∧OnT w v.L (fun _=>M)
theorem OVs.below {w w':World} {B M:Nat} {V:List Vc} (h:OVs w B M V) (hb:Below w.heap.size w w':=by go_grown):OVs w' B M V:=fun v hv=>⟨(h v hv).1.below hb,(h v hv).2.below hb⟩
theorem OVs.kp {Z:Nat→Prop} {w w':World} {B M:Nat} {V:List Vc} (h:OVs w B M V) (hk:KP Z w w') (hz:∀v∈V,∀b,(vsl v).ownBlock=some b→¬Z b):OVs w' B M V :=
 fun v hv=>⟨hk.own (h v hv).1 (hz v hv),(h v hv).2.k hk.k⟩
theorem OVs.mono {w:World} {B M M':Nat} {V:List Vc} (h:OVs w B M V) (hM:M≤M'):OVs w B M' V:=fun v hv=>⟨(h v hv).1,(h v hv).2.mono fun _ _=>hM⟩
theorem own_cn {w:World} {B M:Nat} {v:Vc} (h1:OwnR w B 32 5 (vsl v) v.n (flat Tm.cs v.L)) (h2:OnT w v.L (fun _=>M)):CN w v M:=by
 refine⟨h1.sl' elt_vec (h1.eltn elt_vec zo),h2,fun e=>?_⟩;obtain⟨H,c,e9,h9,_⟩:=h1.slice;unfold vsl at e9
 cases e9;exact(h9 e).2
theorem OVs.cn {w:World} {B M:Nat} {V:List Vc} (h:OVs w B M V) {v:Vc} (hv:v∈V):CN w v M:=own_cn (h v hv).1 (h v hv).2
theorem own_lt {w:World} {B M b:Nat} {V:List Vc} (h:OVs w B M V) {v:Vc} (hv:v∈V) (hb:(vsl v).ownBlock=some b):b<w.heap.size:=(h v hv).1.lt b hb
def ApV (X:Value) (V:List Vc):Prop:=∀v∈V,Ap (vsl v) X
theorem Ap.block {u v:Value} (h:Ap u v) {b:Nat} (hu:u.ownBlock=some b):v.ownBlock≠some b:=fun e=>by
 rcases h with h | h
 ·rw[hu] at h;cases h
 ·exact h (hu.trans e.symm)
theorem Ap.ne {u v:Value} (h:Ap u v) {b:Nat} (hv:v.ownBlock=some b):some b≠u.ownBlock:=fun e=>by
 rcases h with h | h
 ·rw[←e] at h;cases h
 ·exact h (e.symm.trans hv.symm)
theorem Ap.old {w w':World} {B n k B' n' k':Nat} {e e':TypeId} {u v:Value} {xs ys:List Value} (hu:OwnR w B e k u n xs) (hv:OwnR w' B' e' k' v n' ys) (h:w.heap.size≤B'):Ap u v:=by
 cases e1:u.ownBlock with
 | none=>exact .inl e1
 | some b=>exact .inr fun e2=>by have h1:=hu.lt b e1;have h2:=hv.base b (e2.symm.trans e1);omega
structure RO (w:World) (B g n:Nat) (V:List Vc) (M:Nat):Prop where
 out:OwnR w B 35 1 (.slice (some ⟨g,0,none⟩) n n) n (flat Vc.cs V)
 row:OVs w B M V
 ap:ApV (.slice (some ⟨g,0,none⟩) n n) V
section
variable {w w':World} {B g n M:Nat} {V:List Vc}
theorem RO.len (h:RO w B g n V M):V.length=n:=h.out.eltn elt_vcs zo
theorem RO.base (h:RO w B g n V M):B≤g∧g<w.heap.size:=⟨h.out.base g rfl,h.out.lt g rfl⟩
theorem RO.below (h:RO w B g n V M) (hb:Below w.heap.size w w':=by go_grown):RO w' B g n V M:=⟨h.out.below hb,h.row.below hb,h.ap⟩
theorem RO.mono {M':Nat} (h:RO w B g n V M) (hM:M≤M'):RO w B g n V M':=⟨h.out,h.row.mono hM,h.ap⟩
theorem RO.sl (h:RO w B g n V M):Sl Vc.cs 1 w (some ⟨g,0,none⟩) n n V:=h.out.sl' elt_vcs h.len
theorem RO.kp {Z:Nat→Prop} (h:RO w B g n V M) (hk:KP Z w w') (hg:¬Z g) (hz:∀v∈V,∀b,(vsl v).ownBlock=some b→¬Z b):RO w' B g n V M :=
 ⟨hk.own h.out (fun b e=>by cases e;exact hg),h.row.kp hk hz,h.ap⟩
theorem RO.grown {x y:Value} (h:RO w B g n V M) (hg:Grew w w' x y) (hx:x.ownBlock≠some g) (hv:ApV x V):RO w' B g n V M :=
 ⟨h.out.grown hg (.inr fun e=>hx e.symm),fun v hm=>⟨(h.row v hm).1.grown hg (hv v hm),(h.row v hm).2.k hg.k⟩,h.ap⟩
theorem ApV.grew {x y:Value} (h:ApV x V) (hr:OVs w B M V) (hg:Grew w w' x y):ApV y V:=fun v hm=>hg.ap (hr v hm).1 (h v hm)
theorem RO.far2 {b:Nat} (h:RO w B g n V M) (far:∀b' cs t',b'≠b→Bx w b' cs t'→Bx w' b' cs t') (hk:K64 w w') (hb:b≠g) (hv:∀v∈V,some b≠(vsl v).ownBlock):RO w' B g n V M :=
 ⟨h.out.far2 far (fun e=>hb (Option.some.inj e)),fun v hm=>⟨(h.row v hm).1.far2 far (hv v hm),(h.row v hm).2.k hk⟩,h.ap⟩
theorem RO.store {i:Nat} (h:RO w B g n V M) {y:Vc} (hy:V[i]?=some y) {x:Vc} (hx:OwnR w B 32 5 (vsl x) x.n (flat Tm.cs x.L)) (ho:OnT w x.L (fun _=>M)) (ha:Ap (vsl x) (.slice (some ⟨g,0,none⟩) n n)) :
  ∃W,W=w.setCell ⟨g,i,none⟩ (.slice x.A x.n x.c)∧RO W B g n (V.set i x) M∧Grew w W (.slice (some ⟨g,0,none⟩) n n) (.slice (some ⟨g,0,none⟩) n n):=by
 obtain⟨W,hW,h1,h2⟩:=vc_store h.out hy x;have hm:∀v∈V.set i x,v∈V∨v=x:=fun v hv=>qC hv;refine⟨W,hW,⟨h1,fun v hv=>?_,fun v hv=>?_⟩,h2⟩
 ·rcases hm v hv with hv | rfl
  ·exact⟨(h.row v hv).1.grown h2 (h.ap v hv),(h.row v hv).2.k h2.k⟩
  ·exact⟨hx.grown h2 ha,ho.k h2.k⟩
 ·rcases hm v hv with hv | rfl
  ·exact h.ap v hv
  ·exact ha
theorem TS.ro {X:Value} {nx:Nat} {xs:List Value} (h:TS w B g n X nx xs V M):RO w B g n V M:=⟨h.out,h.row,fun v hv=>(h.og v hv).1.symm⟩
end
theorem own_gv {w:World} {B M n c:Nat} {A:Option Addr} {L:List Tm} {P:List (Int×Rat)} (h1:OwnR w B 32 5 (.slice A n c) n (flat Tm.cs L)) (h2:OnT w L (fun _=>M)) (e:prs L=P) (hr:Rise P):GV w A n c P (M+1):=by
 subst e;exact(own_cn (v:=⟨A,n,c,L⟩) h1 h2).nv.gv hr
theorem OVs.gv {w:World} {B M:Nat} {V:List Vc} (h:OVs w B M V) {v:Vc} (hv:v∈V) (hr:Rise (prs v.L)):GV w v.A v.n v.c (prs v.L) (M+1):=(h.cn hv).nv.gv hr
theorem own_len {w:World} {B n c:Nat} {A:Option Addr} {L:List Tm} (h1:OwnR w B 32 5 (.slice A n c) n (flat Tm.cs L)):(prs L).length=n:=by rw[prs_len];exact h1.eltn elt_vec zo
theorem rest_len (P:List (Int×Rat)) (co:Int):(restF P co).length≤P.length+1:=by
 unfold restF
 have h1:=nrm_len ((P.filter fun x=>decide (x.1≠co))++[(co,(0:Rat))]);have h2:=List.length_filter_le (fun x:Int×Rat=>decide (x.1≠co)) P;rw[jC,List.length_singleton] at h1;omega
theorem on_sz {w:World} {M:Nat} {L:List Tm} (h:OnT w L (fun _=>M)) (hr:Rise (prs L)) (hM:2≤M) (a:Int):sz (pget (prs L) a)+1≤M:=by
 by_cases e:pget (prs L) a=0
 ·rw[e];have:=sz_zero;omega
 ·obtain⟨t,ht,rfl⟩:=pget_mem e;rw[hr.get ht];obtain⟨u,hu,rfl⟩:=prs_mem ht;exact(h u hu).2.2
theorem rowB {B g n c:Nat} (h:B≤g):∀t,(Value.slice (some ⟨g,0,none⟩) n c).ownBlock=some t→B≤t:=fun t e=>by cases e;exact h
theorem rowN {b g n c:Nat} (h:b≠g):some b≠(Value.slice (some ⟨g,0,none⟩) n c).ownBlock:=fun e=>h (by cases e;rfl)
theorem lu_start {C:List (List (Int×Rat))} {n:Nat} (hl:C.length=n):FacInv n ⟨turnT C n,List.replicate n true,[]⟩:=FacInv.start (turnT_len C n) fun k=>by
 by_cases hk:k<n
 ·rw[turnT_get C hk];exact⟨turn_nrm C _,fun t ht=>by rw[←hl];exact turn_low C _ t ht⟩
 ·rw[dA,eB (by rw[turnT_len];omega)];exact⟨⟨List.Pairwise.nil,fun x hx=>(by cases hx)⟩,fun x hx=>(by cases hx)⟩
def facT (C:List (List (Int×Rat))) (n:Nat):FacSt:=⟨turnT C n,List.replicate n true,[]⟩
def facST (C:List (List (Int×Rat))) (n:Nat):List StepF:=match facUp (facT C n) n with | some t=>t.ST | none=>[]
theorem facST_eq {C:List (List (Int×Rat))} {n:Nat} {t:FacSt} (h:facUp (facT C n) n=some t):facST C n=t.ST:=by unfold facST;rw[h]
def plc (n:Nat):List Int:=(List.range n).map fun(i:Nat)=>(i:Int)
theorem plc_mem {n:Nat} {a:Int}:a∈plc n↔0≤a∧a<(n:Int):=by
 unfold plc
 rw[rC];constructor
 ·rintro⟨i,hi,rfl⟩;have:=List.mem_range.1 hi;omega
 ·intro h;exact⟨a.toNat,List.mem_range.2 zo,zo⟩
theorem plc_len (n:Nat):(plc n).length=n:=by unfold plc;rw[xB,zF]
theorem plc_nodup (n:Nat):(plc n).Nodup:=by
 unfold plc List.Nodup
 rw[fF];exact(List.nodup_range (n:=n)).imp fun h e=>h zo
def mA (C:List (List (Int×Rat))) (j a:Int):Rat:=pget (C.getD a.toNat []) j
theorem dotV_row {V:List Int} {r s x:Int→Rat} (h:∀a∈V,r a=s a):dotV V r x=dotV V s x:=by
 induction V with
 | nil=>rfl
 | cons a V ih=>rw[zAg,zAg,h a qA,ih fun b hb=>h b (yA _ hb)]
theorem dotV_comm (V:List Int) (r x:Int→Rat):dotV V r x=dotV V x r:=by
 induction V with
 | nil=>rfl
 | cons a V ih=>rw[zAg,zAg,ih,Rat.mul_comm]
theorem dotV_add (V:List Int) (r s x:Int→Rat):dotV V (fun a=>r a+s a) x=dotV V r x+dotV V s x:=by
 induction V with
 | nil=>show(0:Rat)=0+0;grind
 | cons a V ih=>rw[zAg,zAg,zAg,ih];grind
theorem dotV_scale (V:List Int) (r x:Int→Rat) (q:Rat):dotV V (fun a=>q*r a) x=q*dotV V r x:=by
 induction V with
 | nil=>show(0:Rat)=q*0;grind
 | cons a V ih=>rw[zAg,zAg,ih];grind
theorem dotV_zero (V:List Int) (x:Int→Rat):dotV V (fun _=>0) x=0:=by
 induction V with
 | nil=>rfl
 | cons a V ih=>rw[zAg,ih];grind
theorem dotV_one {V:List Int} (hV:V.Nodup) (b:Int) (q:Rat) (x:Int→Rat):dotV V (fun a=>if a=b then q else 0) x=if b∈V then q*x b else 0:=by
 induction V with
 | nil=>rw[uA (by simp)];rfl
 | cons a V ih =>
  have⟨h1,h2⟩:=gF.1 hV;rw[zAg,ih h2];by_cases e:a=b
  ·subst e;rw[zA rfl,uA h1,zA qA];grind
  ·rw[uA e];by_cases h:b∈V
   ·rw[zA h,zA (yA _ h)];grind
   ·rw[uA h,uA (fun h3=>by rcases rB.1 h3 with h4 | h4;exact e h4.symm;exact h h4)];grind
theorem dotV_ev {V:List Int} (hV:V.Nodup) (x:Int→Rat):∀{P:List (Int×Rat)},(∀t∈P,t.1∈V)→dotV V (pget P) x=ev P x
 | [],_=>dotV_zero V x
 | t :: P,h=>by
  have e:dotV V (pget (t :: P)) x=dotV V (fun a=>(if a=t.1 then t.2 else 0)+pget P a) x:=dotV_row fun a _=>by
   rw[zAe];by_cases h2:t.1=a
   ·rw[zA h2,zA h2.symm]
   ·rw[uA h2,uA (fun e=>h2 e.symm),bE]
  rw[e,dotV_add,dotV_one hV,zA (h t qA),dotV_ev hV x (fun u hu=>h u (yA _ hu)),ev_cons]
theorem dotV_swap (V W:List Int) (M:Int→Int→Rat) (x y:Int→Rat):dotV V y (fun j=>dotV W (fun a=>M j a) x)=dotV W (fun a=>dotV V (fun j=>M j a) y) x:=by
 induction V with
 | nil=>exact(dotV_zero W x).symm
 | cons j V ih =>
  rw[zAg,ih];have e:dotV W (fun a=>dotV (j :: V) (fun j=>M j a) y) x=dotV W (fun a=>y j*M j a+dotV V (fun j=>M j a) y) x:=dotV_row fun a _=>by rw[zAg,Rat.mul_comm]
  rw[e,dotV_add,dotV_scale]
section
variable {C:List (List (Int×Rat))} {n:Nat} {t:FacSt}
theorem row_dot (hl:C.length=n) (j:Nat) (hj:j<n) (x:Int→Rat):ev ((turnT C n).getD j []) x=dotV (plc n) (mA C (j:Int)) x:=by
 rw[turnT_get C hj,←dotV_ev (plc_nodup n) x (P:=turnF C (j:Int)) (fun t ht=>plc_mem.2 (by rw[←hl];exact turn_low C _ t ht))];refine dotV_row fun a ha=>?_;have h:=plc_mem.1 ha;rw[turn_get,zA (by rw[hl];exact h)];rfl
theorem lu_sol (hl:C.length=n) (h:facUp (facT C n) n=some t) (f:Int→Rat) (j:Int) (hj:j∈plc n):dotV (plc n) (mA C j) (back (fwd t.ST f) t.ST)=f j:=by
 have h1:=plc_mem.1 hj;have h2:=fac_ftran (lu_start hl) rfl h f j.toNat zo;have h3:=row_dot hl j.toNat zo (back (fwd t.ST f) t.ST);rw[cG h1.1] at h2 h3;rw[←h3];exact h2
theorem lu_uniq (hl:C.length=n) (h:facUp (facT C n) n=some t) {x y:Int→Rat} (hxy:∀j∈plc n,dotV (plc n) (mA C j) x=dotV (plc n) (mA C j) y) (a:Int) (ha:a∈plc n):x a=y a:=by
 have h1:=plc_mem.1 ha;refine fac_uniq (lu_start hl) rfl h (fun j hj=>?_) a h1.1 h1.2;show ev ((turnT C n).getD j []) x=ev ((turnT C n).getD j []) y
 rw[row_dot hl j hj,row_dot hl j hj];exact hxy _ (plc_mem.2 zo)
theorem lu_left (hl:C.length=n) (h:facUp (facT C n) n=some t) (c:Int→Rat) (a:Int) (ha:a∈plc n):dotV (plc n) (fun j=>mA C j a) (btDn t.ST (btUp t.ST c fun _=>0))=c a:=by
 have h1:=plc_mem.1 ha;have h2:=fac_btran (lu_start hl) rfl h c a h1.1 h1.2;obtain⟨h3,h4,_⟩:=fac_sys (lu_start hl) rfl n h;rw[←h2];obtain⟨y,hy⟩:∃y,y=btDn t.ST (btUp t.ST c fun _=>0):=⟨_,rfl⟩;rw[←hy];have hr:=h3.rows;have hall:∀j,j<n→j∈rowsN t.ST:=fun j hj=>pig_all hr.1 hr.2 (by unfold rowsN;rw[xB,h4]) j hj
 -- a sum over the rows of the steps is a sum over the places
 have e1:∀l:List Nat,(∀j∈l,j<n)→sumR l y (turnT C n) a=dotV (l.map fun(i:Nat)=>(i:Int)) (fun j=>mA C j a) y:=fun l hl2=>by
  induction l with
  | nil=>rfl
  | cons i l ih =>
   rw[sumR_cons,nG,zAg,ih (fun j hj=>hl2 j (yA _ hj)),turnT_get C (hl2 i qA),turn_get,zA (by rw[hl];exact h1),Rat.mul_comm];rfl
 show dotV (plc n) (fun j=>mA C j a) y=sumR (rowsN t.ST) y (turnT C n) a
 rw[e1 _ hr.2]
 -- both lists hold the same places, each once
 have e2:∀(L M:List Int),L.Nodup→M.Nodup→(∀x,x∈L↔x∈M)→dotV L (fun j=>mA C j a) y=dotV M (fun j=>mA C j a) y:=fun L=>by
  induction L with
  | nil =>
   intro M _ _ h;cases M with
   | nil=>rfl
   | cons m M=>exact absurd ((h m).2 qA) (by simp)
  | cons x L ih =>
   intro M hL hM h;have⟨h5,h6⟩:=gF.1 hL;have hx:x∈M:=(h x).1 qA;have h7:=ih (M.erase x) h6 (hM.erase x) (fun z=>by
    rw[List.Nodup.mem_erase_iff hM,←h z,rB];constructor
    ·intro hz;exact⟨fun e=>h5 (e ▸ hz),.inr hz⟩
    ·rintro⟨h8,h9 | h9⟩
     ·exact absurd h9 h8
     ·exact h9)
   rw[zAg,h7];clear h7 ih h;induction M with
   | nil=>cases hx
   | cons m M ih2 =>
    by_cases e:m=x
    ·subst e;rw[List.erase_cons_head,zAg]
    ·rcases rB.1 hx with h8 | h8
     ·exact absurd h8.symm e
     ·rw[List.erase_cons_tail (by simpa using e),zAg,zAg,←ih2 (gF.1 hM).2 h8];grind
 refine e2 _ _ (plc_nodup n) ?_ fun x=>?_
 ·unfold List.Nodup
  rw[fF];exact List.Pairwise.imp (fun h e=>h zo) hr.1
 ·rw[plc_mem,rC];constructor
  ·intro hx;exact⟨x.toNat,hall _ zo,zo⟩
  ·rintro⟨i,hi,rfl⟩;have:=hr.2 i hi;omega
theorem lu_left_uniq (hl:C.length=n) (h:facUp (facT C n) n=some t) {x y:Int→Rat} (hxy:∀a∈plc n,dotV (plc n) (fun j=>mA C j a) x=dotV (plc n) (fun j=>mA C j a) y) (i:Int) (hi:i∈plc n):x i=y i:=by
 obtain⟨z,hz⟩:∃z,z=back (fwd t.ST (unit i)) t.ST:=⟨_,rfl⟩;have h1:∀j∈plc n,dotV (plc n) (mA C j) z=unit i j:=fun j hj=>by rw[hz];exact lu_sol hl h (unit i) j hj
 have key:∀u:Int→Rat,u i=dotV (plc n) (fun a=>dotV (plc n) (fun j=>mA C j a) u) z:=fun u=>by
  rw[←dotV_swap (plc n) (plc n) (fun j a=>mA C j a) z u,dotV_congr (y:=unit i) h1,dotV_comm];have e:dotV (plc n) (unit i) u=dotV (plc n) (fun a=>if a=i then 1 else 0) u:=rfl;rw[e,dotV_one (plc_nodup n),zA hi,Rat.one_mul]
 rw[key x,key y];exact dotV_row hxy
theorem lu_sz (hl:C.length=n) (hn:1≤n) (h:facUp (facT C n) n=some t) {D S:Nat} (hD:∀j∈plc n,∀a∈plc n,sz (mA C j a)≤D) {f:Int→Rat} (hf:∀j∈plc n,sz (f j)≤S) (a:Int) (ha:a∈plc n):sz (back (fwd t.ST f) t.ST a)≤solG D S (n-1):=by
 refine sol_sz (n-1) (V:=plc n) (E:=(plc n).map fun j=>(mA C j,f j)) (by rw[plc_len];omega) (plc_nodup n) (fun e he=>?_) (fun y hy b hb=>?_) (fun e he=>?_) a ha
 ·obtain⟨j,hj,rfl⟩:=rC.1 he;exact lu_sol hl h f j hj
 ·refine lu_uniq hl h (fun j hj=>?_) b hb;rw[hy (mA C j,f j) (rC.2 ⟨j,hj,rfl⟩),lu_sol hl h f j hj]
 ·obtain⟨j,hj,rfl⟩:=rC.1 he;exact⟨fun b hb=>hD j hj b hb,hf j hj⟩
end
theorem lay_get (n:Nat) (F:Int→Rat) (a:Int):pget (nrm (idxP ((List.range n).map fun(i:Nat)=>F (i:Int)))) a=if 0≤a∧a<(n:Int) then F a else 0:=by
 rw[nrm_get,idxP_get,xB,zF];split
 ·rename_i h
  rw[dA,qB,kF zo];show F ((a.toNat:Nat):Int)=_
  rw[cG h.1]
 ·rfl
theorem lay_in (n:Nat) (F:Int→Rat):∀t∈nrm (idxP ((List.range n).map fun(i:Nat)=>F (i:Int))),0≤t.1∧t.1<(n:Int) :=
 (nrm_nrm _).place (p:=fun a=>0≤a∧a<(n:Int)) fun a ha=>by
  rw[lay_get] at ha;by_cases h:0≤a∧a<(n:Int)
  ·exact h
  ·rw[uA h] at ha;exact absurd rfl ha
structure EtaF where
 r:Int
 pv:Rat
 rest:List (Int×Rat)
def etaF (e:EtaF) (x:Int→Rat):Int→Rat:=spr (upd x e.r (x e.r / e.pv)) e.rest (x e.r / e.pv)
def etaB (e:EtaF) (x:Int→Rat):Int→Rat:=upd x e.r ((x e.r-ev e.rest x) / e.pv)
def etasF (L:List EtaF) (x:Int→Rat):Int→Rat:=L.foldl (fun x e=>etaF e x) x
def etasB (L:List EtaF) (x:Int→Rat):Int→Rat:=L.foldr etaB x
theorem etasF_snoc (L:List EtaF) (e:EtaF) (x:Int→Rat):etasF (L++[e]) x=etaF e (etasF L x):=by unfold etasF;rw[List.foldl_append];rfl
theorem etasB_snoc (L:List EtaF) (e:EtaF) (x:Int→Rat):etasB (L++[e]) x=etasB L (etaB e x):=by unfold etasB;rw[List.foldr_append];rfl
def etaOf (r:Int) (a:List (Int×Rat)):EtaF:=⟨r,pget a r,restF a r⟩
theorem etaF_zero {e:EtaF} {x:Int→Rat} (h:x e.r=0) (a:Int):etaF e x a=x a:=by
 have h0:x e.r / e.pv=0:=by rw[h,Rat.div_def,uE]
 unfold etaF spr
 rw[h0,tE];by_cases ha:a=e.r
 ·rw[ha,upd_at,h];grind
 ·rw[upd_off ha];grind
theorem etaF_at {r:Int} {a:List (Int×Rat)} {x:Int→Rat} (b:Int):etaF (etaOf r a) x b=if b=r then x r / pget a r else x b-pget a b*(x r / pget a r):=by
 unfold etaF etaOf spr
 simp only
 rw[rest_get];by_cases h:b=r
 ·rw[zA h,zA h,h,upd_at,uE];grind
 ·rw[uA h,uA h,upd_off h]
theorem etaB_at {r:Int} {a:List (Int×Rat)} {x:Int→Rat} (b:Int):etaB (etaOf r a) x b=if b=r then(x r-(ev a x-pget a r*x r)) / pget a r else x b:=by
 unfold etaB etaOf
 simp only
 rw[rest_ev];by_cases h:b=r
 ·rw[zA h,h,upd_at]
 ·rw[uA h,upd_off h]
theorem dotV_split {V:List Int} (hV:V.Nodup) {r:Int} (hr:r∈V) (c x:Int→Rat) (q:Rat):dotV V (upd c r q) x=dotV V c x+(q-c r)*x r:=by
 induction V with
 | nil=>cases hr
 | cons a V ih =>
  have h1:=gF.1 hV;rw[zAg,zAg];by_cases e:a=r
  ·have h2:dotV V (upd c r q) x=dotV V c x:=dotV_row fun b hb=>upd_off fun e2=>h1.1 (by rw[e,←e2];exact hb);rw[h2,e,upd_at];grind
  ·have h3:r∈V:=by
    rcases rB.1 hr with h | h
    ·exact absurd h.symm e
    ·exact h
   rw[ih h1.2 h3,upd_off e];grind
theorem ftran_on {V:List Int} (hV:V.Nodup) {r:Int} (hr:r∈V) {c:Int→Rat} {a:List (Int×Rat)} {z f:Rat} {x:Int→Rat} (hz:dotV V c (pget a)=z) (h0:pget a r≠0) (hx:dotV V c x=f) :
  dotV V (upd c r z) (etaF (etaOf r a) x)=f:=by
 have e1:x r / pget a r*pget a r=x r:=kE h0;have h1:dotV V c (etaF (etaOf r a) x)=f-(x r / pget a r)*z+c r*(x r / pget a r):=by
  have h2:dotV V c (etaF (etaOf r a) x)=dotV V c (upd (fun b=>x b-pget a b*(x r / pget a r)) r (x r / pget a r)):=dotV_congr fun b _=>by
   rw[etaF_at];by_cases hb:b=r
   ·rw[zA hb,hb,upd_at]
   ·rw[uA hb,upd_off hb]
  rw[h2,dotV_comm,dotV_split hV hr,dotV_comm,dotV_comm V c];have h3:dotV V (fun b=>x b-pget a b*(x r / pget a r)) c=dotV V x c-x r / pget a r*dotV V (pget a) c:=by
   rw[←dotV_sub];exact dotV_row fun b _=>by grind
  rw[h3,dotV_comm V (pget a),hz,dotV_comm V x,hx];grind
 rw[dotV_split hV hr,h1,etaF_at,zA rfl];grind
theorem btran_on {V:List Int} {n:Nat} (hV:V=plc n) {C:List (List (Int×Rat))} (hl:C.length=n) {r:Nat} (hr:r<n) {a Z:List (Int×Rat)} (hz:∀j∈V,dotV V (mA C j) (pget a)=pget Z j) (ha:∀t∈a,0≤t.1∧t.1<(n:Int)) (h0:pget a (r:Int)≠0) {y v:Int→Rat}
  (hv:∀b∈V,dotV V (fun j=>mA C j b) v=etaB (etaOf (r:Int) a) y b):∀b∈V,dotV V (fun j=>mA (C.set r Z) j b) v=y b:=by
 intro b hb;subst hV;have hb2:=plc_mem.1 hb;by_cases e:b=(r:Int)
 ·have h1:dotV (plc n) (fun j=>mA (C.set r Z) j b) v=dotV (plc n) (pget Z) v:=dotV_row fun j _=>by
   rw[e];unfold mA
   rw[rE,dA,bD zo];rfl
  have h2:dotV (plc n) (pget Z) v=dotV (plc n) (pget a) (fun b=>dotV (plc n) (fun j=>mA C j b) v):=by
   have h3:dotV (plc n) (pget Z) v=dotV (plc n) (fun j=>dotV (plc n) (mA C j) (pget a)) v:=dotV_row fun j hj=>(hz j hj).symm;rw[h3];rw[dotV_comm (plc n) _ v,dotV_swap,dotV_comm]
  have h4:dotV (plc n) (pget a) (fun b=>dotV (plc n) (fun j=>mA C j b) v)=dotV (plc n) (pget a) (etaB (etaOf (r:Int) a) y):=dotV_congr fun b hb=>hv b hb;rw[h1,h2,h4,dotV_ev (plc_nodup n) _ (fun t ht=>plc_mem.2 (ha t ht)),e];have h5:ev a (etaB (etaOf (r:Int) a) y)=ev a y+pget a (r:Int)*(etaB (etaOf (r:Int) a) y (r:Int)-y (r:Int)):=by
   have h6:ev a (etaB (etaOf (r:Int) a) y)=ev a (fun b=>y b+(etaB (etaOf (r:Int) a) y (r:Int)-y (r:Int))*unit (r:Int) b):=ev_congr fun t _=>by
    unfold unit
    by_cases h7:t.1=(r:Int)
    ·rw[zA h7,h7];grind
    ·rw[uA h7,etaB_at,uA h7];grind
   rw[h6,ev_lin,ev_unit];grind
  rw[h5,etaB_at,zA rfl];have h8:(y (r:Int)-(ev a y-pget a (r:Int)*y (r:Int))) / pget a (r:Int)*pget a (r:Int)=y (r:Int)-(ev a y-pget a (r:Int)*y (r:Int)):=kE h0;grind
 ·have h1:dotV (plc n) (fun j=>mA (C.set r Z) j b) v=dotV (plc n) (fun j=>mA C j b) v:=dotV_row fun j _=>by
   unfold mA
   rw[dA,dD zo,←dA]
  rw[h1,hv b hb,etaB_at,uA e]
theorem fac_stuck {s:FacSt}:∀{n:Nat},facUp s n=none→∃k t,k<n∧facUp s k=some t∧nextF t.R t.OB=none
 | 0,h=>by cases h
 | n+1,h=>by
  cases e:facUp s n with
  | none=>obtain⟨k,t,h1,h2⟩:=fac_stuck e;exact⟨k,t,zo,h2⟩
  | some t =>
   rw[fac_more e] at h;refine⟨n,t,Nat.lt_succ_self n,e,?_⟩;cases hn:nextF t.R t.OB with
   | none=>rfl
   | some p=>unfold facStep at h;rw[hn] at h;cases h
theorem fwd_id {f:Int→Rat}:∀{L:List StepF},(∀st∈L,f st.row=0)→fwd L f=f
 | [],_=>rfl
 | st :: L,h=>by
  have h1:spr f st.taken (f st.row)=f:=by
   funext a
   unfold spr
   rw[h st qA,tE];grind
  show fwd L (spr f st.taken (f st.row))=f
  rw[h1];exact fwd_id fun u hu=>h u (yA _ hu)
theorem rows_len:∀(n:Nat) (L:List Int),(∀i:Nat,i<n→(i:Int)∈L)→n≤L.length
 | 0,_,_=>cB _
 | n+1,L,h=>by
  have h1:=rows_len n (L.erase (n:Int)) fun i hi=>(List.mem_erase_of_ne zo).2 (h i zo);have h2:=List.length_erase_of_mem (h n (Nat.lt_succ_self n));have h3:=List.length_pos_of_mem (h n (Nat.lt_succ_self n));omega
theorem all_fac {C:List (List (Int×Rat))} {n:Nat} (hl:C.length=n) (h:∀f:Int→Rat,∃x,∀j∈plc n,dotV (plc n) (mA C j) x=f j):(facUp (facT C n) n).isSome=true:=by
 cases e:facUp (facT C n) n with
 | some t=>rfl
 | none =>
  exfalso
  obtain⟨k,t,h1,h2,h3⟩:=fac_stuck e;obtain⟨h4,h5,h6⟩:=fac_sys (lu_start hl) rfl k h2;have hop:∃i:Nat,i<n∧t.OB.getD i false=true:=by
   by_cases hc:∃i:Nat,i<n∧t.OB.getD i false=true
   ·exact hc
   ·exfalso
    have h7:=rows_len n (t.ST.map fun st=>st.row) fun i hi=>by
     have h8:t.OB.getD i false=false:=by
      cases h9:t.OB.getD i false with
      | false=>rfl
      | true=>exact absurd ⟨i,hi,h9⟩ hc
     obtain⟨st,h9,h10⟩:=h4.shut2 i hi h8;exact rC.2 ⟨st,h9,h10⟩
    rw[xB] at h7;omega
  obtain⟨i,hi,ho⟩:=hop;obtain⟨x,hx⟩:=h (unit (i:Int));have h7:=(h6 x (unit (i:Int))).1 (fun j hj=>by
   show ev ((turnT C n).getD j []) x=_
   rw[row_dot hl j hj];exact hx (j:Int) (plc_mem.2 zo)) i hi
  rw[best_none (R:=t.R) (OB:=t.OB) (C:=cntUp t.R t.OB t.R.length) h3 i (by rw[h4.hR];exact hi) ho,fwd_id fun st hst=>by
   unfold unit
   rw[uA];intro e2;have h8:=h4.shut st hst;rw[e2,rE,ho] at h8;cases h8] at h7
  unfold unit at h7
  rw[zA rfl] at h7;exact absurd h7 (by show ¬((0:Rat)=1);decide)
def CW (w:World) (A:Option Addr) (n c:Nat) (C:List (List (Int×Rat))) (M:Nat):Prop :=
 ∃CL:List Vc,Sl Vc.cs 1 w A n c CL∧(∀v∈CL,GV w v.A v.n v.c (prs v.L) M)∧CL.map (fun v=>prs v.L)=C
def CM (w:World) (A:Option Addr) (n c:Nat) (C:List (List (Int×Rat))) (M:Nat):Prop :=
 ∃CL:List Vc,Sl Vc.cs 1 w A n c CL∧(∀v∈CL,CN w v M)∧CL.map (fun v=>prs v.L)=C
theorem CW.below {w w':World} {A:Option Addr} {n c M:Nat} {C:List (List (Int×Rat))} (h:CW w A n c C M) (hb:Below w.heap.size w w':=by go_grown):CW w' A n c C M:=by
 obtain⟨CL,h1,h2,h3⟩:=h;exact⟨CL,h1.below hb,fun v hv=>(h2 v hv).below hb,h3⟩
theorem CM.below {w w':World} {A:Option Addr} {n c M:Nat} {C:List (List (Int×Rat))} (h:CM w A n c C M) (hb:Below w.heap.size w w':=by go_grown):CM w' A n c C M:=by
 obtain⟨CL,h1,h2,h3⟩:=h;exact⟨CL,h1.below hb,fun v hv=>(h2 v hv).below hb,h3⟩
theorem CW.len {w:World} {A:Option Addr} {n c M:Nat} {C:List (List (Int×Rat))} (h:CW w A n c C M):C.length=n:=by
 obtain⟨CL,h1,_,rfl⟩:=h;rw[xB,h1.1]
theorem CM.len {w:World} {A:Option Addr} {n c M:Nat} {C:List (List (Int×Rat))} (h:CM w A n c C M):C.length=n:=by
 obtain⟨CL,h1,_,rfl⟩:=h;rw[xB,h1.1]
theorem CM.cw {w:World} {A:Option Addr} {n c M:Nat} {C:List (List (Int×Rat))} (h:CM w A n c C M) (hr:∀x∈C,Rise x):CW w A n c C (M+1):=by
 obtain⟨CL,h1,h2,rfl⟩:=h;exact⟨CL,h1,fun v hv=>(h2 v hv).nv.gv (hr _ (wD (f:=fun v:Vc=>prs v.L) hv)),rfl⟩
theorem idx_len (l:List Rat):(idxP l).length=l.length:=List.length_mapIdx
inductive Chain (n:Nat) (C0:List (List (Int×Rat))):List EtaF→List (List (Int×Rat))→Prop
 | nil:Chain n C0 [] C0
 | snoc {L:List EtaF} {C:List (List (Int×Rat))} {r:Nat} {a Z:List (Int×Rat)} (h:Chain n C0 L C) (hr:r<n) (hz:∀j∈plc n,dotV (plc n) (mA C j) (pget a)=pget Z j) (ha:∀t∈a,0≤t.1∧t.1<(n:Int)) (h0:pget a (r:Int)≠0) (hs:∀j,sz (pget Z j)≤3):Chain n C0 (L++[etaOf (r:Int) a]) (C.set r Z)
theorem mA_put {C:List (List (Int×Rat))} {r:Nat} (hr:r<C.length) (Z:List (Int×Rat)) (j b:Int) (hb:0≤b):mA (C.set r Z) j b=upd (mA C j) (r:Int) (pget Z j) b:=by
 unfold mA
 by_cases h:b=(r:Int)
 ·rw[h,upd_at,rE,dA,bD hr];rfl
 ·rw[upd_off h,dA,dD zo,←dA]
section
variable {n:Nat} {C0 C:List (List (Int×Rat))} {L:List EtaF}
theorem Chain.len (h:Chain n C0 L C) (hl:C0.length=n):C.length=n:=by
 induction h with
 | nil=>exact hl
 | snoc _ _ _ _ _ _ ih=>rw[bC];exact ih
theorem Chain.ftran (h:Chain n C0 L C) (hl:C0.length=n) {x f:Int→Rat} (hx:∀j∈plc n,dotV (plc n) (mA C0 j) x=f j):∀j∈plc n,dotV (plc n) (mA C j) (etasF L x)=f j:=by
 induction h with
 | nil=>exact hx
 | snoc h hr hz ha h0 _hs ih =>
  rename_i L C r a Z
  intro j hj;rw[etasF_snoc];have h1:=ftran_on (plc_nodup n) (plc_mem.2 (show 0≤(r:Int)∧(r:Int)<(n:Int) by omega)) (hz j hj) h0 (ih j hj);rw[←h1];exact dotV_row fun b hb=>mA_put (by rw[h.len hl];exact hr) Z j b (plc_mem.1 hb).1
theorem Chain.btran (h:Chain n C0 L C) (hl:C0.length=n):∀{y v:Int→Rat},(∀b∈plc n,dotV (plc n) (fun j=>mA C0 j b) v=etasB L y b)→∀b∈plc n,dotV (plc n) (fun j=>mA C j b) v=y b:=by
 induction h with
 | nil=>intro y v hv;exact hv
 | snoc h hr hz ha h0 _hs ih =>
  intro y v hv;refine btran_on rfl (h.len hl) hr hz ha h0 (ih fun b hb=>?_);rw[hv b hb,etasB_snoc]
theorem Chain.fac (h:Chain n C0 L C) (hl:C0.length=n) (h0:(facUp (facT C0 n) n).isSome=true):(facUp (facT C n) n).isSome=true:=by
 obtain⟨t,ht⟩:=vE.1 h0;exact all_fac (h.len hl) fun f=>⟨_,h.ftran hl fun j hj=>lu_sol hl ht f j hj⟩
theorem Chain.ftran_same (h:Chain n C0 L C) (hl:C0.length=n) {t u:FacSt} (ht:facUp (facT C0 n) n=some t) (hu:facUp (facT C n) n=some u) (f:Int→Rat) (a:Int) (ha:a∈plc n):etasF L (back (fwd t.ST f) t.ST) a=back (fwd u.ST f) u.ST a :=
 lu_uniq (h.len hl) hu (fun j hj=>by rw[h.ftran hl (fun j hj=>lu_sol hl ht f j hj) j hj,lu_sol (h.len hl) hu f j hj]) a ha
theorem Chain.btran_same (h:Chain n C0 L C) (hl:C0.length=n) {t u:FacSt} (ht:facUp (facT C0 n) n=some t) (hu:facUp (facT C n) n=some u) (y:Int→Rat) (i:Int) (hi:i∈plc n):btDn t.ST (btUp t.ST (etasB L y) fun _=>0) i=btDn u.ST (btUp u.ST y fun _=>0) i :=
 lu_left_uniq (h.len hl) hu (fun a ha=>by rw[h.btran hl (fun b hb=>lu_left hl ht (etasB L y) b hb) a ha,lu_left (h.len hl) hu y a ha]) i hi
theorem Chain.side (h:Chain n C0 L C) (hl:C0.length=n) {t u:FacSt} (ht:facUp (facT C0 n) n=some t) (hu:facUp (facT C n) n=some u) (y:Int→Rat) (b:Int) (hb:b∈plc n):etasB L y b=dotV (plc n) (fun j=>mA C0 j b) (btDn u.ST (btUp u.ST y fun _=>0)):=by
 rw[←lu_left hl ht (etasB L y) b hb];exact dotV_congr fun i hi=>h.btran_same hl ht hu y i hi
end
section
variable {n:Nat} {C0 C:List (List (Int×Rat))} {L:List EtaF}
theorem Chain.one {r:Nat} {a Z:List (Int×Rat)} (hr:r<n) (hz:∀j∈plc n,dotV (plc n) (mA C j) (pget a)=pget Z j) (ha:∀t∈a,0≤t.1∧t.1<(n:Int)) (h0:pget a (r:Int)≠0) (hs:∀j,sz (pget Z j)≤3):Chain n C [etaOf (r:Int) a] (C.set r Z):=Chain.snoc .nil hr hz ha h0 hs
theorem Chain.split (h:Chain n C0 L C):∀i,i≤L.length→∃Ci,Chain n C0 (L.take i) Ci∧Chain n Ci (L.drop i) C:=by
 induction h with
 | nil =>
  intro i hi;obtain rfl:i=0:=by simpa using hi
  exact⟨_,.nil,.nil⟩
 | snoc h hr hz ha h0 hs ih =>
  rename_i L C r a Z
  intro i hi;rw[jC,List.length_singleton] at hi;by_cases e:i=L.length+1
  ·refine⟨C.set r Z,?_,?_⟩
   ·rw[nA (by rw[jC,List.length_singleton];omega)];exact .snoc h hr hz ha h0 hs
   ·rw[List.drop_of_length_le (by rw[jC,List.length_singleton];omega)];exact .nil
  ·obtain⟨Ci,h1,h2⟩:=ih i zo;refine⟨Ci,?_,?_⟩
   ·rw[List.take_append_of_le_length zo];exact h1
   ·rw[List.drop_append_of_le_length zo];exact .snoc h2 hr hz ha h0 hs
theorem mA_set_small {r:Nat} {Z:List (Int×Rat)} {D:Nat} (h:∀j a,sz (mA C j a)≤D) (hs:∀j,sz (pget Z j)≤D) (j a:Int):sz (mA (C.set r Z) j a)≤D:=by
 by_cases hl:r<C.length
 ·unfold mA
  rw[dA,List.getElem?_set];by_cases e:r=a.toNat
  ·rw[zA e,zA zo];exact hs j
  ·rw[uA e,←dA];exact h j a
 ·rw[List.set_eq_of_length_le zo];exact h j a
theorem Chain.small (h:Chain n C0 L C) (h0:∀j a,sz (mA C0 j a)≤3):∀j a,sz (mA C j a)≤3:=by
 induction h with
 | nil=>exact h0
 | snoc _ _ _ _ _ hs ih=>exact mA_set_small ih hs
theorem Chain.ftranF (h:Chain n C0 L C) (hl:C0.length=n) (hi:(facUp (facT C0 n) n).isSome=true) (f:Int→Rat) (a:Int) (ha:a∈plc n):etasF L (back (fwd (facST C0 n) f) (facST C0 n)) a=back (fwd (facST C n) f) (facST C n) a:=by
 obtain⟨t,ht⟩:=vE.1 hi;obtain⟨u,hu⟩:=vE.1 (h.fac hl hi);rw[facST_eq ht,facST_eq hu];exact h.ftran_same hl ht hu f a ha
theorem Chain.fsz (h:Chain n C0 L C) (hl:C0.length=n) (hn:1≤n) (hi:(facUp (facT C0 n) n).isSome=true) (h0:∀j a,sz (mA C0 j a)≤3) {S:Nat} {f:Int→Rat} (hf:∀j∈plc n,sz (f j)≤S) (i:Nat) (hil:i≤L.length) (a:Int) (ha:a∈plc n):sz (etasF (L.take i) (back (fwd (facST C0 n) f) (facST C0 n)) a)≤solG 3 S (n-1):=by
 obtain⟨Ci,h1,h2⟩:=h.split i hil;rw[h1.ftranF hl hi f a ha];obtain⟨u,hu⟩:=vE.1 (h1.fac hl hi);rw[facST_eq hu];exact lu_sz (h1.len hl) hn hu (fun j _ b _=>h1.small h0 j b) hf a ha
end
def layF (n:Nat) (F:Int→Rat):List (Int×Rat):=nrm (idxP ((List.range n).map fun(i:Nat)=>F (i:Int)))
theorem layF_dot (n:Nat) (F r:Int→Rat):dotV (plc n) r (pget (layF n F))=dotV (plc n) r F:=dotV_congr fun a ha=>by
 unfold layF
 rw[lay_get,zA (plc_mem.1 ha)]
theorem layF_ext {n:Nat} {F:Int→Rat} {P:List (Int×Rat)} (hf:∀x∈nrm P,0≤x.1∧x.1<(n:Int)) (h:∀a∈plc n,F a=pget P a):layF n F=nrm P:=nrm_ext fun a=>by
 have h1:=lay_get n F a;rw[nrm_get] at h1;rw[h1];by_cases ha:0≤a∧a<(n:Int)
 ·rw[zA ha,h a (plc_mem.2 ha)]
 ·rw[uA ha,←nrm_get,pget_none (a:=a) fun x hx e=>ha (e ▸ hf x hx)]
section
variable {C:List (List (Int×Rat))} {n:Nat} {t:FacSt} {P:List (Int×Rat)}
end
theorem sol_small {n S:Nat} (hn:n≤14) (hS:S≤2000):solG 3 S (n-1)+2≤490000000∧solG 3 S (n-1)+2≤2 ^ n*S+2*facM 4 n:=by
 have h1:=solG_le (n-1) 3 S;have h2:∀k:Fin 15,2 ^ (k.val-1)*2000+2*elD 3 (k.val-1)≤489999998∧2*elD 3 (k.val-1)+2≤2*facM 4 k.val:=by decide +kernel
 have h3:=h2 ⟨n,zo⟩;have h4:2 ^ (n-1)*S≤2 ^ (n-1)*2000:=fC _ hS;have h5:2 ^ (n-1)*S≤2 ^ n*S:=wB _ (cD zo zo);simp only at h3
 omega
theorem pow_small {n S:Nat} (hn:n≤14) (hS:S≤2000):2 ^ n*S≤32768000:=wA (eF (cD zo hn) hS) zd
theorem fac_small {n:Nat} (hn:n≤14):facM 4 n≤2684354556:=wA (facM_mono 4 hn) zd
end Go.Proofs.YteggjbgbknkoiaaGreatDoor
