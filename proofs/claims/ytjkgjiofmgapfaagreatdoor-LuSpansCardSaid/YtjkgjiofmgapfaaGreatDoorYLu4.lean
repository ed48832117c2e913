/-
  An LU in memory, finished and while Factor works on it. By hand.
-/
import Derived.Test.YtjkgjiofmgapfaaGreatDoorYLu3
namespace Go.Proofs.YtjkgjiofmgapfaaGreatDoor
open Go.RowKit Tw
structure StM where
 row:Int
 col:Int
 pv:Fr
 R:Vc
 T:Vc
def StM.cs (s:StM):List Value:=[.int .i64 s.row,.int .i64 s.col,.bool s.pv.s,.slice s.pv.A s.pv.l s.pv.c,.bool s.pv.s',.slice s.pv.A' s.pv.l' s.pv.c',.slice s.R.A s.R.n s.R.c,.slice s.T.A s.T.n s.T.c]
theorem StM.cs_len (s:StM):s.cs.length=8:=rfl
def StM.f (s:StM):StepF:=⟨s.row,s.col,s.pv.q,prs s.R.L,prs s.T.L⟩
theorem elt_st:Elt StM.cs 8 89 129:=Elt.of (.agg #[.int .i64 0,.int .i64 0,.bool false,.slice none 0 0,.bool false,.slice none 0 0,.slice none 0 0,.slice none 0 0]) 128 Tryz.underlying89 (by kernel_rfl) zo (by kernel_rfl) (nou_list (by kernel_rfl)) StM.cs_len
 (fun s u hu=>by simp[StM.cs] at hu;rcases hu with rfl | rfl | rfl | rfl | rfl | rfl | rfl | rfl<;>rfl) (fun s u hu n=>by simp[StM.cs] at hu;rcases hu with rfl | rfl | rfl | rfl | rfl | rfl | rfl | rfl<;>simp)
structure StOwn (w:World) (B K:Nat) (s:StM):Prop where
 pv:RN w s.pv.s s.pv.A s.pv.c s.pv.l s.pv.s' s.pv.A' s.pv.c' s.pv.l' s.pv.q∧s.pv.ex=true∧sz s.pv.q+1≤K
 r:OwnR w B 71 5 (vsl s.R) s.R.n (flat Tm.cs s.R.L)∧OnT w s.R.L (fun _=>K)
 t:OwnR w B 71 5 (vsl s.T) s.T.n (flat Tm.cs s.T.L)∧OnT w s.T.L (fun _=>K)
theorem StOwn.below {w w':World} {B K:Nat} {s:StM} (h:StOwn w B K s) (hb:Below w.heap.size w w':=by go_grown):StOwn w' B K s:=⟨⟨h.pv.1.below hb,h.pv.2⟩,⟨h.r.1.below hb,h.r.2.below hb⟩,⟨h.t.1.below hb,h.t.2.below hb⟩⟩
theorem StOwn.mono {w:World} {B K K':Nat} {s:StM} (h:StOwn w B K s) (hK:K≤K'):StOwn w B K' s:=⟨⟨h.pv.1,h.pv.2.1,by have:=h.pv.2.2;omega⟩,⟨h.r.1,h.r.2.mono fun _ _=>hK⟩,⟨h.t.1,h.t.2.mono fun _ _=>hK⟩⟩
theorem StOwn.grown {w w':World} {B K:Nat} {s:StM} {x y:Value} (h:StOwn w B K s) (hg:Grew w w' x y) (hr:Ap (vsl s.R) x) (ht:Ap (vsl s.T) x):StOwn w' B K s :=
 ⟨⟨h.pv.1.k hg.k,h.pv.2⟩,⟨h.r.1.grown hg hr,h.r.2.k hg.k⟩,⟨h.t.1.grown hg ht,h.t.2.k hg.k⟩⟩
theorem StOwn.kp {Z:Nat→Prop} {w w':World} {B K:Nat} {s:StM} (h:StOwn w B K s) (hk:KP Z w w') (hr:∀b,(vsl s.R).ownBlock=some b→¬Z b) (ht:∀b,(vsl s.T).ownBlock=some b→¬Z b):StOwn w' B K s :=
 ⟨⟨h.pv.1.k hk.k,h.pv.2⟩,⟨hk.own h.r.1 hr,h.r.2.k hk.k⟩,⟨hk.own h.t.1 ht,h.t.2.k hk.k⟩⟩
theorem StOwn.far2 {w w':World} {B K b:Nat} {s:StM} (h:StOwn w B K s) (far:∀b' cs t',b'≠b→Bx w b' cs t'→Bx w' b' cs t') (hk:K64 w w') (hr:some b≠(vsl s.R).ownBlock) (ht:some b≠(vsl s.T).ownBlock):StOwn w' B K s :=
 ⟨⟨h.pv.1.k hk,h.pv.2⟩,⟨h.r.1.far2 far hr,h.r.2.k hk⟩,⟨h.t.1.far2 far ht,h.t.2.k hk⟩⟩
def vsOf (LS:List StM):List Vc:=LS.flatMap fun s=>[s.R,s.T]
theorem vsOf_r {LS:List StM} {s:StM} (h:s∈LS):s.R∈vsOf LS:=List.mem_flatMap.2 ⟨s,h,by simp⟩
theorem vsOf_t {LS:List StM} {s:StM} (h:s∈LS):s.T∈vsOf LS:=List.mem_flatMap.2 ⟨s,h,by simp⟩
theorem vsOf_app (LS:List StM) (s:StM):vsOf (LS++[s])=vsOf LS++[s.R,s.T]:=by unfold vsOf;rw[List.flatMap_append];rfl
theorem Ap.of_ne {v:Value} {g n c:Nat} (h:some g≠v.ownBlock):Ap v (.slice (some ⟨g,0,none⟩) n c):=.inr fun e=>h (by rw[e];rfl)
structure OffV (g ob fb:Nat) (X:Value) (v:Vc):Prop where
 g:some g≠(vsl v).ownBlock
 o:some ob≠(vsl v).ownBlock
 f:some fb≠(vsl v).ownBlock
 x:Ap (vsl v) X
structure FM (w:World) (B g ob fb n i:Nat) (H:Option Addr) (hc:Nat) (X:Value) (V:List Vc) (OB:List Bool) (LS:List StM) (M:Nat) (K:Nat→Nat):Prop where
 rows:RO w B g n V M
 opn:OwnR w B 4 1 (.slice (some ⟨ob,0,none⟩) n n) n (flat bls OB)
 stp:OwnR w B 129 8 (.slice H i hc) i (flat StM.cs LS)
 st:∀j s,LS[j]?=some s→StOwn w B (K j) s
 box:Bx w fb #[.bool true,.int .i64 (n:Int),X] 91
 fB:B≤fb
 go:g≠ob
 gf:fb≠g
 fo:fb≠ob
 gH:some g≠(Value.slice H i hc).ownBlock
 oH:some ob≠(Value.slice H i hc).ownBlock
 fH:some fb≠(Value.slice H i hc).ownBlock
 vec:∀v∈V,OffV g ob fb (.slice H i hc) v
 svec:∀v∈vsOf LS,OffV g ob fb (.slice H i hc) v
section
variable {w w':World} {B g ob fb n i:Nat} {H:Option Addr} {hc:Nat} {X:Value} {V:List Vc} {OB:List Bool} {LS:List StM} {M:Nat} {K:Nat→Nat}
theorem FM.below (h:FM w B g ob fb n i H hc X V OB LS M K) (hb:Below w.heap.size w w':=by go_grown):FM w' B g ob fb n i H hc X V OB LS M K :=
 ⟨h.rows.below hb,h.opn.below hb,h.stp.below hb,fun j s hs=>(h.st j s hs).below hb,h.box.below hb,h.fB,h.go,h.gf,h.fo,h.gH,h.oH,h.fH,h.vec,h.svec⟩
theorem FM.mono {M':Nat} (h:FM w B g ob fb n i H hc X V OB LS M K) (hM:M≤M'):FM w B g ob fb n i H hc X V OB LS M' K :=
 ⟨h.rows.mono hM,h.opn,h.stp,h.st,h.box,h.fB,h.go,h.gf,h.fo,h.gH,h.oH,h.fH,h.vec,h.svec⟩
theorem FM.lens (h:FM w B g ob fb n i H hc X V OB LS M K):V.length=n∧OB.length=n∧LS.length=i:=⟨h.rows.len,h.opn.eltn elt_bls zo,h.stp.eltn elt_st zo⟩
theorem FM.shut {k:Nat} {y:Bool} (h:FM w B g ob fb n i H hc X V OB LS M K) (hy:OB[k]?=some y) :
  ∃W,W=w.setCell ⟨ob,k,none⟩ (.bool false)∧FM W B g ob fb n i H hc X V (OB.set k false) LS M K∧Grew w W (.slice (some ⟨ob,0,none⟩) n n) (.slice (some ⟨ob,0,none⟩) n n):=by
 obtain⟨W,hW,h1,h2⟩:=bl_store h.opn hy false;refine⟨W,hW,⟨h.rows.grown h2 (fun e=>h.go (Option.some.inj e).symm) (fun v hv=>Ap.of_ne (h.vec v hv).o),h1,h.stp.grown h2 (Ap.of_ne h.oH),fun j s hs=>(h.st j s hs).grown h2 (Ap.of_ne (h.svec _ (vsOf_r (List.mem_of_getElem? hs))).o) (Ap.of_ne (h.svec _ (vsOf_t (List.mem_of_getElem? hs))).o),h2.bx h.box (fun e=>h.fo (Option.some.inj e)),h.fB,h.go,h.gf,h.fo,h.gH,h.oH,h.fH,h.vec,h.svec⟩,h2⟩
theorem FM.elim {V':List Vc} {M':Nat} (h:FM w B g ob fb n i H hc X V OB LS M K) (hr:RO w' B g n V' M') (hk:KP (fun b=>b=g) w w') (hn:∀v∈V',v∈V∨∀b,(vsl v).ownBlock=some b→w.heap.size≤b):FM w' B g ob fb n i H hc X V' OB LS M' K:=by
 have hg:=h.rows.base.2;have ho:=h.opn.lt ob rfl;have hf:=h.box.lt;refine⟨hr,hk.own h.opn (fun b e=>by cases e;exact fun e2=>h.go e2.symm),hk.own h.stp (fun b e e2=>h.gH (by rw[e,e2])),fun j s hs=>(h.st j s hs).kp hk (fun b e e2=>(h.svec _ (vsOf_r (List.mem_of_getElem? hs))).g (by rw[e,e2])) (fun b e e2=>(h.svec _ (vsOf_t (List.mem_of_getElem? hs))).g (by rw[e,e2])),hk.bx h.box h.gf,h.fB,h.go,h.gf,h.fo,h.gH,h.oH,h.fH,fun v hv=>?_,h.svec⟩;rcases hn v hv with hv | hv
 ·exact h.vec v hv
 ·refine⟨fun e=>?_,fun e=>?_,fun e=>?_,?_⟩
  ·have:=hv g e.symm;omega
  ·have:=hv ob e.symm;omega
  ·have:=hv fb e.symm;omega
  ·cases e:(vsl v).ownBlock with
   | none=>exact .inl e
   | some b=>exact .inr fun e2=>by have h1:=hv b e;have h2:=h.stp.lt b (e2.symm.trans e);omega
theorem FM.app {s:StM} {H':Option Addr} {hc':Nat} (h:FM w B g ob fb n i H hc X V OB LS M K) (hs:StOwn w B (K i) s) (hr:OffV g ob fb (.slice H i hc) s.R) (ht:OffV g ob fb (.slice H i hc) s.T)
  (ho:OwnR w' B 129 8 (.slice H' (i+1) hc') (i+1) (flat StM.cs (LS++[s]))) (hg:Grew w w' (.slice H i hc) (.slice H' (i+1) hc')):FM w' B g ob fb n (i+1) H' hc' X V OB (LS++[s]) M K:=by
 have hgl:=h.rows.base.2;have hol:=h.opn.lt ob rfl;have hfl:=h.box.lt;have hv:∀v∈vsOf (LS++[s]),OffV g ob fb (.slice H i hc) v∧OwnR w B 71 5 (vsl v) v.n (flat Tm.cs v.L):=fun v hv=>by
  rw[vsOf_app] at hv;rcases List.mem_append.1 hv with hv | hv
  ·obtain⟨u,hu,hvu⟩:=List.mem_flatMap.1 hv;refine⟨h.svec v hv,?_⟩;simp only[List.mem_cons,List.not_mem_nil,or_false] at hvu
   obtain⟨j,hj⟩:=List.getElem?_of_mem hu;rcases hvu with rfl | rfl
   ·exact(h.st j u hj).r.1
   ·exact(h.st j u hj).t.1
  ·simp only[List.mem_cons,List.not_mem_nil,or_false] at hv
   rcases hv with rfl | rfl
   ·exact⟨hr,hs.r.1⟩
   ·exact⟨ht,hs.t.1⟩
 refine⟨h.rows.grown hg (fun e=>h.gH e.symm) (fun v hv=>(h.vec v hv).x),h.opn.grown hg (.inr fun e=>h.oH e),ho,fun j u hu=>?_,hg.bx h.box h.fH,h.fB,h.go,h.gf,h.fo,hg.ne hgl h.gH,hg.ne hol h.oH,hg.ne hfl h.fH,fun v hm=>?_,fun v hm=>?_⟩
 ·have hl:=h.stp.eltn elt_st zo;by_cases hj:j<LS.length
  ·rw[List.getElem?_append_left hj] at hu;have hm:=List.mem_of_getElem? hu;exact(h.st j u hu).grown hg (h.svec _ (vsOf_r hm)).x (h.svec _ (vsOf_t hm)).x
  ·rw[List.getElem?_append_right zo] at hu;have hj2:j-LS.length=0:=by
    rcases Nat.eq_zero_or_pos (j-LS.length) with h9 | h9
    ·exact h9
    ·rw[List.getElem?_eq_none (by simp;omega)] at hu;cases hu
   rw[hj2] at hu;obtain rfl:s=u:=Option.some.inj hu;obtain rfl:j=i:=zo;exact hs.grown hg hr.x ht.x
 ·have h1:=h.vec v hm;exact⟨h1.g,h1.o,h1.f,hg.ap (h.rows.row v hm).1 h1.x⟩
 ·obtain⟨h1,h2⟩:=hv v hm;exact⟨h1.g,h1.o,h1.f,hg.ap h2 h1.x⟩
theorem FM.put {Y:Value} (h:FM w B g ob fb n i H hc X V OB LS M K) (far:∀b' cs t',b'≠fb→Bx w b' cs t'→Bx w' b' cs t') (hk:K64 w w') (hx:Bx w' fb #[.bool true,.int .i64 (n:Int),Y] 91):FM w' B g ob fb n i H hc Y V OB LS M K :=
 ⟨h.rows.far2 far hk h.gf (fun v hv=>(h.vec v hv).f),h.opn.far2 far (fun e=>h.fo (Option.some.inj e)),h.stp.far2 far h.fH,fun j s hs=>(h.st j s hs).far2 far hk (h.svec _ (vsOf_r (List.mem_of_getElem? hs))).f (h.svec _ (vsOf_t (List.mem_of_getElem? hs))).f,hx,h.fB,h.go,h.gf,h.fo,h.gH,h.oH,h.fH,h.vec,h.svec⟩
end
structure StRd (w:World) (K:Nat) (s:StM):Prop where
 pv:RN w s.pv.s s.pv.A s.pv.c s.pv.l s.pv.s' s.pv.A' s.pv.c' s.pv.l' s.pv.q∧s.pv.ex=true∧sz s.pv.q+1≤K
 r:CN w s.R K
 t:CN w s.T K
 ra:∀a,s.R.A=some a→a.block<w.heap.size
 ta:∀a,s.T.A=some a→a.block<w.heap.size
theorem own_adr {w:World} {B n c k m:Nat} {e:TypeId} {A:Option Addr} {xs:List Value} (h:OwnR w B e k (.slice A n c) m xs):∀a,A=some a→a.block<w.heap.size:=fun a ha=>by
 obtain⟨H,c2,e9,_,h9,_⟩:=h.slice;cases e9;obtain⟨g,rfl⟩:=h9 a ha;subst ha;exact h.lt g rfl
theorem StRd.below {w w':World} {K:Nat} {s:StM} (h:StRd w K s) (hb:Below w.heap.size w w':=by go_grown):StRd w' K s:=⟨⟨h.pv.1.below hb,h.pv.2⟩,h.r.below hb,h.t.below hb,fun a ha=>Nat.lt_of_lt_of_le (h.ra a ha) hb.size,fun a ha=>Nat.lt_of_lt_of_le (h.ta a ha) hb.size⟩
def LuM (w:World) (fb n:Nat) (ST:List StepF) (K:Nat→Nat):Prop :=
 ∃(H:Option Addr) (hc:Nat) (LS:List StM),Bx w fb #[.bool true,.int .i64 (n:Int),.slice H n hc] 91∧Sl StM.cs 8 w H n hc LS∧(∀i s,LS[i]?=some s→StRd w (K i) s)∧LS.map StM.f=ST
theorem LuM.below {w w':World} {fb n:Nat} {K:Nat→Nat} {ST:List StepF} (h:LuM w fb n ST K) (hb:Below w.heap.size w w':=by go_grown):LuM w' fb n ST K:=by
 obtain⟨H,hc,LS,h1,h2,h3,h4⟩:=h;exact⟨H,hc,LS,h1.below hb,h2.below hb,fun i s hs=>(h3 i s hs).below hb,h4⟩
theorem FM.lu {w:World} {B g ob fb n:Nat} {H:Option Addr} {hc:Nat} {V:List Vc} {OB:List Bool} {LS:List StM} {M:Nat} {K:Nat→Nat} (h:FM w B g ob fb n n H hc (.slice H n hc) V OB LS M K):LuM w fb n (LS.map StM.f) K :=
 ⟨H,hc,LS,h.box,h.stp.sl' elt_st h.lens.2.2,fun i s hs=>⟨(h.st i s hs).pv,own_cn (h.st i s hs).r.1 (h.st i s hs).r.2,own_cn (h.st i s hs).t.1 (h.st i s hs).t.2,own_adr (h.st i s hs).r.1,own_adr (h.st i s hs).t.1⟩,rfl⟩
end Go.Proofs.YtjkgjiofmgapfaaGreatDoor
