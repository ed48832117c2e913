import Derived.Test.YteggjbgbknkoiaaGreatDoorULu3
set_option maxHeartbeats 8000000
set_option maxRecDepth 100000
namespace Go.Proofs.YteggjbgbknkoiaaGreatDoor
open Go.RowKit Tw
structure StM where
 row:Int
 col:Int
 pv:Fr
 R:Vc
 T:Vc
def StM.cs (s:StM):List Value:=[.int .i64 s.row,.int .i64 s.col,.bool s.pv.s,.slice s.pv.A s.pv.l s.pv.c,.bool s.pv.s',.slice s.pv.A' s.pv.l' s.pv.c',.slice s.R.A s.R.n s.R.c,.slice s.T.A s.T.n s.T.c]
theorem StM.cs_len (s:StM):s.cs.length=8:=rfl
def StM.f (s:StM):StepF:=⟨s.row,s.col,s.pv.q,prs s.R.L,prs s.T.L⟩
theorem elt_st:Elt StM.cs 8 66 74:=Elt.of (.agg #[.int .i64 0,.int .i64 0,.bool false,.slice none 0 0,.bool false,.slice none 0 0,.slice none 0 0,.slice none 0 0]) 128 Tryz.underlying66 (by kernel_rfl) zo (by kernel_rfl) (nou_list (by kernel_rfl)) StM.cs_len
 (fun s u hu=>by simp[StM.cs] at hu;rcases hu with rfl | rfl | rfl | rfl | rfl | rfl | rfl | rfl<;>rfl) (fun s u hu n=>by simp[StM.cs] at hu;rcases hu with rfl | rfl | rfl | rfl | rfl | rfl | rfl | rfl<;>simp)
structure StOwn (w:World) (B K:Nat) (s:StM):Prop where
 pv:RN w s.pv.s s.pv.A s.pv.c s.pv.l s.pv.s' s.pv.A' s.pv.c' s.pv.l' s.pv.q∧s.pv.ex=true∧sz s.pv.q+1≤K
 r:OwnR w B 32 5 (vsl s.R) s.R.n (flat Tm.cs s.R.L)∧OnT w s.R.L (fun _=>K)
 t:OwnR w B 32 5 (vsl s.T) s.T.n (flat Tm.cs s.T.L)∧OnT w s.T.L (fun _=>K)
theorem StOwn.below {w w':World} {B K:Nat} {s:StM} (h:StOwn w B K s) (hb:Below w.heap.size w w':=by go_grown):StOwn w' B K s:=⟨⟨h.pv.1.below hb,h.pv.2⟩,⟨h.r.1.below hb,h.r.2.below hb⟩,⟨h.t.1.below hb,h.t.2.below hb⟩⟩
theorem StOwn.mono {w:World} {B K K':Nat} {s:StM} (h:StOwn w B K s) (hK:K≤K'):StOwn w B K' s:=⟨⟨h.pv.1,h.pv.2.1,by have:=h.pv.2.2;omega⟩,⟨h.r.1,h.r.2.mono fun _ _=>hK⟩,⟨h.t.1,h.t.2.mono fun _ _=>hK⟩⟩
theorem StOwn.grown {w w':World} {B K:Nat} {s:StM} {x y:Value} (h:StOwn w B K s) (hg:Grew w w' x y) (hr:Ap (vsl s.R) x) (ht:Ap (vsl s.T) x):StOwn w' B K s :=
 ⟨⟨h.pv.1.k hg.k,h.pv.2⟩,⟨h.r.1.grown hg hr,h.r.2.k hg.k⟩,⟨h.t.1.grown hg ht,h.t.2.k hg.k⟩⟩
theorem StOwn.kp {Z:Nat→Prop} {w w':World} {B K:Nat} {s:StM} (h:StOwn w B K s) (hk:KP Z w w') (hr:∀b,(vsl s.R).ownBlock=some b→¬Z b) (ht:∀b,(vsl s.T).ownBlock=some b→¬Z b):StOwn w' B K s :=
 ⟨⟨h.pv.1.k hk.k,h.pv.2⟩,⟨hk.own h.r.1 hr,h.r.2.k hk.k⟩,⟨hk.own h.t.1 ht,h.t.2.k hk.k⟩⟩
theorem StOwn.far2 {w w':World} {B K b:Nat} {s:StM} (h:StOwn w B K s) (far:∀b' cs t',b'≠b→Bx w b' cs t'→Bx w' b' cs t') (hk:K64 w w') (hr:some b≠(vsl s.R).ownBlock) (ht:some b≠(vsl s.T).ownBlock):StOwn w' B K s :=
 ⟨⟨h.pv.1.k hk,h.pv.2⟩,⟨h.r.1.far2 far hr,h.r.2.k hk⟩,⟨h.t.1.far2 far ht,h.t.2.k hk⟩⟩
def vsOf (LS:List StM):List Vc:=LS.flatMap fun s=>[s.R,s.T]
theorem vsOf_r {LS:List StM} {s:StM} (h:s∈LS):s.R∈vsOf LS:=List.mem_flatMap.2 ⟨s,h,by simp⟩
theorem vsOf_t {LS:List StM} {s:StM} (h:s∈LS):s.T∈vsOf LS:=List.mem_flatMap.2 ⟨s,h,by simp⟩
theorem vsOf_app (LS:List StM) (s:StM):vsOf (LS++[s])=vsOf LS++[s.R,s.T]:=by unfold vsOf;rw[List.flatMap_append];rfl
theorem Ap.of_ne {v:Value} {g n c:Nat} (h:some g≠v.ownBlock):Ap v (.slice (some ⟨g,0,none⟩) n c):=.inr fun e=>h (by rw[e];rfl)
structure OffV (g ob fb:Nat) (X:Value) (v:Vc):Prop where
 g:some g≠(vsl v).ownBlock
 o:some ob≠(vsl v).ownBlock
 f:some fb≠(vsl v).ownBlock
 x:Ap (vsl v) X
structure FM (w:World) (B g ob fb n i:Nat) (H:Option Addr) (hc:Nat) (X:Value) (V:List Vc) (OB:List Bool) (LS:List StM) (M:Nat) (K:Nat→Nat):Prop where
 rows:RO w B g n V M
 opn:OwnR w B 4 1 (.slice (some ⟨ob,0,none⟩) n n) n (flat bls OB)
 stp:OwnR w B 74 8 (.slice H i hc) i (flat StM.cs LS)
 st:∀j s,LS[j]?=some s→StOwn w B (K j) s
 box:Bx w fb #[.bool true,.int .i64 (n:Int),X] 68
 fB:B≤fb
 go:g≠ob
 gf:fb≠g
 fo:fb≠ob
 gH:some g≠(Value.slice H i hc).ownBlock
 oH:some ob≠(Value.slice H i hc).ownBlock
 fH:some fb≠(Value.slice H i hc).ownBlock
 vec:∀v∈V,OffV g ob fb (.slice H i hc) v
 svec:∀v∈vsOf LS,OffV g ob fb (.slice H i hc) v
section
variable {w w':World} {B g ob fb n i:Nat} {H:Option Addr} {hc:Nat} {X:Value} {V:List Vc} {OB:List Bool} {LS:List StM} {M:Nat} {K:Nat→Nat}
theorem FM.below (h:FM w B g ob fb n i H hc X V OB LS M K) (hb:Below w.heap.size w w':=by go_grown):FM w' B g ob fb n i H hc X V OB LS M K :=
 ⟨h.rows.below hb,h.opn.below hb,h.stp.below hb,fun j s hs=>(h.st j s hs).below hb,h.box.below hb,h.fB,h.go,h.gf,h.fo,h.gH,h.oH,h.fH,h.vec,h.svec⟩
theorem FM.mono {M':Nat} (h:FM w B g ob fb n i H hc X V OB LS M K) (hM:M≤M'):FM w B g ob fb n i H hc X V OB LS M' K :=
 ⟨h.rows.mono hM,h.opn,h.stp,h.st,h.box,h.fB,h.go,h.gf,h.fo,h.gH,h.oH,h.fH,h.vec,h.svec⟩
theorem FM.lens (h:FM w B g ob fb n i H hc X V OB LS M K):V.length=n∧OB.length=n∧LS.length=i:=⟨h.rows.len,h.opn.eltn elt_bls zo,h.stp.eltn elt_st zo⟩
theorem FM.shut {k:Nat} {y:Bool} (h:FM w B g ob fb n i H hc X V OB LS M K) (hy:OB[k]?=some y) :
  ∃W,W=w.setCell ⟨ob,k,none⟩ (.bool false)∧FM W B g ob fb n i H hc X V (OB.set k false) LS M K∧Grew w W (.slice (some ⟨ob,0,none⟩) n n) (.slice (some ⟨ob,0,none⟩) n n):=by
 obtain⟨W,hW,h1,h2⟩:=bl_store h.opn hy false;refine⟨W,hW,⟨h.rows.grown h2 (fun e=>h.go (Option.some.inj e).symm) (fun v hv=>Ap.of_ne (h.vec v hv).o),h1,h.stp.grown h2 (Ap.of_ne h.oH),fun j s hs=>(h.st j s hs).grown h2 (Ap.of_ne (h.svec _ (vsOf_r (dA hs))).o) (Ap.of_ne (h.svec _ (vsOf_t (dA hs))).o),h2.bx h.box (fun e=>h.fo (Option.some.inj e)),h.fB,h.go,h.gf,h.fo,h.gH,h.oH,h.fH,h.vec,h.svec⟩,h2⟩
theorem FM.elim {V':List Vc} {M':Nat} (h:FM w B g ob fb n i H hc X V OB LS M K) (hr:RO w' B g n V' M') (hk:KP (fun b=>b=g) w w') (hn:∀v∈V',v∈V∨∀b,(vsl v).ownBlock=some b→w.heap.size≤b):FM w' B g ob fb n i H hc X V' OB LS M' K:=by
 have hg:=h.rows.base.2;have ho:=h.opn.lt ob rfl;have hf:=h.box.lt;refine⟨hr,hk.own h.opn (fun b e=>by cases e;exact fun e2=>h.go e2.symm),hk.own h.stp (fun b e e2=>h.gH (by rw[e,e2])),fun j s hs=>(h.st j s hs).kp hk (fun b e e2=>(h.svec _ (vsOf_r (dA hs))).g (by rw[e,e2])) (fun b e e2=>(h.svec _ (vsOf_t (dA hs))).g (by rw[e,e2])),hk.bx h.box h.gf,h.fB,h.go,h.gf,h.fo,h.gH,h.oH,h.fH,fun v hv=>?_,h.svec⟩;rcases hn v hv with hv | hv
 ·exact h.vec v hv
 ·refine⟨fun e=>?_,fun e=>?_,fun e=>?_,?_⟩
  ·have:=hv g e.symm;omega
  ·have:=hv ob e.symm;omega
  ·have:=hv fb e.symm;omega
  ·cases e:(vsl v).ownBlock with
   | none=>exact .inl e
   | some b=>exact .inr fun e2=>by have h1:=hv b e;have h2:=h.stp.lt b (e2.symm.trans e);omega
theorem FM.app {s:StM} {H':Option Addr} {hc':Nat} (h:FM w B g ob fb n i H hc X V OB LS M K) (hs:StOwn w B (K i) s) (hr:OffV g ob fb (.slice H i hc) s.R) (ht:OffV g ob fb (.slice H i hc) s.T)
  (ho:OwnR w' B 74 8 (.slice H' (i+1) hc') (i+1) (flat StM.cs (LS++[s]))) (hg:Grew w w' (.slice H i hc) (.slice H' (i+1) hc')):FM w' B g ob fb n (i+1) H' hc' X V OB (LS++[s]) M K:=by
 have hgl:=h.rows.base.2;have hol:=h.opn.lt ob rfl;have hfl:=h.box.lt;have hv:∀v∈vsOf (LS++[s]),OffV g ob fb (.slice H i hc) v∧OwnR w B 32 5 (vsl v) v.n (flat Tm.cs v.L):=fun v hv=>by
  rw[vsOf_app] at hv;rcases bC.1 hv with hv | hv
  ·obtain⟨u,hu,hvu⟩:=List.mem_flatMap.1 hv;refine⟨h.svec v hv,?_⟩;simp only[sB,List.not_mem_nil,or_false] at hvu
   obtain⟨j,hj⟩:=bD hu;rcases hvu with rfl | rfl
   ·exact(h.st j u hj).r.1
   ·exact(h.st j u hj).t.1
  ·simp only[sB,List.not_mem_nil,or_false] at hv
   rcases hv with rfl | rfl
   ·exact⟨hr,hs.r.1⟩
   ·exact⟨ht,hs.t.1⟩
 refine⟨h.rows.grown hg (fun e=>h.gH e.symm) (fun v hv=>(h.vec v hv).x),h.opn.grown hg (.inr fun e=>h.oH e),ho,fun j u hu=>?_,hg.bx h.box h.fH,h.fB,h.go,h.gf,h.fo,hg.ne hgl h.gH,hg.ne hol h.oH,hg.ne hfl h.fH,fun v hm=>?_,fun v hm=>?_⟩
 ·have hl:=h.stp.eltn elt_st zo;by_cases hj:j<LS.length
  ·rw[gF hj] at hu;have hm:=dA hu;exact(h.st j u hu).grown hg (h.svec _ (vsOf_r hm)).x (h.svec _ (vsOf_t hm)).x
  ·rw[fD zo] at hu;have hj2:j-LS.length=0:=by
    rcases mB (j-LS.length) with h9 | h9
    ·exact h9
    ·rw[bB (by simp;omega)] at hu;cases hu
   rw[hj2] at hu;obtain rfl:s=u:=Option.some.inj hu;obtain rfl:j=i:=zo;exact hs.grown hg hr.x ht.x
 ·have h1:=h.vec v hm;exact⟨h1.g,h1.o,h1.f,hg.ap (h.rows.row v hm).1 h1.x⟩
 ·obtain⟨h1,h2⟩:=hv v hm;exact⟨h1.g,h1.o,h1.f,hg.ap h2 h1.x⟩
theorem FM.put {Y:Value} (h:FM w B g ob fb n i H hc X V OB LS M K) (far:∀b' cs t',b'≠fb→Bx w b' cs t'→Bx w' b' cs t') (hk:K64 w w') (hx:Bx w' fb #[.bool true,.int .i64 (n:Int),Y] 68):FM w' B g ob fb n i H hc Y V OB LS M K :=
 ⟨h.rows.far2 far hk h.gf (fun v hv=>(h.vec v hv).f),h.opn.far2 far (fun e=>h.fo (Option.some.inj e)),h.stp.far2 far h.fH,fun j s hs=>(h.st j s hs).far2 far hk (h.svec _ (vsOf_r (dA hs))).f (h.svec _ (vsOf_t (dA hs))).f,hx,h.fB,h.go,h.gf,h.fo,h.gH,h.oH,h.fH,h.vec,h.svec⟩
end
structure StRd (w:World) (K:Nat) (s:StM):Prop where
 pv:RN w s.pv.s s.pv.A s.pv.c s.pv.l s.pv.s' s.pv.A' s.pv.c' s.pv.l' s.pv.q∧s.pv.ex=true∧sz s.pv.q+1≤K
 r:CN w s.R K
 t:CN w s.T K
 ra:∀a,s.R.A=some a→a.block<w.heap.size
 ta:∀a,s.T.A=some a→a.block<w.heap.size
theorem own_adr {w:World} {B n c k m:Nat} {e:TypeId} {A:Option Addr} {xs:List Value} (h:OwnR w B e k (.slice A n c) m xs):∀a,A=some a→a.block<w.heap.size:=fun a ha=>by
 obtain⟨H,c2,e9,_,h9,_⟩:=h.slice;cases e9;obtain⟨g,rfl⟩:=h9 a ha;subst ha;exact h.lt g rfl
theorem StRd.below {w w':World} {K:Nat} {s:StM} (h:StRd w K s) (hb:Below w.heap.size w w':=by go_grown):StRd w' K s:=⟨⟨h.pv.1.below hb,h.pv.2⟩,h.r.below hb,h.t.below hb,fun a ha=>eB (h.ra a ha) hb.size,fun a ha=>eB (h.ta a ha) hb.size⟩
def LuM (w:World) (fb n:Nat) (ST:List StepF) (K:Nat→Nat):Prop :=
 ∃(H:Option Addr) (hc:Nat) (LS:List StM),Bx w fb #[.bool true,.int .i64 (n:Int),.slice H n hc] 68∧Sl StM.cs 8 w H n hc LS∧(∀i s,LS[i]?=some s→StRd w (K i) s)∧LS.map StM.f=ST
theorem LuM.below {w w':World} {fb n:Nat} {K:Nat→Nat} {ST:List StepF} (h:LuM w fb n ST K) (hb:Below w.heap.size w w':=by go_grown):LuM w' fb n ST K:=by
 obtain⟨H,hc,LS,h1,h2,h3,h4⟩:=h;exact⟨H,hc,LS,h1.below hb,h2.below hb,fun i s hs=>(h3 i s hs).below hb,h4⟩
theorem FM.lu {w:World} {B g ob fb n:Nat} {H:Option Addr} {hc:Nat} {V:List Vc} {OB:List Bool} {LS:List StM} {M:Nat} {K:Nat→Nat} (h:FM w B g ob fb n n H hc (.slice H n hc) V OB LS M K):LuM w fb n (LS.map StM.f) K :=
 ⟨H,hc,LS,h.box,h.stp.sl' elt_st h.lens.2.2,fun i s hs=>⟨(h.st i s hs).pv,own_cn (h.st i s hs).r.1 (h.st i s hs).r.2,own_cn (h.st i s hs).t.1 (h.st i s hs).t.2,own_adr (h.st i s hs).r.1,own_adr (h.st i s hs).t.1⟩,rfl⟩
def qs (D:List Fr):List Rat:=D.map fun x=>x.q
def numF (L:List Rat) (a:Int):Rat:=if 0≤a then L.getD a.toNat 0 else 0
theorem numF_at {D:List Fr} {a:Int} {y:Fr} (h:0≤a) (hy:D[a.toNat]?=some y):numF (qs D) a=y.q:=by
 unfold numF qs
 rw[gA h,bA,rA,hy];rfl
theorem AllRn.mono {w:World} {K K':Nat} {L:List Fr} (h:AllRn w K L) (hK:K≤K'):AllRn w K' L:=fun x hx=>⟨(h x hx).1,(h x hx).2.1,by have:=(h x hx).2.2;omega⟩
theorem ev_snoc {T:List Tm} {i:Nat} {x:Tm} (h:T[i]?=some x) (f:Int→Rat):ev (prs (T.take (i+1))) f=ev (prs (T.take i)) f+x.x.q*f x.at_:=by
 rw[take_snoc h,prs_append,ev_append];show _+(x.x.q*f x.at_+0)=_
 rw[uC]
def LS1 (w:World) (q:Rat) (T:List Tm) (f:Int→Rat) (n S K gk:Nat) (x:Value) (wr:World):Prop :=
 ∃(i:Nat) (sS:Bool) (sA:Option Addr) (sc sl:Nat) (sS':Bool) (sA':Option Addr) (sc' sl':Nat),i≤n∧n-i=gk∧x=.int .i64 (i:Int)∧RN wr sS sA sc sl sS' sA' sc' sl' (q-ev (prs (T.take i)) f)∧sz (q-ev (prs (T.take i)) f)+1≤S+i*K∧
  Bx wr w.heap.size #[.bool sS,.slice sA sl sc,.bool sS',.slice sA' sl' sc'] 30∧Bx wr (w.heap.size+1) #[.bool false,.slice none 0 0,.bool false,.slice none 0 0] 30∧Below w.heap.size w wr
def TellsNm (w:World) (q:Rat) (K:Nat) (e:Ending) (w':World):Prop:=∃s A c l s' A' c' l',e=.returned (.agg #[.bool s,.slice A l c,.bool s',.slice A' l' c'])∧RN w' s A c l s' A' c' l' q∧sz q+1≤K∧Below w.heap.size w w'
theorem lessL_q {w:World} {s s':Bool} {A A':Option Addr} {c l c' l':Nat} {q:Rat} {S K KX KB:Nat} {X BA:Option Addr} {n cx bn bc:Nat} {v:Vc} {BL:List Fr} (ha:RN w s A c l s' A' c' l' q) (hS:sz q+1≤S) (hv:v.A=X∧v.n=n∧v.c=cx) (h:CN w v K) (hb:Sl Fr.cs 4 w BA bn bc BL) (hbf:Hid (AllRn w KB BL)) (hbx:Hid (∀t∈prs v.L,∀y,BL[t.1.toNat]?=some y→sz y.q+1≤KX))
  (hin:Hid (∀t∈prs v.L,0≤t.1∧t.1<(bn:Int))) (hn:n≤12) (hbn:bn≤12) (hD:S+n*(K+KX)≤35000000000) (hT:Hid (Tab w)) :
  Calls Tryz.prog 43 #[.agg #[.bool s,.slice A l c,.bool s',.slice A' l' c'],.slice X n cx,.slice BA bn bc] w (TellsNm w (q-ev (prs v.L) (numF (qs BL))) (S+n*(K+KX))):=by
 obtain⟨VA,vn,vc,T⟩:=v;obtain⟨rfl,rfl,rfl⟩:=hv;obtain⟨h1,h2,h3⟩:=h;simp only at h1 h2 h3 hn hD hbx ⊢
 have HS:=zh h1;have HLN:=zh h1.1;have HON:=zh h2;have HB:=zh hb;have HLB:=zh hb.1;obtain⟨f,hf⟩:∃f,f=numF (qs BL):=⟨_,rfl⟩;have HF:=zh hf;rw[←hf];obtain⟨KK,hKK⟩:∃k,k=K+KX:=⟨_,rfl⟩;rw[←hKK] at hD ⊢;have HQ0:Hid (q-ev (prs (T.take 0)) f=q):=zh (by rw[cF];show q-0=q;grind);clear h1 h2 h3 hb hf;obtain⟨W,hW,x0,x1,hB⟩:=boxes2 w #[.bool s,.slice A l c,.bool s',.slice A' l' c'] 30 #[.bool false,.slice none 0 0,.bool false,.slice none 0 0] 30;replace ha:=ha.below hB;have HX0:=zh x0;have HX1:=zh x1;clear x0 x1;have Bz:=zr W;go_enter Tryz.func43,Tryz.ntmps43
 go_wp2_with fail
 rw[←hW];clear hW;go_wp2_with fail
 have HB1:=zh (bT hB Bz);have XX0:=zh (zxb HX0 Bz);have XX1:=zh (zxb HX1 Bz);have HA1:=zh ha;clear hB Bz HX0 HX1 ha;go_loopg [11] vn (fun gk x wr=>LS1 w q T f vn S KK gk x wr)
 case atStart=>exact⟨0,_,_,_,_,_,_,_,_,nA _,rfl,rfl,by rw[HQ0.out];exact HA1.out.below (by go_grown),by rw[HQ0.out];omega,XX0.out.below (by go_grown),XX1.out.below (by go_grown),bT HB1.out⟩
 case round =>
  clear HA1 XX0 XX1 HB1 HQ0;obtain⟨i,sS,sA,sc,sl,sS',sA',sc',sl',hi,hgk,rfl,ha,hsz,hx0,hx1,hB⟩:=hrel;have HGK:=zh hgk;have HX0:=zh hx0;have HX1:=zh hx1;clear hgk hx0 hx1;by_cases hlt:i<vn
  ·obtain⟨eb,eo,rfl,hel⟩:=HS.out.at Tm.cs_len zo zo;obtain⟨x,hx⟩:∃x,T[i]?=some x:=⟨T[i]'(by rw[HLN.out];exact hlt),aA _⟩;have hnd:=hel i x hx;have hxm:=dA hx;have hxr:0≤x.at_∧x.at_<(bn:Int):=hin.out (x.at_,x.x.q) (tC.2 ⟨x,hxm,rfl⟩);obtain⟨bb,bo,rfl,helb⟩:=HB.out.at Fr.cs_len zo zo;obtain⟨y,hy⟩:∃y,BL[x.at_.toNat]?=some y:=⟨BL[x.at_.toNat]'(by rw[HLB.out];omega),aA _⟩;have hnd2:=helb _ y hy;have hxo:=HON.out x hxm;have hyo:=hbf.out y (dA hy);have hsy:sz y.q+1≤KX:=hbx.out (x.at_,x.x.q) (tC.2 ⟨x,hxm,rfl⟩) y hy;have hrx:=hxo.1.below hB;have hry:=hyo.1.below hB;have hsx:sz x.x.q+1≤K:=hxo.2.2;have hsm:sz (x.x.q*y.q)≤(K-1)+(KX-1):=sz_mul zo zo;have hfy:f x.at_=y.q:=by rw[HF.out];exact numF_at hxr.1 hy
   have hev:=ev_snoc hx f;rw[hfy] at hev;have hqq:q-ev (prs (T.take i)) f-x.x.q*y.q=q-ev (prs (T.take (i+1))) f:=by rw[hev];grind
   have HEV:=zh hqq;have hiK:(i+1)*KK=i*KK+KK:=by rw[aC,dE]
   have hnK:(i+1)*KK≤vn*KK:=rB _ hlt;have HSZ:Hid (sz (q-ev (prs (T.take (i+1))) f)+1≤S+(i+1)*KK):=zh (by
    rw[←hqq];have:=sz_sub (cA (sz (q-ev (prs (T.take i)) f))) hsm;omega)
   have i1:(i:Int)<(vn:Int):=zo;have i2:(0:Int)≤(i:Int):=zo;have j2:0≤x.at_:=hxr.1;have j3:x.at_<(bn:Int):=hxr.2;clear hel hx hxm hxr helb hy hxo hyo hfy hev hqq;have Bz:=zr wr;obtain⟨pA0,pA1,pA2,pA3,pA4,-⟩:=(hnd.below (bT hB Bz)).ez;go_upto_region 4 with(fail)
   obtain⟨V11,hW,x2,hN⟩:=zAe wr #[.int .i64 x.at_,.bool x.x.s,.slice x.x.A x.x.l x.x.c,.bool x.x.s',.slice x.x.A' x.x.l' x.x.c'] 32;rw[←hW];clear hW;obtain⟨v2,hb2⟩:=ze wr.heap.size;rw[←hb2] at x2 ⊢;have o0_2:w.heap.size<v2:=zi (zxb HX0 Bz).lt;have o1_2:(w.heap.size+1)<v2:=zi (zxb HX1 Bz).lt;have ow_2:w.heap.size≤v2:=zi (zw hB Bz);replace ha:=ha.below hN;replace hrx:=hrx.below hN;replace hry:=hry.below hN;replace hB:=bT (bT hB Bz) hN;replace HX0:=zba HX0 Bz hN;replace HX1:=zba HX1 Bz hN;have HX2:=zh x2;clear x2 hN Bz hb2;have Bz:=zr V11;clear pA0 pA1 pA2 pA3 pA4;obtain⟨pa0,pa1,pa2,pa3,-⟩:=(zxb HX0 Bz).cz;obtain⟨y0,fa0,fa1,fa2,fa3,-⟩:=(zxb HX0 Bz).fz;obtain⟨pc0,pc1,pc2,pc3,pc4,-⟩:=(zxb HX2 Bz).cz;have pB0:=(hnd2.below (bT hB Bz)).c0 (u:=.bool y.s) rfl;have pB1:=(hnd2.below (bT hB Bz)).at 1 (.slice y.A y.l y.c) rfl;have pB2:=(hnd2.below (bT hB Bz)).at 2 (.bool y.s') rfl;have pB3:=(hnd2.below (bT hB Bz)).at 3 (.slice y.A' y.l' y.c') rfl;go_wp2_with fail
   (try simp only[vAa,vBa,vC])
   refine zl (.take 0 (.pure 1 (.take 2 (.pure 3 (.pure 4 (.take 5 (.pure 6 (.take 7 (.only 8 (.only 9 (.only 10 .done))))))))))) [10] (zsa pa0 (zsa pa1 (zsa pa2 (zsa pa3 (zsa pc0 (zsa pc1 (zsa pc2 (zsa pc3 (zsa pc4 (zsa pB0 (zsa pB1 (zsa pB2 (zIa pB3))))))))))))) ?_;iterate 8 ((first|refine zUa ?_|refine zV ?_);try simp only[uW,uX,uY,uZ])
   refine zC 23 rfl rfl (fun K hK=>?_);go_simp
   with_reducible refine(mul_q (R.below hrx.r) (R.below hry.r) zo (zt hT hB Bz)).mono ?_
   rintro e w11 ⟨s11,A11,c11,l11,s11r,A11r,c11r,l11r,rfl,h11,b⟩;replace b:=zq (a:=V11) b;replace ha:=ha.below b;replace Bz:=bT Bz b;clear b;clear pa0 pa1 pa2 pa3 fa0 fa1 fa2 fa3 y0 pc0 pc1 pc2 pc3 pc4 pB0 pB1 pB2 pB3;obtain⟨pa0,pa1,pa2,pa3,-⟩:=(zxb HX0 Bz).cz;obtain⟨y0,fa0,fa1,fa2,fa3,-⟩:=(zxb HX0 Bz).fz;obtain⟨pc0,pc1,pc2,pc3,pc4,-⟩:=(zxb HX2 Bz).cz;have pB0:=(hnd2.below (bT hB Bz)).c0 (u:=.bool y.s) rfl;have pB1:=(hnd2.below (bT hB Bz)).at 1 (.slice y.A y.l y.c) rfl;have pB2:=(hnd2.below (bT hB Bz)).at 2 (.bool y.s') rfl;have pB3:=(hnd2.below (bT hB Bz)).at 3 (.slice y.A' y.l' y.c') rfl;refine hK.out _ _ ⟨pa0,pa1,pa2,pa3,pc0,pc1,pc2,pc3,pc4,pB0,pB1,pB2,pB3⟩ (fun _=>?_);try simp only[uW,uX,uY,uZ]
   clear hK K;refine zC 24 rfl rfl (fun K hK=>?_);go_simp
   with_reducible refine(sub_q (R.below ha.r) (R.below h11.r) zo (zt hT hB Bz)).mono ?_
   rintro e w12 ⟨s12,A12,c12,l12,s12r,A12r,c12r,l12r,rfl,h12,b⟩;replace b:=zq (a:=w11) b;replace Bz:=bT Bz b;clear b;clear pa0 pa1 pa2 pa3 fa0 fa1 fa2 fa3 y0 pc0 pc1 pc2 pc3 pc4 pB0 pB1 pB2 pB3;obtain⟨pa0,pa1,pa2,pa3,-⟩:=(zxb HX0 Bz).cz;obtain⟨y0,fa0,fa1,fa2,fa3,-⟩:=(zxb HX0 Bz).fz;obtain⟨pc0,pc1,pc2,pc3,pc4,-⟩:=(zxb HX2 Bz).cz;have pB0:=(hnd2.below (bT hB Bz)).c0 (u:=.bool y.s) rfl;have pB1:=(hnd2.below (bT hB Bz)).at 1 (.slice y.A y.l y.c) rfl;have pB2:=(hnd2.below (bT hB Bz)).at 2 (.bool y.s') rfl;have pB3:=(hnd2.below (bT hB Bz)).at 3 (.slice y.A' y.l' y.c') rfl;refine hK.out _ _ ⟨pa0,pa1,pa2,pa3,pc0,pc1,pc2,pc3,pc4,pB0,pB1,pB2,pB3⟩ (fun _=>?_);try simp only[uW,uX,uY,uZ]
   clear hK K;refine zAc (o:=⟨none,_,_,_,_,_⟩) rfl rfl zd (fun K hK=>?_);go_simp
   refine hK.out _ _ ?_;try simp only[Act.put,uX,uY,uZ]
   clear hK K;refine zAa ?_;obtain⟨V12,hW,x,kk,far,bel⟩:=store4 (.bool s12) (.slice A12 l12 c12) (.bool s12r) (.slice A12r l12r c12r) (zxb HX0 Bz) nofun nofun nofun nofun;rw[←hW];clear hW;replace h12:=h12.k kk;replace hB:=bel w.heap.size w zo (bT hB Bz);replace HX1:=zf far HX1 Bz;replace HX2:=zf far HX2 Bz;replace HX0:=zh x;clear x kk far bel Bz;have Bz:=zr V12;clear pa0 pa1 pa2 pa3 fa0 fa1 fa2 fa3 y0 pc0 pc1 pc2 pc3 pc4 pB0 pB1 pB2 pB3;go_wp2_with fail
   go_roundg (vn-(i+1))
   case measure=>have:=HGK.out;omega
   case rel=>exact⟨i+1,_,_,_,_,_,_,_,_,zo,rfl,by go_num,HEV.out ▸ RN.below h12,HSZ.out,HX0.out.below (bT Bz),HX1.out.below (bT Bz),bT (bT hB Bz)⟩
  ·obtain rfl:vn=i:=zo;have i1:¬(vn:Int)<(vn:Int):=zo;have HEV:Hid (q-ev (prs (T.take vn)) f=q-ev (prs T) f):=zh (by rw[eA (by rw[HLN.out];exact cA _)]);have HSZ:Hid (sz (q-ev (prs T) f)+1≤S+vn*KK):=zh (by rw[←HEV.out];exact hsz);clear hsz;have Bz:=zr wr;obtain⟨pa0,pa1,pa2,pa3,-⟩:=(zxb HX0 Bz).cz;obtain⟨pb0,pb1,pb2,pb3,-⟩:=(zxb HX1 Bz).cz;obtain⟨y1,fb0,fb1,fb2,fb3,-⟩:=(zxb HX1 Bz).fz;go_wp2_with fail
   (try simp only[Exit.inBlock,Exit.then])
   refine bodyPost_ret (by simp[results,Tryz.results43,go_sem,pb0,pb1,pb2,pb3];try rfl) rfl ?_;obtain⟨V21,hW,x,kk,far,bel⟩:=store4 (.bool sS) (.slice sA sl sc) (.bool sS') (.slice sA' sl' sc') (zxb HX1 Bz) nofun nofun nofun nofun;rw[←hW];clear hW;replace ha:=ha.k kk;replace hB:=bel w.heap.size w zo (bT hB Bz);replace HX0:=zf far HX0 Bz;replace HX1:=zh x;clear x kk far bel Bz;have Bz:=zr V21;have hF:=bT (c:=V21) hB Bz;exact⟨_,_,_,_,_,_,_,_,rfl,HEV.out ▸ RN.below ha,hKK ▸ HSZ.out,bT hF⟩
def SprU (D0 D:List Fr) (T:List Tm) (q:Rat):Prop:=D.length=D0.length∧∀(i:Nat) (y:Fr),D0[i]?=some y→∃v,D[i]?=some v∧v.q=y.q-pget (prs T) (i:Int)*q∧((∀t∈T,t.at_≠(i:Int))→v=y)
def TellsSpr (w wc:World) (g bn bc:Nat) (D:List Fr) (P:List (Int×Rat)) (q:Rat) (K:Nat) (e:Ending) (w':World):Prop :=
 e=.returned (.tuple #[])∧∃D',OwnR w' w.heap.size 30 4 (.slice (some ⟨g,0,none⟩) bn bc) bn (flat Fr.cs D')∧D'.length=bn∧AllRn w' K D'∧(∀a:Int,0≤a→a<(bn:Int)→numF (qs D') a=spr (numF (qs D)) P q a)∧KP (fun b=>b=g) wc w'∧Below w.heap.size w w'
def SP1 (w wc:World) (g bn bc vb:Nat) (q:Rat) (cs:Array Value) (s:Bool) (A:Option Addr) (c l:Nat) (s':Bool) (A':Option Addr) (c' l':Nat) (D0:List Fr) (T:List Tm) (n K gk:Nat) (x:Value) (wr:World):Prop :=
 ∃(i:Nat) (D:List Fr),i≤n∧n-i=gk∧x=.int .i64 (i:Int)∧OwnR wr w.heap.size 30 4 (.slice (some ⟨g,0,none⟩) bn bc) bn (flat Fr.cs D)∧AllRn wr K D∧SprU D0 D (T.take i) q∧Bx wr vb cs 30∧RN wr s A c l s' A' c' l' q∧KP (fun b=>b=g) wc wr∧Below w.heap.size w wr
theorem SprU.start (D:List Fr) (q:Rat):SprU D D [] q:=⟨rfl,fun i y hy=>⟨y,hy,by show y.q=y.q-0*q;grind,fun _=>rfl⟩⟩
theorem SprU.step {D0 D:List Fr} {T:List Tm} {q:Rat} {i:Nat} {x:Tm} {y r:Fr} (h:SprU D0 D (T.take i) q) (_hr:Rise (prs T)) (hx:T[i]?=some x) (h0:0≤x.at_) (hy:D[x.at_.toNat]?=some y) (hq:r.q=y.q-x.x.q*q):SprU D0 (D.set x.at_.toNat r) (T.take (i+1)) q:=by
 refine⟨by rw[nB,h.1],fun j u hu=>?_⟩;obtain⟨v,h1,h2,h3⟩:=h.2 j u hu;have hs:pget (prs (T.take (i+1))) (j:Int)=pget (prs (T.take i)) (j:Int)+if x.at_=(j:Int) then x.x.q else 0:=dns_get hx _;by_cases e:x.at_.toNat=j
 ·have e2:x.at_=(j:Int):=zo;subst e;rw[h1] at hy;obtain rfl:=Option.some.inj hy;refine⟨r,pD (yA.1 h1).1,?_,fun hn=>?_⟩
  ·rw[hq,h2,hs,gA e2];grind
  ·exact absurd e2 (hn x (by rw[take_snoc hx];exact List.mem_append_right _ pA))
 ·refine⟨v,by rw[rD e];exact h1,?_,fun hn=>h3 fun t ht=>hn t (by rw[take_snoc hx];exact List.mem_append_left _ ht)⟩;rw[h2,hs,fA (fun e2=>e zo),uC]
theorem SprU.old {D0 D:List Fr} {T:List Tm} {q:Rat} {i:Nat} {x:Tm} {y:Fr} (h:SprU D0 D (T.take i) q) (hr:Rise (prs T)) (hx:T[i]?=some x) (h0:0≤x.at_) (hy:D0[x.at_.toNat]?=some y):D[x.at_.toNat]?=some y:=by
 obtain⟨v,h1,h2,h3⟩:=h.2 _ y hy;rw[h1,←h3 (fun t ht e=>?_)];have h4:Rise (prs (T.take i++[x])):=by
  rw[←take_snoc hx];unfold prs
  rw[List.map_take];exact List.Pairwise.sublist (List.take_sublist _ _) hr
 rw[prs_append] at h4;have h5:=(aF.1 h4).2.2 (t.at_,t.x.q) (tC.2 ⟨t,ht,rfl⟩) (x.at_,x.x.q) (tC.2 ⟨x,pA,rfl⟩);simp only at h5
 omega
theorem SprU.done {D0 D:List Fr} {T:List Tm} {q:Rat} (h:SprU D0 D T q) (a:Int) (ha:0≤a) (ha2:a<(D0.length:Int)):numF (qs D) a=spr (numF (qs D0)) (prs T) q a:=by
 obtain⟨y,hy⟩:∃y,D0[a.toNat]?=some y:=⟨D0[a.toNat]'zo,aA _⟩;obtain⟨v,h1,h2,_⟩:=h.2 _ y hy;unfold spr
 rw[numF_at ha h1,numF_at ha hy,h2,sF ha]
theorem spread_q {w0 w:World} (h1:Below w0.heap.size w0 w) {s s':Bool} {A A':Option Addr} {c l c' l':Nat} {q:Rat} {K KX KD:Nat} {X:Option Addr} {g n cx bn bc:Nat} {v:Vc} {D:List Fr} (ha:RN w s A c l s' A' c' l' q) (hS:sz q+1≤KX) (hv:v.A=X∧v.n=n∧v.c=cx) (h:CN w v K) (hvg:∀a,v.A=some a→a.block≠g)
  (ho:OwnR w w0.heap.size 30 4 (.slice (some ⟨g,0,none⟩) bn bc) bn (flat Fr.cs D)) (hal:AllRn w KD D) (hr:Hid (Rise (prs v.L))) (hin:Hid (∀t∈prs v.L,0≤t.1∧t.1<(bn:Int))) (hn:n≤12) (_hbn:bn≤12) (hD:KD+K+KX≤20000000000) (hT0:Hid (Tab w0)) :
  Calls Tryz.prog 41 #[.slice (some ⟨g,0,none⟩) bn bc,.slice X n cx,.agg #[.bool s,.slice A l c,.bool s',.slice A' l' c']] w (TellsSpr w0 w g bn bc D (prs v.L) q (KD+K+KX)):=by
 obtain⟨VA,vn,vc,T⟩:=v;obtain⟨rfl,rfl,rfl⟩:=hv;obtain⟨h2,h3,h4⟩:=h;simp only at h2 h3 h4 hn hr hin hvg ⊢
 have hT:=zh (Tab.below hT0.out h1);have HS:=zh h2;have HLN:=zh h2.1;have HON:=zh h3;have HVG:=zh hvg;have HLD:=zh (ho.eltn elt_frs zo);have HAD:=zh hal;have hgb:=(ho.base g rfl);have hgl:=(ho.lt g rfl);clear h2 h3 h4 hvg;obtain⟨z,HZ⟩:∃z,Hid (q.num.sign=z):=⟨_,zh rfl⟩;by_cases hz0:q=0
 ·have g3:(z==0)=true:=by rw[←HZ.out,hz0];rfl
  have HZV:Hid (∀a,numF (qs D) a=spr (numF (qs D)) (prs T) q a):=zh (fun a=>by unfold spr;rw[hz0,uE];grind);clear hz0;obtain⟨W,hW,x0,hB⟩:=zAe w #[.bool s,.slice A l c,.bool s',.slice A' l' c'] 30;replace ha:=ha.below hB;replace hal:=hal.below hB;replace ho:=ho.below hB;have HX0:=zh x0;clear x0;have Bz:=zr W;obtain⟨pa0,pa1,pa2,pa3,-⟩:=(zxb HX0 Bz).cz;go_enter Tryz.func41,Tryz.ntmps41
  go_wp2_with fail
  rw[←hW];clear hW;with_reducible refine(sign_q (R.below ha.r) zo z HZ).mono ?_
  rintro e w1 ⟨rfl,J⟩;replace J:=zq (a:=W) J;replace hal:=hal.below J;replace ho:=ho.below J;replace Bz:=bT Bz J;clear J;clear pa0 pa1 pa2 pa3;go_wp2_with fail
  go_end0
  exact⟨rfl,D,OwnR.below ho,HLD.out,AllRn.mono (AllRn.below hal) zo,(fun a _ _=>HZV.out a),KP.of_below _ (bT (bT hB Bz)),bT h1 (bT (bT hB Bz))⟩
 ·have g3:(z==0)=false:=by
   have:=sign_zero HZ.out;rw[fC hz0] at this;simpa [bne] using this
  clear hz0;obtain⟨W,hW,x0,hB⟩:=zAe w #[.bool s,.slice A l c,.bool s',.slice A' l' c'] 30;replace ha:=ha.below hB;replace hal:=hal.below hB;replace ho:=ho.below hB;have HX0:=zh x0;clear x0;have Bz:=zr W;obtain⟨pa0,pa1,pa2,pa3,-⟩:=(zxb HX0 Bz).cz;go_enter Tryz.func41,Tryz.ntmps41
  go_wp2_with fail
  rw[←hW];clear hW;go_wp2_with fail
  with_reducible refine(sign_q (R.below ha.r) zo z HZ).mono ?_
  rintro e w1 ⟨rfl,J⟩;replace J:=zq (a:=W) J;replace ha:=ha.below J;replace hal:=hal.below J;replace ho:=ho.below J;replace Bz:=bT Bz J;clear J;clear pa0 pa1 pa2 pa3;go_wp2_with fail
  have hvl:=HX0.out.lt;have hvb:=HX0.out;have hvg:w.heap.size≠g:=zo;have hBs:=hB.size;have hW0:=bT h1 (bT hB Bz);have hKP0:=KP.of_below (fun b=>b=g) (bT hB Bz);have HXB:=zh (hvb.below Bz);have HO:=zh ho;have HAL:=zh hal;have HA:=zh ha;have HW0:=zh hW0;have HKP0:=zh hKP0;have hTt:=hT0;clear hT ho hal ha hB Bz HX0 hvb hW0 hKP0;obtain⟨wc,hwc⟩:∃x:World,x=w:=⟨_,rfl⟩;subst hwc;obtain⟨w,hw⟩:∃x:World,x=w0:=⟨_,rfl⟩;subst hw;have hT:=hTt;clear hTt;go_loopg [13] vn (fun gk x wr=>SP1 w wc g bn bc wc.heap.size q #[.bool s,.slice A l c,.bool s',.slice A' l' c'] s A c l s' A' c' l' D T vn (KD+K+KX) gk x wr)
  case atStart=>exact⟨0,D,nA _,rfl,rfl,HO.out.below (by go_grown),(HAL.out.below (by go_grown)).mono zo,SprU.start _ _,HXB.out.below (by go_grown),HA.out.below (by go_grown),HKP0.out.below (by go_grown),bT HW0.out⟩
  case round =>
   clear HXB HO HAL HA HW0 HKP0;obtain⟨i,D1,hi,hgk,rfl,ho,hal,hsu,hx0,ha,hkp,hB⟩:=hrel;have HGK:=zh hgk;have HX0:=zh hx0;have HSU:=zh hsu;clear hgk hx0 hsu;by_cases hlt:i<vn
   ·obtain⟨eb,eo,rfl,hel⟩:=HS.out.at Tm.cs_len zo zo;obtain⟨x,hx⟩:∃x,T[i]?=some x:=⟨T[i]'(by rw[HLN.out];exact hlt),aA _⟩;have hnd0:=hel i x hx;have hebg:=HVG.out _ rfl;simp only at hebg
    have hnd:=hkp.ela hnd0 hebg;have hxm:=dA hx;have hxr:0≤x.at_∧x.at_<(bn:Int):=hin.out (x.at_,x.x.q) (tC.2 ⟨x,hxm,rfl⟩);obtain⟨y,hy0⟩:∃y,D[x.at_.toNat]?=some y:=⟨D[x.at_.toNat]'(by rw[HLD.out];omega),aA _⟩;have hy:=HSU.out.old hr.out hx hxr.1 hy0;have HY:=zh hy;have hyo:=HAD.out y (dA hy0);have hxo:=HON.out x hxm;have hrx:=hxo.1.k hkp.k;have hry:=hyo.1.k hkp.k;have hsx:sz x.x.q+1≤K:=hxo.2.2;have hsy:sz y.q+1≤KD:=hyo.2.2;have hsm:sz (x.x.q*q)≤(K-1)+(KX-1):=sz_mul zo zo;have HSZ:Hid (sz (y.q-x.x.q*q)+1≤KD+K+KX):=zh (by
     have:=sz_sub (show sz y.q≤KD-1 by omega) hsm;omega)
    have HS2:Hid (∀r:Fr,r.q=y.q-x.x.q*q→SprU D (D1.set x.at_.toNat r) (T.take (i+1)) q):=zh (fun r e=>HSU.out.step hr.out hx hxr.1 HY.out e);have i1:(i:Int)<(vn:Int):=zo;have i2:(0:Int)≤(i:Int):=zo;have j2:0≤x.at_:=hxr.1;have j3:x.at_<(bn:Int):=hxr.2;clear hel hx hxm hxr hnd0 hy0 hy hyo hxo;have Bz:=zr wr;obtain⟨pA0,pA1,pA2,pA3,pA4,-⟩:=(hnd.below Bz).ez;go_upto_region 5 with(fail)
    obtain⟨V11,hW,x1,hN⟩:=zAe wr #[.int .i64 x.at_,.bool x.x.s,.slice x.x.A x.x.l x.x.c,.bool x.x.s',.slice x.x.A' x.x.l' x.x.c'] 32;rw[←hW];clear hW;obtain⟨v1,hb1⟩:=ze wr.heap.size;rw[←hb1] at x1 ⊢;have ow_1:w.heap.size≤v1:=zi (zw hB Bz);have nv1_own:=OwnR.off' (b:=v1) ho zo;replace ha:=ha.below hN;replace hal:=hal.below hN;replace hkp:=hkp.below hN;replace ho:=ho.below hN;replace hrx:=hrx.below hN;replace hry:=hry.below hN;replace hB:=bT (bT hB Bz) hN;replace HX0:=zba HX0 Bz hN;have HX1:=zh x1;clear x1 hN Bz hb1;have Bz:=zr V11;clear pA0 pA1 pA2 pA3 pA4;obtain⟨pa0,pa1,pa2,pa3,-⟩:=(zxb HX0 Bz).cz;obtain⟨pb0,pb1,pb2,pb3,pb4,-⟩:=(zxb HX1 Bz).cz;have pB0:=fr_0 ho HY.out;have pB1:=elt_frs.cell ho HY.out (j:=1) (u:=.slice y.A y.l y.c) zo rfl;have pB2:=elt_frs.cell ho HY.out (j:=2) (u:=.bool y.s') zo rfl;have pB3:=elt_frs.cell ho HY.out (j:=3) (u:=.slice y.A' y.l' y.c') zo rfl;have fB0:=ho.frozen (x.at_.toNat*4);have fB1:=ho.frozen (x.at_.toNat*4+1);have fB2:=ho.frozen (x.at_.toNat*4+2);have fB3:=ho.frozen (x.at_.toNat*4+3);have y51:=ho.blk.1;go_wp2_with fail
    (try simp only[vAa,vBa,vC])
    refine zl (.pure 0 (.pure 1 (.take 2 (.pure 3 (.pure 4 (.take 5 (.pure 6 (.take 7 (.pure 8 (zz [9,10] (.only 11 (.only 12 (.pure 13 (.only 14 .done)))))))))))))) [14] (zsa pa0 (zsa pa1 (zsa pa2 (zsa pa3 (zsa pb0 (zsa pb1 (zsa pb2 (zsa pb3 (zsa pb4 (zsa pB0 (zsa pB1 (zsa pB2 (zIa pB3))))))))))))) ?_;iterate 11 ((first|refine zV ?_|refine zUa ?_);try simp only[uW,uX,uY,uZ])
    refine zC 28 rfl rfl (fun K hK=>?_);go_simp
    with_reducible refine(mul_q (R.below hrx.r) (R.below ha.r) zo (zt hT hB Bz)).mono ?_
    rintro e w11 ⟨s11,A11,c11,l11,s11r,A11r,c11r,l11r,rfl,h11,J⟩;replace J:=zq (a:=V11) J;replace ha:=ha.below J;replace hal:=hal.below J;replace hkp:=hkp.below J;replace ho:=ho.below J;replace hry:=hry.below J;replace Bz:=bT Bz J;clear J;clear pa0 pa1 pa2 pa3 pb0 pb1 pb2 pb3 pb4 pB0 pB1 pB2 pB3 fB0 fB1 fB2 fB3 y51;obtain⟨pa0,pa1,pa2,pa3,-⟩:=(zxb HX0 Bz).cz;obtain⟨pb0,pb1,pb2,pb3,pb4,-⟩:=(zxb HX1 Bz).cz;have pB0:=fr_0 ho HY.out;have pB1:=elt_frs.cell ho HY.out (j:=1) (u:=.slice y.A y.l y.c) zo rfl;have pB2:=elt_frs.cell ho HY.out (j:=2) (u:=.bool y.s') zo rfl;have pB3:=elt_frs.cell ho HY.out (j:=3) (u:=.slice y.A' y.l' y.c') zo rfl;have fB0:=ho.frozen (x.at_.toNat*4);have fB1:=ho.frozen (x.at_.toNat*4+1);have fB2:=ho.frozen (x.at_.toNat*4+2);have fB3:=ho.frozen (x.at_.toNat*4+3);have y51:=ho.blk.1;refine hK.out _ _ ⟨pa0,pa1,pa2,pa3,pb0,pb1,pb2,pb3,pb4,pB0,pB1,pB2,pB3⟩ (fun _=>?_);try simp only[uW,uX,uY,uZ]
    clear hK K;refine zC 29 rfl rfl (fun K hK=>?_);go_simp
    with_reducible refine(sub_q (R.below hry.r) (R.below h11.r) zo (zt hT hB Bz)).mono ?_
    rintro e w12 ⟨s12,A12,c12,l12,s12r,A12r,c12r,l12r,rfl,h12,J⟩;replace J:=zq (a:=w11) J;replace ha:=ha.below J;replace hal:=hal.below J;replace hkp:=hkp.below J;replace ho:=ho.below J;replace Bz:=bT Bz J;clear J;clear pa0 pa1 pa2 pa3 pb0 pb1 pb2 pb3 pb4 pB0 pB1 pB2 pB3 fB0 fB1 fB2 fB3 y51;obtain⟨pa0,pa1,pa2,pa3,-⟩:=(zxb HX0 Bz).cz;obtain⟨pb0,pb1,pb2,pb3,pb4,-⟩:=(zxb HX1 Bz).cz;have pB0:=fr_0 ho HY.out;have pB1:=elt_frs.cell ho HY.out (j:=1) (u:=.slice y.A y.l y.c) zo rfl;have pB2:=elt_frs.cell ho HY.out (j:=2) (u:=.bool y.s') zo rfl;have pB3:=elt_frs.cell ho HY.out (j:=3) (u:=.slice y.A' y.l' y.c') zo rfl;have fB0:=ho.frozen (x.at_.toNat*4);have fB1:=ho.frozen (x.at_.toNat*4+1);have fB2:=ho.frozen (x.at_.toNat*4+2);have fB3:=ho.frozen (x.at_.toNat*4+3);have y51:=ho.blk.1;refine hK.out _ _ ⟨pa0,pa1,pa2,pa3,pb0,pb1,pb2,pb3,pb4,pB0,pB1,pB2,pB3⟩ (fun _=>?_);try simp only[uW,uX,uY,uZ]
    clear hK K;refine zV ?_;try simp only[uW,uX,uY,uZ]
    refine zAc (o:=⟨none,_,_,_,_,_⟩) rfl rfl zd (fun K hK=>?_);go_simp
    refine hK.out _ _ ?_;try simp only[Act.put,uX,uY,uZ]
    clear hK K;obtain⟨V12,hV,ho2,hg2⟩:=fr_store ho HY.out ⟨s12,A12,c12,l12,s12r,A12r,c12r,l12r,y.q-x.x.q*q,true⟩;rw[←hV];clear hV;have hbg:=(OwnR.base ho g rfl);replace hB:=(bT hB Bz).trans (hg2.below (zi (zw hB Bz)) (rowB hbg));replace hkp:=KP.grew hkp hg2 (fun t ht _=>by cases ht;rfl);replace HX0:=zh (hg2.bx (zxb HX0 Bz) (rowN hvg));replace HX1:=zh (hg2.bx (zxb HX1 Bz) nv1_own);have hal2:=AllRn.set (AllRn.k hal hg2.k) x.at_.toNat (x:=⟨s12,A12,c12,l12,s12r,A12r,c12r,l12r,y.q-x.x.q*q,true⟩) (AllRn.put (RN.k (RN.below h12) hg2.k) HSZ.out);replace ha:=ha.k hg2.k;replace ho:=ho2;replace hal:=hal2;clear ho2 hal2 hg2 Bz hbg;have Bz:=zr V12;clear pa0 pa1 pa2 pa3 pb0 pb1 pb2 pb3 pb4 pB0 pB1 pB2 pB3 fB0 fB1 fB2 fB3 y51;obtain⟨pa0,pa1,pa2,pa3,-⟩:=(zxb HX0 Bz).cz;obtain⟨pb0,pb1,pb2,pb3,pb4,-⟩:=(zxb HX1 Bz).cz;refine zAa ?_;go_wp2_with fail
    go_roundg (vn-(i+1))
    case measure=>have:=HGK.out;omega
    case rel=>exact⟨i+1,_,zo,rfl,by go_num,OwnR.below ho,AllRn.below hal,HS2.out _ rfl,HX0.out.below (bT Bz),RN.below ha,KP.below hkp,bT (bT hB Bz)⟩
   ·obtain rfl:vn=i:=zo;have i1:¬(vn:Int)<(vn:Int):=zo;have HSE:=zh (by have h9:=HSU.out;rwa [eA (by rw[HLN.out];exact cA _)] at h9:SprU D D1 T q);have HL1:=zh (ho.eltn elt_frs zo);go_wp2_with fail
    go_end0
    exact⟨rfl,D1,ho.below (by go_grown),HL1.out,hal.below (by go_grown),(fun a h8 h9=>HSE.out.done a h8 (by rw[HLD.out];exact h9)),hkp.below (by go_grown),bT hB⟩
def fitsB (n:Nat) (P:List (Int×Rat)):Bool:=P.all fun x=>decide (0≤x.1)&&decide (x.1<(n:Int))
def TellsLD (w:World) (n K:Nat) (P:List (Int×Rat)) (e:Ending) (w':World):Prop :=
 Below w.heap.size w w'∧((fitsB n (nrm P)=false∧e=.returned (.tuple #[.slice none 0 0,.bool false]))∨
  (fitsB n (nrm P)=true∧∃SA sc D,e=.returned (.tuple #[.slice SA n sc,.bool true])∧OwnR w' w.heap.size 30 4 (.slice SA n sc) n (flat Fr.cs D)∧AllRn w' K D∧qs D=denseF P n))
theorem TellsLD.no {w w':World} {n K:Nat} {P:List (Int×Rat)} (h:fitsB n (nrm P)=false) (hb:Below w.heap.size w w'):TellsLD w n K P (.returned (.tuple #[.slice none 0 0,.bool false])) w':=⟨hb,.inl ⟨h,rfl⟩⟩
def fitT (n:Nat) (t:Tm):Bool:=decide (0≤t.at_)&&decide (t.at_<(n:Int))
theorem fits_prs (n:Nat) (T:List Tm):T.all (fitT n)=fitsB n (prs T):=by
 unfold fitsB prs
 rw[List.all_map];rfl
def DE1 (w:World) (fb n nm:Nat) (H:Option Addr) (hl hc:Nat) (X:Value) (T:List Tm) (M gk:Nat) (x:Value) (wr:World):Prop :=
 ∃i:Nat,i≤nm∧nm-i=gk∧x=.int .i64 (i:Int)∧OwnR wr w.heap.size 32 5 X nm (flat Tm.cs T)∧OnT wr T (fun _=>M)∧(T.take i).all (fitT n)=true∧Bx wr fb #[.bool true,.int .i64 (n:Int),.slice H hl hc] 68∧Below w.heap.size w wr
theorem ldense_q {w:World} {fb n bn bc M hl hc:Nat} {H X:Option Addr} {P:List (Int×Rat)} (hf:Bx w fb #[.bool true,.int .i64 (n:Int),.slice H hl hc] 68) (h:GV w X bn bc P M) (hM:M≤18000000000) (hM2:2≤M) (hbn:bn≤12) (hn:n≤12) (hT:Hid (Tab w)) :
  Calls Tryz.prog 40 #[.pointer (some ⟨fb,0,none⟩),.slice X bn bc] w (TellsLD w n M P):=by
 have HX:=zh h;have HF0:=zh hf;have hnq:=normO_q (HX.out) zo zo hT;clear h hf;go_enter Tryz.func40,Tryz.ntmps40
 go_wp2_with fail
 with_reducible refine hnq.mono ?_
 rintro e w1 ⟨Am,nm,cm,T,rfl,ho1,on1,ep,b1⟩;have HO:=zh ho1;have HN:=zh on1;have HEP:=zh ep;have HTL:=zh (ho1.eltn elt_vec zo);have HF1:=zh (HF0.out.below b1);have HB1:=zh b1;have HOK:Hid (T.all (fitT n)=fitsB n (nrm P)):=zh (by rw[fits_prs,ep]);have hnm:nm≤12:=by
  have h1:=nrm_len P;rw[←ep,prs_len,ho1.eltn elt_vec zo,HX.out.len] at h1;omega
 clear hnq ho1 on1 ep b1;go_wp2_with fail
 go_loopg [11] nm (fun gk x wr=>DE1 w fb n nm H hl hc (.slice Am nm cm) T M gk x wr)
 case atStart=>exact⟨0,nA _,rfl,rfl,HO.out.below (by go_grown),HN.out.below (by go_grown),by rw[cF];rfl,HF1.out.below (by go_grown),bT HB1.out⟩
 case round =>
  clear HO HN HF1 HB1;obtain⟨i,hi,hgk,rfl,hho,hon,hd,hfb,hB⟩:=hrel;have HGK:=zh hgk;have HD:=zh hd;have HFB:=zh hfb;clear hgk hd hfb;by_cases hlt:i<nm
  ·obtain⟨eb,eo,rfl,hel⟩:=(hho.sl' elt_vec HTL.out).at Tm.cs_len zo zo;obtain⟨x,hx⟩:∃x,T[i]?=some x:=⟨T[i]'(by rw[HTL.out];exact hlt),aA _⟩;have hnd:=hel i x hx;have HTI:=zh hx;have i1:(i:Int)<(nm:Int):=zo;have i2:(0:Int)≤(i:Int):=zo;clear hel hx;by_cases k1:x.at_<0
   ·have HP:Hid (fitT n x=false):=zh (by unfold fitT;rw[jB zo];rfl);have Bz:=zr wr;obtain⟨pA0,pA1,pA2,pA3,pA4,-⟩:=(hnd.below Bz).ez;go_upto_region 4 with(fail)
    obtain⟨V11,hW,x1,hN⟩:=zAe wr #[.int .i64 x.at_,.bool x.x.s,.slice x.x.A x.x.l x.x.c,.bool x.x.s',.slice x.x.A' x.x.l' x.x.c'] 32;rw[←hW];clear hW;obtain⟨v1,hb1⟩:=ze wr.heap.size;rw[←hb1] at x1 ⊢;have ow_1:w.heap.size≤v1:=zi (zw hB Bz);replace hB:=bT (bT hB Bz) hN;replace HFB:=zh ((HFB.out.below Bz).below hN);have HX1:=zh x1;clear x1 hN Bz hb1;have Bz:=zr V11;clear pA0 pA1 pA2 pA3 pA4;have pb0:=(zxb HX1 Bz).cell 0 (.int .i64 x.at_) rfl;go_wp2_with fail
    (try simp only[vAa,vBa,vC])
    refine zl (zz [0,1,2,3,4,5,6,7,8,9,10,11] .done) [] (zIa pb0) ?_;iterate 4 (refine zUa ?_;try simp only[uW,uX,uY,uZ])
    iterate 7 (refine zN rfl rfl ?_;try simp only[uW,uX,uY,uZ])
    refine zUa ?_;try simp only[uW,uX,uY,uZ]
    refine zAa ?_;go_wp2_with fail
    go_ret2
    have hF:=bT (c:=V11) hB Bz;have hno:=all_no HTI.out HP.out;exact TellsLD.no (by rw[←HOK.out];exact hno) (bT hF)
   ·have kb:decide (x.at_<0)=false:=jB k1;by_cases k2:(n:Int)≤x.at_
    ·have HP:Hid (fitT n x=false):=zh (by unfold fitT;rw[jB (p:=x.at_<(n:Int)) zo,Bool.and_false]);have Bz:=zr wr;obtain⟨pA0,pA1,pA2,pA3,pA4,-⟩:=(hnd.below Bz).ez;go_upto_region 4 with(fail)
     obtain⟨V11,hW,x1,hN⟩:=zAe wr #[.int .i64 x.at_,.bool x.x.s,.slice x.x.A x.x.l x.x.c,.bool x.x.s',.slice x.x.A' x.x.l' x.x.c'] 32;rw[←hW];clear hW;obtain⟨v1,hb1⟩:=ze wr.heap.size;rw[←hb1] at x1 ⊢;have ow_1:w.heap.size≤v1:=zi (zw hB Bz);replace hB:=bT (bT hB Bz) hN;replace HFB:=zh ((HFB.out.below Bz).below hN);have HX1:=zh x1;clear x1 hN Bz hb1;have Bz:=zr V11;clear pA0 pA1 pA2 pA3 pA4;have pa1:=(HFB.out.below Bz).cell 1 (.int .i64 (n:Int)) rfl;have pb0:=(zxb HX1 Bz).cell 0 (.int .i64 x.at_) rfl;go_wp2_with fail
     (try simp only[vAa,vBa,vC])
     refine zl (zz [0,1,2,3,4,5,6,7,8,9,10,11] .done) [] (zsa pa1 (zIa pb0)) ?_;iterate 12 (refine zUa ?_;try simp only[uW,uX,uY,uZ])
     refine zAa ?_;go_wp2_with fail
     go_ret2
     have hF:=bT (c:=V11) hB Bz;have hno:=all_no HTI.out HP.out;exact TellsLD.no (by rw[←HOK.out];exact hno) (bT hF)
    ·have HP:Hid (fitT n x=true):=zh (by unfold fitT;rw[fC zo,fC zo];rfl);have k3:¬x.at_≥(n:Int):=zo;have Bz:=zr wr;obtain⟨pA0,pA1,pA2,pA3,pA4,-⟩:=(hnd.below Bz).ez;go_upto_region 4 with(fail)
     obtain⟨V11,hW,x1,hN⟩:=zAe wr #[.int .i64 x.at_,.bool x.x.s,.slice x.x.A x.x.l x.x.c,.bool x.x.s',.slice x.x.A' x.x.l' x.x.c'] 32;rw[←hW];clear hW;obtain⟨v1,hb1⟩:=ze wr.heap.size;rw[←hb1] at x1 ⊢;have ow_1:w.heap.size≤v1:=zi (zw hB Bz);replace hho:=hho.below hN;replace hon:=hon.below hN;replace hB:=bT (bT hB Bz) hN;replace HFB:=zh ((HFB.out.below Bz).below hN);have HX1:=zh x1;clear x1 hN Bz hb1;have Bz:=zr V11;clear pA0 pA1 pA2 pA3 pA4;have pa1:=(HFB.out.below Bz).cell 1 (.int .i64 (n:Int)) rfl;have pb0:=(zxb HX1 Bz).cell 0 (.int .i64 x.at_) rfl;go_wp2_with fail
     (try simp only[vAa,vBa,vC])
     refine zl (zz [0,1,2,3,4,5,6,7,8,9,10,11] .done) [] (zsa pa1 (zIa pb0)) ?_;iterate 12 (refine zUa ?_;try simp only[uW,uX,uY,uZ])
     refine zAa ?_;go_wp2_with fail
     go_roundg (nm-(i+1))
     case measure=>have:=HGK.out;omega
     case rel=>exact⟨i+1,zo,rfl,by go_num,OwnR.below hho,OnT.below hon,take_all HD.out HTI.out HP.out,HFB.out.below (bT Bz),bT (bT hB Bz)⟩
  ·obtain rfl:nm=i:=zo;have i1:¬(nm:Int)<(nm:Int):=zo;have HFT:Hid (fitsB n (nrm P)=true):=zh (by rw[←HOK.out];exact all_yes HTL.out HD.out);have pa1:=HFB.out.cell 1 (.int .i64 (n:Int)) rfl;have hTr:=zh (hT.out.below hB);have HXr:=zh (HX.out.below hB);by_cases hn0:n<1
   ·have hdq:=dense_no (w:=wr) (X:=X) (nx:=bn) (cx:=bc) (n:Int) zo;go_wp2_with fail
    with_reducible refine hdq.mono ?_
    rintro e w2 ⟨rfl,b2⟩;go_wp2_with fail
    go_ret2
    obtain rfl:n=0:=zo;exact⟨bT hB b2,.inr ⟨HFT.out,none,0,[],rfl,OwnR.nil _ _ _ _,(fun x hx=>by cases hx),rfl⟩⟩
   ·have hdq:=denseO_q (m:=n) HXr.out hM hM2 zo zo zo hTr;go_wp2_with fail
    with_reducible refine hdq.mono ?_
    rintro e w2 ⟨g,D,rfl,ho2,hal,hqs,b2⟩;go_wp2_with fail
    go_ret2
    exact⟨bT hB b2,.inr ⟨HFT.out,_,_,D,rfl,ho2.rebase hB.size,hal,hqs⟩⟩
end Go.Proofs.YteggjbgbknkoiaaGreatDoor
