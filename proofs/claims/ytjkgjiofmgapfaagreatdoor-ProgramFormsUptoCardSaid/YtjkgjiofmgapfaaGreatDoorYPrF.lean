/-
  The rows of a form, as program.Form fills them: five rows that lie apart, each stored into in place. By hand.
-/
import Derived.Test.YtjkgjiofmgapfaaGreatDoorYPr7
namespace Go.Proofs.YtjkgjiofmgapfaaGreatDoor
open Go.RowKit Tw
structure FmR (w:World) (B0 rn N g1 g2 g3 g4 g5:Nat) (V:List Vc) (LO HI CO BB:List Fr):Prop where
 r1:OwnR w B0 25 1 (.slice (some ⟨g1,0,none⟩) N N) N (flat Vc.cs V)
 r2:OwnR w B0 33 4 (.slice (some ⟨g2,0,none⟩) N N) N (flat Fr.cs LO)
 r3:OwnR w B0 33 4 (.slice (some ⟨g3,0,none⟩) N N) N (flat Fr.cs HI)
 r4:OwnR w B0 33 4 (.slice (some ⟨g4,0,none⟩) N N) N (flat Fr.cs CO)
 r5:OwnR w B0 33 4 (.slice (some ⟨g5,0,none⟩) rn rn) rn (flat Fr.cs BB)
 ne:[g1,g2,g3,g4,g5].Nodup
theorem FmRows.fm {w:World} {B0 rn N g1 g2 g3 g4 g5:Nat} (h:FmRows w B0 rn N g1 g2 g3 g4 g5):FmR w B0 rn N g1 g2 g3 g4 g5 (List.replicate N zVc) (List.replicate N zFr) (List.replicate N zFr) (List.replicate N zFr) (List.replicate rn zFr):=⟨h.r1,h.r2,h.r3,h.r4,h.r5,h.ne⟩
section
variable {w w':World} {B0 rn N g1 g2 g3 g4 g5:Nat} {V:List Vc} {LO HI CO BB:List Fr}
theorem FmR.below (h:FmR w B0 rn N g1 g2 g3 g4 g5 V LO HI CO BB) (hb:Below w.heap.size w w':=by go_grown):FmR w' B0 rn N g1 g2 g3 g4 g5 V LO HI CO BB:=⟨h.r1.below hb,h.r2.below hb,h.r3.below hb,h.r4.below hb,h.r5.below hb,h.ne⟩
theorem FmR.ap (h:FmR w B0 rn N g1 g2 g3 g4 g5 V LO HI CO BB):g1≠g2∧g1≠g3∧g1≠g4∧g1≠g5∧g2≠g3∧g2≠g4∧g2≠g5∧g3≠g4∧g3≠g5∧g4≠g5:=by
 have:=h.ne;simp only[List.nodup_cons,List.mem_cons,List.not_mem_nil,or_false,not_or] at this
 omega
theorem ap_of {a b n m c d:Nat} (h:a≠b):Ap (.slice (some ⟨a,0,none⟩) n c) (.slice (some ⟨b,0,none⟩) m d):=.inr (fun e=>h (Option.some.inj e))
theorem FmR.lens (h:FmR w B0 rn N g1 g2 g3 g4 g5 V LO HI CO BB):V.length=N∧LO.length=N∧HI.length=N∧CO.length=N∧BB.length=rn :=
 ⟨h.r1.eltn elt_vcs zo,h.r2.eltn elt_frs zo,h.r3.eltn elt_frs zo,h.r4.eltn elt_frs zo,h.r5.eltn elt_frs zo⟩
theorem FmR.lo (h:FmR w B0 rn N g1 g2 g3 g4 g5 V LO HI CO BB) {i:Nat} {y:Fr} (hy:LO[i]?=some y) (x:Fr) :
  ∃W,W=(((w.setCell ⟨g2,i*4,none⟩ (.bool x.s)).setCell ⟨g2,i*4+1,none⟩ (.slice x.A x.l x.c)).setCell ⟨g2,i*4+2,none⟩ (.bool x.s')).setCell ⟨g2,i*4+3,none⟩ (.slice x.A' x.l' x.c')∧
   FmR W B0 rn N g1 g2 g3 g4 g5 V (LO.set i x) HI CO BB∧Grew w W (.slice (some ⟨g2,0,none⟩) N N) (.slice (some ⟨g2,0,none⟩) N N):=by
 obtain⟨W,hW,h2,hg⟩:=fr_store h.r2 hy x;obtain⟨a,b,c,d,e,f,g,k,l,m⟩:=h.ap;exact⟨W,hW,⟨h.r1.grown hg (ap_of a),h2,h.r3.grown hg (ap_of e.symm),h.r4.grown hg (ap_of f.symm),h.r5.grown hg (ap_of g.symm),h.ne⟩,hg⟩
theorem FmR.hi (h:FmR w B0 rn N g1 g2 g3 g4 g5 V LO HI CO BB) {i:Nat} {y:Fr} (hy:HI[i]?=some y) (x:Fr) :
  ∃W,W=(((w.setCell ⟨g3,i*4,none⟩ (.bool x.s)).setCell ⟨g3,i*4+1,none⟩ (.slice x.A x.l x.c)).setCell ⟨g3,i*4+2,none⟩ (.bool x.s')).setCell ⟨g3,i*4+3,none⟩ (.slice x.A' x.l' x.c')∧
   FmR W B0 rn N g1 g2 g3 g4 g5 V LO (HI.set i x) CO BB∧Grew w W (.slice (some ⟨g3,0,none⟩) N N) (.slice (some ⟨g3,0,none⟩) N N):=by
 obtain⟨W,hW,h2,hg⟩:=fr_store h.r3 hy x;obtain⟨a,b,c,d,e,f,g,k,l,m⟩:=h.ap;exact⟨W,hW,⟨h.r1.grown hg (ap_of b),h.r2.grown hg (ap_of e),h2,h.r4.grown hg (ap_of k.symm),h.r5.grown hg (ap_of l.symm),h.ne⟩,hg⟩
theorem FmR.co (h:FmR w B0 rn N g1 g2 g3 g4 g5 V LO HI CO BB) {i:Nat} {y:Fr} (hy:CO[i]?=some y) (x:Fr) :
  ∃W,W=(((w.setCell ⟨g4,i*4,none⟩ (.bool x.s)).setCell ⟨g4,i*4+1,none⟩ (.slice x.A x.l x.c)).setCell ⟨g4,i*4+2,none⟩ (.bool x.s')).setCell ⟨g4,i*4+3,none⟩ (.slice x.A' x.l' x.c')∧
   FmR W B0 rn N g1 g2 g3 g4 g5 V LO HI (CO.set i x) BB∧Grew w W (.slice (some ⟨g4,0,none⟩) N N) (.slice (some ⟨g4,0,none⟩) N N):=by
 obtain⟨W,hW,h2,hg⟩:=fr_store h.r4 hy x;obtain⟨a,b,c,d,e,f,g,k,l,m⟩:=h.ap;exact⟨W,hW,⟨h.r1.grown hg (ap_of c),h.r2.grown hg (ap_of f),h.r3.grown hg (ap_of k),h2,h.r5.grown hg (ap_of m.symm),h.ne⟩,hg⟩
theorem FmR.bb (h:FmR w B0 rn N g1 g2 g3 g4 g5 V LO HI CO BB) {i:Nat} {y:Fr} (hy:BB[i]?=some y) (x:Fr) :
  ∃W,W=(((w.setCell ⟨g5,i*4,none⟩ (.bool x.s)).setCell ⟨g5,i*4+1,none⟩ (.slice x.A x.l x.c)).setCell ⟨g5,i*4+2,none⟩ (.bool x.s')).setCell ⟨g5,i*4+3,none⟩ (.slice x.A' x.l' x.c')∧
   FmR W B0 rn N g1 g2 g3 g4 g5 V LO HI CO (BB.set i x)∧Grew w W (.slice (some ⟨g5,0,none⟩) rn rn) (.slice (some ⟨g5,0,none⟩) rn rn):=by
 obtain⟨W,hW,h2,hg⟩:=fr_store h.r5 hy x;obtain⟨a,b,c,d,e,f,g,k,l,m⟩:=h.ap;exact⟨W,hW,⟨h.r1.grown hg (ap_of d),h.r2.grown hg (ap_of g),h.r3.grown hg (ap_of l),h.r4.grown hg (ap_of m),h2,h.ne⟩,hg⟩
def NumsF (w:World) (K:Nat) (L:List Fr) (f:Nat→Rat):Prop:=∀(i:Nat) y,L[i]?=some y→RN w y.s y.A y.c y.l y.s' y.A' y.c' y.l' y.q∧y.ex=true∧sz y.q+1≤K∧y.q=f i
theorem NumsF.below {K:Nat} {L:List Fr} {f:Nat→Rat} (h:NumsF w K L f) (hb:Below w.heap.size w w':=by go_grown):NumsF w' K L f:=fun i y hy=>⟨(h i y hy).1.below hb,(h i y hy).2⟩
theorem NumsF.k {K:Nat} {L:List Fr} {f:Nat→Rat} (h:NumsF w K L f) (hb:K64 w w'):NumsF w' K L f:=fun i y hy=>⟨(h i y hy).1.k hb,(h i y hy).2⟩
theorem NumsF.zeros (w:World) (n:Nat) {K:Nat} (hK:2≤K):NumsF w K (List.replicate n zFr) (fun _=>0):=fun i y hy=>by
 have h:=AllRn.zeros w n hK y (List.mem_of_getElem? hy);rw[List.eq_of_mem_replicate (List.mem_of_getElem? hy)] at h ⊢;exact⟨h.1,h.2.1,h.2.2,rfl⟩
theorem NumsF.set {K i:Nat} {L:List Fr} {f f':Nat→Rat} {x:Fr} (h:NumsF w K L f) (hx:RN w x.s x.A x.c x.l x.s' x.A' x.c' x.l' x.q∧x.ex=true∧sz x.q+1≤K) (hi:x.q=f' i) (hf:∀j,j≠i→f' j=f j):NumsF w K (L.set i x) f':=fun j y hy=>by
 by_cases e:j=i
 ·subst e;have hl:j<L.length:=by have:=(List.getElem?_eq_some_iff.1 hy).1;rwa [List.length_set] at this
  rw[List.getElem?_set_self hl] at hy;cases hy;exact⟨hx.1,hx.2.1,hx.2.2,hi⟩
 ·rw[List.getElem?_set_ne (Ne.symm e)] at hy;obtain⟨a,b,c,d⟩:=h j y hy;exact⟨a,b,c,d.trans (hf j e).symm⟩
end
open Go.RowKit Tw
theorem TS.beyond {w w':World} {B g n nx M:Nat} {X s s':Value} {xs:List Value} {V:List Vc} (h:TS w B g n X nx xs V M) (hg:Grew w w' s s') (h1:Ap (.slice (some ⟨g,0,none⟩) n n) s) (h2:∀v∈V,Ap (vsl v) s) (h3:Ap X s):TS w' B g n X nx xs V M :=
 ⟨h.out.grown hg h1,fun v hv=>⟨(h.row v hv).1.grown hg (h2 v hv),(h.row v hv).2.k hg.k⟩,h.og,h.xg,h.xo.grown hg h3,h.ap⟩
theorem TS.put {w w':World} {B g n M a:Nat} {V:List Vc} (h:TS w B g n (.slice none 0 0) 0 [] V M) (hb:Below w.heap.size w w') (hB:B≤w.heap.size) {v x:Vc} (hv:V[a]?=some v) (hx:OwnR w' w.heap.size 71 5 (vsl x) x.n (flat Tm.cs x.L)) (ht:OnT w' x.L (fun _=>M)) :
  ∃W,W=w'.setCell ⟨g,a,none⟩ (.slice x.A x.n x.c)∧TS W B g n (.slice none 0 0) 0 [] (V.set a x) M∧Grew w' W (.slice (some ⟨g,0,none⟩) n n) (.slice (some ⟨g,0,none⟩) n n):=by
 have h':=h.beside hb hB hx;obtain⟨W,hW,h1,h2⟩:=vc_store h'.out hv x;have ha:=(List.getElem?_eq_some_iff.1 hv).1;have get:∀(j:Nat) (u:Vc),(V.set a x)[j]?=some u→(j=a∧u=x)∨(j≠a∧V[j]?=some u):=fun j u hu=>by
  by_cases e:j=a
  ·subst e;rw[List.getElem?_set_self ha] at hu;exact .inl ⟨rfl,(Option.some.inj hu).symm⟩
  ·rw[List.getElem?_set_ne (fun e2=>e e2.symm)] at hu;exact .inr ⟨e,hu⟩
 refine⟨W,hW,⟨h1,fun u hu=>?_,fun u hu=>⟨?_,Ap.nil _⟩,Ap.nil _,OwnR.nil _ _ _ _,fun i j u u' hu hu' hij=>?_⟩,h2⟩
 ·rcases List.mem_or_eq_of_mem_set hu with hu | rfl
  ·exact⟨(h'.row u hu).1.grown h2 (h'.og u hu).1.symm,(h'.row u hu).2.k h2.k⟩
  ·exact⟨h'.xo.grown h2 h'.xg,ht.k h2.k⟩
 ·rcases List.mem_or_eq_of_mem_set hu with hu | rfl
  ·exact(h'.og u hu).1
  ·exact h'.xg.symm
 ·rcases get i u hu with⟨e1,rfl⟩ | ⟨h3,h4⟩<;>rcases get j u' hu' with⟨e2,rfl⟩ | ⟨h5,h6⟩
  ·exact absurd (e1.trans e2.symm) hij
  ·exact(h'.og u' (List.mem_of_getElem? h6)).2
  ·exact(h'.og u (List.mem_of_getElem? h4)).2.symm
  ·exact h.ap i j u u' h4 h6 hij
theorem TS.rebase {w:World} {B B' g n nx M:Nat} {X:Value} {xs:List Value} {V:List Vc} (h:TS w B g n X nx xs V M) (hB:B'≤B):TS w B' g n X nx xs V M :=
 ⟨h.out.rebase hB,fun v hv=>⟨(h.row v hv).1.rebase hB,(h.row v hv).2⟩,h.og,h.xg,h.xo.rebase hB,h.ap⟩
structure FS (w:World) (B0 rn N g1 g2 g3 g4 g5:Nat) (V:List Vc) (LO HI CO BB:List Fr) (M:Nat):Prop where
 fm:FmR w B0 rn N g1 g2 g3 g4 g5 V LO HI CO BB
 ts:TS w B0 g1 N (.slice none 0 0) 0 [] V M
 far:∀v∈V,∀g∈[g2,g3,g4,g5],∀n c,Ap (.slice (some ⟨g,0,none⟩) n c) (vsl v)
theorem FmRows.fs {w:World} {B0 rn N g1 g2 g3 g4 g5 M:Nat} (h:FmRows w B0 rn N g1 g2 g3 g4 g5):FS w B0 rn N g1 g2 g3 g4 g5 (List.replicate N zVc) (List.replicate N zFr) (List.replicate N zFr) (List.replicate N zFr) (List.replicate rn zFr) M :=
 ⟨h.fm,TS.start h.fm.r1,fun v hv g _ n c=>by rw[List.eq_of_mem_replicate hv];exact(Ap.nil _).symm⟩
section
variable {w w':World} {B0 rn N g1 g2 g3 g4 g5 M:Nat} {V:List Vc} {LO HI CO BB:List Fr}
theorem FS.below (h:FS w B0 rn N g1 g2 g3 g4 g5 V LO HI CO BB M) (hb:Below w.heap.size w w':=by go_grown):FS w' B0 rn N g1 g2 g3 g4 g5 V LO HI CO BB M:=⟨h.fm.below hb,h.ts.below hb,h.far⟩
theorem FS.rebase {B:Nat} (h:FS w B0 rn N g1 g2 g3 g4 g5 V LO HI CO BB M) (hB:B≤B0):FS w B rn N g1 g2 g3 g4 g5 V LO HI CO BB M:=⟨⟨h.fm.r1.rebase hB,h.fm.r2.rebase hB,h.fm.r3.rebase hB,h.fm.r4.rebase hB,h.fm.r5.rebase hB,h.fm.ne⟩,h.ts.rebase hB,h.far⟩
theorem FS.base (h:FS w B0 rn N g1 g2 g3 g4 g5 V LO HI CO BB M):B0≤g1∧B0≤g2∧B0≤g3∧B0≤g4∧B0≤g5:=⟨h.fm.r1.blk.2,h.fm.r2.blk.2,h.fm.r3.blk.2,h.fm.r4.blk.2,h.fm.r5.blk.2⟩
theorem FS.blks (h:FS w B0 rn N g1 g2 g3 g4 g5 V LO HI CO BB M):g1<w.heap.size∧g2<w.heap.size∧g3<w.heap.size∧g4<w.heap.size∧g5<w.heap.size:=⟨h.fm.r1.blk.1,h.fm.r2.blk.1,h.fm.r3.blk.1,h.fm.r4.blk.1,h.fm.r5.blk.1⟩
theorem FS.lens (h:FS w B0 rn N g1 g2 g3 g4 g5 V LO HI CO BB M):V.length=N∧LO.length=N∧HI.length=N∧CO.length=N∧BB.length=rn:=h.fm.lens
def Clr (b:Nat) (V:List Vc):Prop:=∀v∈V,some b≠(vsl v).ownBlock
theorem Clr.start (b n:Nat):Clr b (List.replicate n zVc):=fun v hv=>by rw[List.eq_of_mem_replicate hv];intro e;cases e
theorem Clr.set {b i:Nat} {x:Vc} (h:Clr b V) (hx:some b≠(vsl x).ownBlock):Clr b (V.set i x):=fun v hv=>by
 rcases List.mem_or_eq_of_mem_set hv with hv | rfl
 ·exact h v hv
 ·exact hx
theorem Clr.at_ {b i:Nat} {u:Vc} (h:Clr b V) (hu:V[i]?=some u):some b≠(Value.slice u.A u.n u.c).ownBlock:=h u (List.mem_of_getElem? hu)
theorem FS.clr (h:FS w B0 rn N g1 g2 g3 g4 g5 V LO HI CO BB M) {b:Nat} (hb:w.heap.size≤b):Clr b V:=fun v hv=>(h.ts.row v hv).1.off' hb
theorem FS.own (h:FS w B0 rn N g1 g2 g3 g4 g5 V LO HI CO BB M) {i:Nat} {u:Vc} (hu:V[i]?=some u):OwnR w B0 71 5 (.slice u.A u.n u.c) u.n (flat Tm.cs u.L):=(h.ts.row u (List.mem_of_getElem? hu)).1
theorem ne_row {a g n c:Nat} (h:a≠g):some a≠(Value.slice (some ⟨g,0,none⟩) n c).ownBlock:=fun e=>h (Option.some.inj e)
theorem row_base {a g n c:Nat} (h:a≤g):∀g',(Value.slice (some ⟨g,0,none⟩) n c).ownBlock=some g'→a≤g':=fun g' e=>by cases e;exact h
theorem FS.lo (h:FS w B0 rn N g1 g2 g3 g4 g5 V LO HI CO BB M) {i:Nat} {y:Fr} (hy:LO[i]?=some y) (x:Fr) :
  ∃W,W=(((w.setCell ⟨g2,i*4,none⟩ (.bool x.s)).setCell ⟨g2,i*4+1,none⟩ (.slice x.A x.l x.c)).setCell ⟨g2,i*4+2,none⟩ (.bool x.s')).setCell ⟨g2,i*4+3,none⟩ (.slice x.A' x.l' x.c')∧
   FS W B0 rn N g1 g2 g3 g4 g5 V (LO.set i x) HI CO BB M∧Grew w W (.slice (some ⟨g2,0,none⟩) N N) (.slice (some ⟨g2,0,none⟩) N N):=by
 obtain⟨W,hW,h1,hg⟩:=h.fm.lo hy x;obtain⟨a,b,c,d,e,f,g,k,l,m⟩:=h.fm.ap;exact⟨W,hW,⟨h1,h.ts.beyond hg (ap_of a) (fun v hv=>(h.far v hv g2 (by simp) _ _).symm) (Ap.nil _),h.far⟩,hg⟩
theorem FS.hi (h:FS w B0 rn N g1 g2 g3 g4 g5 V LO HI CO BB M) {i:Nat} {y:Fr} (hy:HI[i]?=some y) (x:Fr) :
  ∃W,W=(((w.setCell ⟨g3,i*4,none⟩ (.bool x.s)).setCell ⟨g3,i*4+1,none⟩ (.slice x.A x.l x.c)).setCell ⟨g3,i*4+2,none⟩ (.bool x.s')).setCell ⟨g3,i*4+3,none⟩ (.slice x.A' x.l' x.c')∧
   FS W B0 rn N g1 g2 g3 g4 g5 V LO (HI.set i x) CO BB M∧Grew w W (.slice (some ⟨g3,0,none⟩) N N) (.slice (some ⟨g3,0,none⟩) N N):=by
 obtain⟨W,hW,h1,hg⟩:=h.fm.hi hy x;obtain⟨a,b,c,d,e,f,g,k,l,m⟩:=h.fm.ap;exact⟨W,hW,⟨h1,h.ts.beyond hg (ap_of b) (fun v hv=>(h.far v hv g3 (by simp) _ _).symm) (Ap.nil _),h.far⟩,hg⟩
theorem FS.co (h:FS w B0 rn N g1 g2 g3 g4 g5 V LO HI CO BB M) {i:Nat} {y:Fr} (hy:CO[i]?=some y) (x:Fr) :
  ∃W,W=(((w.setCell ⟨g4,i*4,none⟩ (.bool x.s)).setCell ⟨g4,i*4+1,none⟩ (.slice x.A x.l x.c)).setCell ⟨g4,i*4+2,none⟩ (.bool x.s')).setCell ⟨g4,i*4+3,none⟩ (.slice x.A' x.l' x.c')∧
   FS W B0 rn N g1 g2 g3 g4 g5 V LO HI (CO.set i x) BB M∧Grew w W (.slice (some ⟨g4,0,none⟩) N N) (.slice (some ⟨g4,0,none⟩) N N):=by
 obtain⟨W,hW,h1,hg⟩:=h.fm.co hy x;obtain⟨a,b,c,d,e,f,g,k,l,m⟩:=h.fm.ap;exact⟨W,hW,⟨h1,h.ts.beyond hg (ap_of c) (fun v hv=>(h.far v hv g4 (by simp) _ _).symm) (Ap.nil _),h.far⟩,hg⟩
theorem FS.bb (h:FS w B0 rn N g1 g2 g3 g4 g5 V LO HI CO BB M) {i:Nat} {y:Fr} (hy:BB[i]?=some y) (x:Fr) :
  ∃W,W=(((w.setCell ⟨g5,i*4,none⟩ (.bool x.s)).setCell ⟨g5,i*4+1,none⟩ (.slice x.A x.l x.c)).setCell ⟨g5,i*4+2,none⟩ (.bool x.s')).setCell ⟨g5,i*4+3,none⟩ (.slice x.A' x.l' x.c')∧
   FS W B0 rn N g1 g2 g3 g4 g5 V LO HI CO (BB.set i x) M∧Grew w W (.slice (some ⟨g5,0,none⟩) rn rn) (.slice (some ⟨g5,0,none⟩) rn rn):=by
 obtain⟨W,hW,h1,hg⟩:=h.fm.bb hy x;obtain⟨a,b,c,d,e,f,g,k,l,m⟩:=h.fm.ap;exact⟨W,hW,⟨h1,h.ts.beyond hg (ap_of d) (fun v hv=>(h.far v hv g5 (by simp) _ _).symm) (Ap.nil _),h.far⟩,hg⟩
theorem Ap.row {g n c n' c':Nat} {v:Value} (h:Ap (.slice (some ⟨g,0,none⟩) n c) v):Ap (.slice (some ⟨g,0,none⟩) n' c') v:=h
theorem TS.away {W:World} {B g n nx b M:Nat} {X:Value} {xs:List Value} (h:TS w B g n X nx xs V M) (hk:K64 w W) (far:∀b' cs t',b'≠b→Bx w b' cs t'→Bx W b' cs t') (hb:b<B):TS W B g n X nx xs V M :=
 ⟨h.out.far far hb,fun v hv=>⟨(h.row v hv).1.far far hb,(h.row v hv).2.k hk⟩,h.og,h.xg,h.xo.far far hb,h.ap⟩
theorem FS.away {W:World} {b:Nat} (h:FS w B0 rn N g1 g2 g3 g4 g5 V LO HI CO BB M) (hk:K64 w W) (far:∀b' cs t',b'≠b→Bx w b' cs t'→Bx W b' cs t') (hb:b<B0):FS W B0 rn N g1 g2 g3 g4 g5 V LO HI CO BB M :=
 ⟨⟨h.fm.r1.far far hb,h.fm.r2.far far hb,h.fm.r3.far far hb,h.fm.r4.far far hb,h.fm.r5.far far hb,h.fm.ne⟩,h.ts.away hk far hb,h.far⟩
theorem in4 {g g2 g3 g4 g5:Nat} (h:g∈[g2,g3,g4,g5]):g=g2∨g=g3∨g=g4∨g=g5:=by simpa using h
theorem FS.app (h:FS w B0 rn N g1 g2 g3 g4 g5 V LO HI CO BB M) {v:Vc} {i:Nat} (hv:V[i]?=some v) {t:Tm} {H:Option Addr} {c k:Nat}
  (ho:OwnR w' B0 71 5 (.slice H k c) k (flat Tm.cs (v.L++[t]))) (hg:Grew w w' (.slice v.A v.n v.c) (.slice H k c)) (ht:OnT w' [t] (fun _=>M)) :
  ∃W,W=w'.setCell ⟨g1,i,none⟩ (.slice H k c)∧FS W B0 rn N g1 g2 g3 g4 g5 (V.set i ⟨H,k,c,v.L++[t]⟩) LO HI CO BB M∧Grew w' W (.slice (some ⟨g1,0,none⟩) N N) (.slice (some ⟨g1,0,none⟩) N N):=by
 obtain⟨W,hW,h1,h2⟩:=h.ts.step hv ho hg ht;obtain⟨a,b,c,d,_⟩:=h.fm.ap;have hg':Grew w w' (vsl v) (.slice H k _):=hg;have hf:=h.far v (List.mem_of_getElem? hv);refine⟨W,hW,⟨⟨h1.out,(h.fm.r2.grown hg' (hf _ (by simp) _ _)).grown h2 (ap_of a.symm),(h.fm.r3.grown hg' (hf _ (by simp) _ _)).grown h2 (ap_of b.symm),(h.fm.r4.grown hg' (hf _ (by simp) _ _)).grown h2 (ap_of c.symm),(h.fm.r5.grown hg' (hf _ (by simp) _ _)).grown h2 (ap_of d.symm),h.fm.ne⟩,h1,fun u hu g hgm n c=>?_⟩,h2⟩;rcases List.mem_or_eq_of_mem_set hu with hu | rfl
 ·exact h.far u hu g hgm n c
 ·rcases in4 hgm with rfl | rfl | rfl | rfl
  ·exact Ap.row (hg'.ap h.fm.r2 (hf _ (by simp) N N))
  ·exact Ap.row (hg'.ap h.fm.r3 (hf _ (by simp) N N))
  ·exact Ap.row (hg'.ap h.fm.r4 (hf _ (by simp) N N))
  ·exact Ap.row (hg'.ap h.fm.r5 (hf _ (by simp) rn rn))
theorem FS.put (h:FS w B0 rn N g1 g2 g3 g4 g5 V LO HI CO BB M) (hb:Below w.heap.size w w') (hB:B0≤w.heap.size) {v x:Vc} {i:Nat} (hv:V[i]?=some v) (hx:OwnR w' w.heap.size 71 5 (vsl x) x.n (flat Tm.cs x.L)) (ht:OnT w' x.L (fun _=>M)) :
  ∃W,W=w'.setCell ⟨g1,i,none⟩ (.slice x.A x.n x.c)∧FS W B0 rn N g1 g2 g3 g4 g5 (V.set i x) LO HI CO BB M∧Grew w' W (.slice (some ⟨g1,0,none⟩) N N) (.slice (some ⟨g1,0,none⟩) N N):=by
 obtain⟨W,hW,h1,h2⟩:=h.ts.put hb hB hv hx ht;obtain⟨a,b,c,d,_⟩:=h.fm.ap;have key:∀{v:Value} {n k:Nat} {e:TypeId} {ys:List Value},OwnR w B0 e k v n ys→Ap v (vsl x):=fun ho=>by
  cases e:(vsl x).ownBlock with
  | none=>exact(Ap.symm (.inl e))
  | some b =>
   refine Ap.symm (.inr fun e2=>?_);rw[e] at e2;have h1:=hx.base b e;have h2:=ho.lt b e2.symm;omega
 refine⟨W,hW,⟨⟨h1.out,(h.fm.r2.below hb).grown h2 (ap_of a.symm),(h.fm.r3.below hb).grown h2 (ap_of b.symm),(h.fm.r4.below hb).grown h2 (ap_of c.symm),(h.fm.r5.below hb).grown h2 (ap_of d.symm),h.fm.ne⟩,h1,fun u hu g hgm n c=>?_⟩,h2⟩;rcases List.mem_or_eq_of_mem_set hu with hu | rfl
 ·exact h.far u hu g hgm n c
 ·rcases in4 hgm with rfl | rfl | rfl | rfl
  ·exact Ap.row (key h.fm.r2)
  ·exact Ap.row (key h.fm.r3)
  ·exact Ap.row (key h.fm.r4)
  ·exact Ap.row (key h.fm.r5)
end
open Tw
def loF (V:List Vr) (R:List Rw) (i k j:Nat):Rat:=if j<i then match V[j]? with | some y=>y.lo.q | none=>0 else if V.length≤j∧j<V.length+k then match R[j-V.length]? with | some x=>(slackF V x).1 | none=>0 else 0
def hiF (V:List Vr) (R:List Rw) (i k j:Nat):Rat:=if j<i then match V[j]? with | some y=>y.hi.q | none=>0 else if V.length≤j∧j<V.length+k then match R[j-V.length]? with | some x=>(slackF V x).2 | none=>0 else 0
def bbF (R:List Rw) (k j:Nat):Rat:=if j<k then match R[j]? with | some x=>x.b.q | none=>0 else 0
def coF (C:List Tm) (k j:Nat):Rat:=pget (prs (C.take k)) (j:Int)
theorem loF_start {V:List Vr} {R:List Rw}:loF V R 0 0=fun _=>0:=funext fun j=>by unfold loF;rw[if_neg (Nat.not_lt_zero j),if_neg zo]
theorem hiF_start {V:List Vr} {R:List Rw}:hiF V R 0 0=fun _=>0:=funext fun j=>by unfold hiF;rw[if_neg (Nat.not_lt_zero j),if_neg zo]
theorem bbF_start {R:List Rw}:bbF R 0=fun _=>0:=funext fun j=>by unfold bbF;rw[if_neg (Nat.not_lt_zero j)]
theorem coF_start {C:List Tm}:coF C 0=fun _=>0:=funext fun j=>by unfold coF;rw[List.take_zero];rfl
theorem loF_at {V:List Vr} {R:List Rw} {i:Nat} {y:Vr} (h:V[i]?=some y):y.lo.q=loF V R (i+1) 0 i:=by unfold loF;rw[if_pos (Nat.lt_succ_self i),h]
theorem hiF_at {V:List Vr} {R:List Rw} {i:Nat} {y:Vr} (h:V[i]?=some y):y.hi.q=hiF V R (i+1) 0 i:=by unfold hiF;rw[if_pos (Nat.lt_succ_self i),h]
theorem loF_ne {V:List Vr} {R:List Rw} {i j:Nat} (h:j≠i):loF V R (i+1) 0 j=loF V R i 0 j:=by
 unfold loF
 by_cases e:j<i
 ·rw[if_pos e,if_pos zo]
 ·rw[if_neg e,if_neg zo]
theorem hiF_ne {V:List Vr} {R:List Rw} {i j:Nat} (h:j≠i):hiF V R (i+1) 0 j=hiF V R i 0 j:=by
 unfold hiF
 by_cases e:j<i
 ·rw[if_pos e,if_pos zo]
 ·rw[if_neg e,if_neg zo]
theorem loF_row {V:List Vr} {R:List Rw} {i k:Nat} {x:Rw} (h:R[k]?=some x) (hi:i=V.length):(slackF V x).1=loF V R i (k+1) (i+k):=by
 subst hi;unfold loF
 rw[if_neg zo,if_pos zo,show V.length+k-V.length=k by omega,h]
theorem hiF_row {V:List Vr} {R:List Rw} {i k:Nat} {x:Rw} (h:R[k]?=some x) (hi:i=V.length):(slackF V x).2=hiF V R i (k+1) (i+k):=by
 subst hi;unfold hiF
 rw[if_neg zo,if_pos zo,show V.length+k-V.length=k by omega,h]
theorem loF_rne {V:List Vr} {R:List Rw} {i j k:Nat} (hi:i=V.length) (h:j≠i+k):loF V R i (k+1) j=loF V R i k j:=by
 subst hi;unfold loF
 by_cases e:j<V.length
 ·rw[if_pos e,if_pos e]
 ·rw[if_neg e,if_neg e];by_cases e2:j<V.length+k
  ·rw[if_pos zo,if_pos zo]
  ·rw[if_neg zo,if_neg zo]
theorem hiF_rne {V:List Vr} {R:List Rw} {i j k:Nat} (hi:i=V.length) (h:j≠i+k):hiF V R i (k+1) j=hiF V R i k j:=by
 subst hi;unfold hiF
 by_cases e:j<V.length
 ·rw[if_pos e,if_pos e]
 ·rw[if_neg e,if_neg e];by_cases e2:j<V.length+k
  ·rw[if_pos zo,if_pos zo]
  ·rw[if_neg zo,if_neg zo]
theorem bbF_at {R:List Rw} {k:Nat} {x:Rw} (h:R[k]?=some x):x.b.q=bbF R (k+1) k:=by unfold bbF;rw[if_pos (Nat.lt_succ_self k),h]
theorem bbF_ne {R:List Rw} {j k:Nat} (h:j≠k):bbF R (k+1) j=bbF R k j:=by
 unfold bbF
 by_cases e:j<k
 ·rw[if_pos e,if_pos zo]
 ·rw[if_neg e,if_neg zo]
theorem coF_step {C:List Tm} {k:Nat} {t:Tm} (h:C[k]?=some t) (j:Nat):coF C (k+1) j=coF C k j+if t.at_=(j:Int) then t.x.q else 0:=by
 unfold coF
 rw[take_snoc h,prs_append,pget_append];congr 1
 exact pget_one (t.at_,t.x.q) (j:Int)
theorem coF_ne {C:List Tm} {k j:Nat} {t:Tm} (h:C[k]?=some t) (hj:t.at_≠(j:Int)):coF C (k+1) j=coF C k j:=by rw[coF_step h,if_neg hj,Rat.add_zero]
theorem coF_at {C:List Tm} {k j:Nat} {t:Tm} (h:C[k]?=some t) (hr:Rise (prs C)) (hj:t.at_=(j:Int)):t.x.q=coF C (k+1) j:=by
 rw[coF_step h,if_pos hj];have h0:coF C k j=0:=by
  refine pget_none fun x hx=>?_;obtain⟨u,hu,rfl⟩:=prs_mem hx;obtain⟨i,hi⟩:=List.getElem?_of_mem hu;have hik:i<k:=by
   have:=(List.getElem?_eq_some_iff.1 hi).1;rw[List.length_take] at this;omega
  rw[List.getElem?_take_of_lt hik] at hi;obtain⟨li,ei⟩:=List.getElem?_eq_some_iff.1 hi;obtain⟨lk,ek⟩:=List.getElem?_eq_some_iff.1 h;have h1:=List.pairwise_iff_getElem.1 hr i k (by rw[prs_len];exact li) (by rw[prs_len];exact lk) hik;have e1:(prs C)[i]'(by rw[prs_len];exact li)=(u.at_,u.x.q):=by rw[←ei];exact List.getElem_map _
  have e2:(prs C)[k]'(by rw[prs_len];exact lk)=(t.at_,t.x.q):=by rw[←ek];exact List.getElem_map _
  rw[e1,e2] at h1;have h2:u.at_<t.at_:=h1;show u.at_≠(j:Int)
  omega
 rw[h0,Rat.zero_add]
def frmE (R:List Rw):Nat→List (Int×Int×Rat)
 | 0=>[]
 | k+1=>frmE R k++match R[k]? with | some x=>colE k (prs x.L) | none=>[]
theorem frmE_at {R:List Rw} {k:Nat} {x:Rw} (h:R[k]?=some x):frmE R (k+1)=frmE R k++colE k (prs x.L):=by
 show frmE R k++_=_
 rw[h]
structure ColsF (V:List Vc) (n:Nat) (E:List (Int×Int×Rat)) (k B:Nat):Prop where
 e:∀(a:Nat) v,V[a]?=some v→a<n→prs v.L=rowE E (a:Int)
 s:∀(a:Nat) v,V[a]?=some v→n≤a→a<n+k→prs v.L=[(((a-n:Nat):Int),1)]
 n:∀v∈V,v.n≤B
theorem ColsF.start (n N B:Nat):ColsF (List.replicate N zVc) n [] 0 B:=⟨fun a v hv _=>by rw[List.eq_of_mem_replicate (List.mem_of_getElem? hv)];rfl,fun a v _ h1 h2=>by omega,fun v hv=>by rw[List.eq_of_mem_replicate hv];exact Nat.zero_le _⟩
theorem ColsF.mono {V:List Vc} {n k B B':Nat} {E:List (Int×Int×Rat)} (h:ColsF V n E k B) (hB:B≤B'):ColsF V n E k B':=⟨h.e,h.s,fun v hv=>Nat.le_trans (h.n v hv) hB⟩
theorem ColsF.app {V:List Vc} {n k B a:Nat} {E:List (Int×Int×Rat)} (h:ColsF V n E k B) {u:Vc} (hu:V[a]?=some u) (ha:a<n) (H:Option Addr) (c:Nat) (x:Fr) (i:Int):ColsF (V.set a ⟨H,u.n+1,c,u.L++[⟨i,x⟩]⟩) n (E++[(i,(a:Int),x.q)]) k (B+1):=by
 have hl:=(List.getElem?_eq_some_iff.1 hu).1;refine⟨fun b v hv hb=>?_,fun b v hv h1 h2=>?_,fun v hv=>?_⟩
 ·rw[rowE_append,rowE_one];by_cases e:b=a
  ·subst e;rw[List.getElem?_set_self hl,Option.some.injEq] at hv;subst hv;rw[if_pos rfl,prs_append,h.e b u hu hb];rfl
  ·rw[List.getElem?_set_ne (fun e2=>e e2.symm)] at hv;rw[if_neg (by simp only;omega),List.append_nil];exact h.e b v hv hb
 ·rw[List.getElem?_set_ne zo] at hv;exact h.s b v hv h1 h2
 ·rcases List.mem_or_eq_of_mem_set hv with hv | rfl
  ·exact Nat.le_succ_of_le (h.n v hv)
  ·exact Nat.succ_le_succ (h.n u (List.mem_of_getElem? hu))
theorem ColsF.put {V:List Vc} {n k B:Nat} {E:List (Int×Int×Rat)} (h:ColsF V n E k B) (hl:n+k<V.length) {x:Vc} (hx:prs x.L=[((k:Int),1)]) (h1:x.n≤B):ColsF (V.set (n+k) x) n E (k+1) B:=by
 refine⟨fun b v hv hb=>?_,fun b v hv h2 h3=>?_,fun v hv=>?_⟩
 ·rw[List.getElem?_set_ne zo] at hv;exact h.e b v hv hb
 ·by_cases e:b=n+k
  ·subst e;rw[List.getElem?_set_self hl,Option.some.injEq] at hv;subst hv;rw[hx,show n+k-n=k by omega]
  ·rw[List.getElem?_set_ne (fun e2=>e e2.symm)] at hv;exact h.s b v hv h2 zo
 ·rcases List.mem_or_eq_of_mem_set hv with hv | rfl
  ·exact h.n v hv
  ·exact h1
theorem rightP_parts {p:Pg} (h:rightP p=true):p.vn≤600∧p.rn≤600∧(∀x∈p.R,rightB x.L (p.vn:Int)=true)∧rightB p.C (p.vn:Int)=true:=by
 unfold rightP at h
 simp only[Bool.and_eq_true,decide_eq_true_eq,List.all_eq_true] at h
 obtain⟨⟨h1,h2⟩,_,h4,h5⟩:=h;refine⟨h1,h2,fun x hx=>?_,h5⟩;have:=h4 x hx;unfold stdB at this
 rw[Bool.and_eq_true] at this;exact this.2
end Go.Proofs.YtjkgjiofmgapfaaGreatDoor
