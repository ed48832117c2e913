/-
  The rows and the form that program.Form makes, in any order. Written by wip/gen/pr7.py.
-/
import Derived.Test.YtjkgjiofmgapfaaGreatDoorYPr6
set_option maxHeartbeats 16000000
set_option maxRecDepth 100000
namespace Go.Proofs.YtjkgjiofmgapfaaGreatDoor
open Go.RowKit Tw
theorem Elt.makeO {α:Type} {f:α→List Value} {k:Nat} {t te:TypeId} (E:Elt f k t te) (z0:α) (hz0:∀i z,Tryz.prog.info? te=some i→i.zero=some z→z.cells.toList=f z0) {w:World} {o:Oper} {a:Act} {K:Act→World→Prop} {Q:Exit→Act→World→Prop} (l c:Operand) (ho:o.op=.makeSlice t l c)
  (kl kc:IntKind) (n:Nat) (hl:a.eval l=.int kl (n:Int)) (hc:a.eval c=.int kc (n:Int)) (hn:n≤100000000000) (B:Nat) (hB:B≤w.heap.size)
  (hK:∀g w',OwnR w' B te k (.slice (some ⟨g,0,none⟩) n n) n (flat f (List.replicate n z0))→Below w.heap.size w w'→K (a.put o.dst (.slice (some ⟨g,0,none⟩) n n)) w'):o.wp Tryz.prog a w K Q:=by
 obtain⟨i,z,h1,h2,h3,h4,h5,h6⟩:=E.info;have hzc:=hz0 i z h1 h2;have hb:(i.bytes:Int)*(n:Int)≤281474976710656:=by
  have h:=Nat.mul_le_mul h4 hn;have h':((i.bytes*n:Nat):Int)≤281474976710656:=zo;rwa [Int.natCast_mul] at h'
 have hrun:=run_make (P:=Tryz.prog) w t te i z E.ut h1 h2 kl kc n n zo (Int.le_refl _) hb zo;simp only[Int.toNat_natCast] at hrun
 have hcells:(madeCells z.cells (n*i.size)).toList=flat f (List.replicate n z0):=by
  rw[h3];apply List.ext_getElem?
  intro j;by_cases hj:j<n*k
  ·have k0:0<k:=by
    rcases Nat.eq_zero_or_pos k with h | h
    ·subst h;omega
    ·exact h
   have hi:j / k<n:=Nat.div_lt_of_lt_mul (by rw[Nat.mul_comm];exact hj);have hm:j % k<k:=Nat.mod_lt _ k0;have e:j / k*k+j % k=j:=by rw[Nat.mul_comm];exact Nat.div_add_mod j k
   have h7:=flat_get E.len (List.replicate n z0) (j / k) z0 (by rw[List.getElem?_replicate,if_pos hi]) (j % k) hm;rw[e] at h7;rw[h7,←hzc,Array.getElem?_toList,Array.getElem?_toList];unfold madeCells
   rw[Array.getElem?_map,Array.getElem?_range,if_pos hj,Option.map_some,h5,getElem!_pos z.cells (j % k) zo,Array.getElem?_eq_getElem zo]
  ·rw[List.getElem?_eq_none (by rw[Array.length_toList,size_madeCells];omega),List.getElem?_eq_none (by rw[flat_len E.len,List.length_replicate];omega)]
 unfold Oper.wp
 simp[execOp,ho,hl,hc,hrun,Result.andThen]
 refine hK _ _ ⟨by rw[flat_len E.len,List.length_replicate],.inr ⟨w.heap.size,n,madeCells z.cells (n*i.size),rfl,hB,Bx.new w _ _,Nat.le_refl _,by unfold maxLen;omega,by rw[size_madeCells,h3],?_,h6.made _⟩⟩ (zAd _ _);rw[hcells,List.take_of_length_le (by rw[flat_len E.len,List.length_replicate];exact Nat.le_refl _)]
theorem ownR_notBx {w:World} {B n m size b g:Nat} {e t:TypeId} {xs:List Value} {cs:Array Value} (h:OwnR w B e size (.slice (some ⟨g,0,none⟩) m m) n xs) (hx:Bx w b cs t) (hne:t≠e):b≠g:=by
 rcases h.2 with⟨e1,_⟩ | ⟨g',cap,cur,e1,_,h2,_⟩
 ·cases e1
 ·cases e1;intro e2;subst e2;unfold Bx at hx h2
  rw[hx] at h2;cases h2;exact hne rfl
structure FmRows (w:World) (B0 rn N g1 g2 g3 g4 g5:Nat):Prop where
 r1:OwnR w B0 25 1 (.slice (some ⟨g1,0,none⟩) N N) N (flat Vc.cs (List.replicate N zVc))
 r2:OwnR w B0 33 4 (.slice (some ⟨g2,0,none⟩) N N) N (flat Fr.cs (List.replicate N zFr))
 r3:OwnR w B0 33 4 (.slice (some ⟨g3,0,none⟩) N N) N (flat Fr.cs (List.replicate N zFr))
 r4:OwnR w B0 33 4 (.slice (some ⟨g4,0,none⟩) N N) N (flat Fr.cs (List.replicate N zFr))
 r5:OwnR w B0 33 4 (.slice (some ⟨g5,0,none⟩) rn rn) rn (flat Fr.cs (List.replicate rn zFr))
 ne:[g1,g2,g3,g4,g5].Nodup
theorem FmRows.below {w w':World} {B0 rn N g1 g2 g3 g4 g5:Nat} (h:FmRows w B0 rn N g1 g2 g3 g4 g5) (hb:Below w.heap.size w w':=by go_grown):FmRows w' B0 rn N g1 g2 g3 g4 g5:=⟨h.r1.below hb,h.r2.below hb,h.r3.below hb,h.r4.below hb,h.r5.below hb,h.ne⟩
theorem FmRows.far {w W:World} {B0 rn N g1 g2 g3 g4 g5 b:Nat} (h:FmRows w B0 rn N g1 g2 g3 g4 g5) (far:∀b' cs t',b'≠b→Bx w b' cs t'→Bx W b' cs t') (hb:b∉[g1,g2,g3,g4,g5]):FmRows W B0 rn N g1 g2 g3 g4 g5:=by
 simp only[List.mem_cons,List.not_mem_nil,or_false,not_or] at hb
 obtain⟨h1,h2,h3,h4,h5⟩:=hb;exact⟨h.r1.far2 far (fun e=>h1 (Option.some.inj e)),h.r2.far2 far (fun e=>h2 (Option.some.inj e)),h.r3.far2 far (fun e=>h3 (Option.some.inj e)),h.r4.far2 far (fun e=>h4 (Option.some.inj e)),h.r5.far2 far (fun e=>h5 (Option.some.inj e)),h.ne⟩
theorem st6_0_6 {w:World} {b:Nat} {t:TypeId} {u0 u1 u2 u3 u4 u5:Value} (v0 v1 v2 v3 v4 v5:Value) (h0:Bx w b #[u0,u1,u2,u3,u4,u5] t) (n0:∀n,u0≠.int .u64 n) (n1:∀n,u1≠.int .u64 n) (n2:∀n,u2≠.int .u64 n) (n3:∀n,u3≠.int .u64 n) (n4:∀n,u4≠.int .u64 n) (n5:∀n,u5≠.int .u64 n) :
  ∃W,W=(((((w.setCell ⟨b,0,none⟩ v0).setCell ⟨b,1,none⟩ v1).setCell ⟨b,2,none⟩ v2).setCell ⟨b,3,none⟩ v3).setCell ⟨b,4,none⟩ v4).setCell ⟨b,5,none⟩ v5∧Bx W b #[v0,v1,v2,v3,v4,v5] t∧K64 w W∧(∀b' cs t',b'≠b→Bx w b' cs t'→Bx W b' cs t')∧(∀B w0,B≤b→Below B w0 w→Below B w0 W):=by
 have h1:Bx (w.setCell ⟨b,0,none⟩ v0) b #[v0,u1,u2,u3,u4,u5] t:=h0.set 0 v0;have k0:K64 (w) (w.setCell ⟨b,0,none⟩ v0):=K64.box h0 (i:=0) rfl n0 v0;have h2:Bx ((w.setCell ⟨b,0,none⟩ v0).setCell ⟨b,1,none⟩ v1) b #[v0,v1,u2,u3,u4,u5] t:=h1.set 1 v1;have k1:K64 (w.setCell ⟨b,0,none⟩ v0) ((w.setCell ⟨b,0,none⟩ v0).setCell ⟨b,1,none⟩ v1):=K64.box h1 (i:=1) rfl n1 v1;have h3:Bx (((w.setCell ⟨b,0,none⟩ v0).setCell ⟨b,1,none⟩ v1).setCell ⟨b,2,none⟩ v2) b #[v0,v1,v2,u3,u4,u5] t:=h2.set 2 v2;have k2:K64 ((w.setCell ⟨b,0,none⟩ v0).setCell ⟨b,1,none⟩ v1) (((w.setCell ⟨b,0,none⟩ v0).setCell ⟨b,1,none⟩ v1).setCell ⟨b,2,none⟩ v2):=K64.box h2 (i:=2) rfl n2 v2;have h4:Bx ((((w.setCell ⟨b,0,none⟩ v0).setCell ⟨b,1,none⟩ v1).setCell ⟨b,2,none⟩ v2).setCell ⟨b,3,none⟩ v3) b #[v0,v1,v2,v3,u4,u5] t:=h3.set 3 v3;have k3:K64 (((w.setCell ⟨b,0,none⟩ v0).setCell ⟨b,1,none⟩ v1).setCell ⟨b,2,none⟩ v2) ((((w.setCell ⟨b,0,none⟩ v0).setCell ⟨b,1,none⟩ v1).setCell ⟨b,2,none⟩ v2).setCell ⟨b,3,none⟩ v3):=K64.box h3 (i:=3) rfl n3 v3;have h5:Bx (((((w.setCell ⟨b,0,none⟩ v0).setCell ⟨b,1,none⟩ v1).setCell ⟨b,2,none⟩ v2).setCell ⟨b,3,none⟩ v3).setCell ⟨b,4,none⟩ v4) b #[v0,v1,v2,v3,v4,u5] t:=h4.set 4 v4;have k4:K64 ((((w.setCell ⟨b,0,none⟩ v0).setCell ⟨b,1,none⟩ v1).setCell ⟨b,2,none⟩ v2).setCell ⟨b,3,none⟩ v3) (((((w.setCell ⟨b,0,none⟩ v0).setCell ⟨b,1,none⟩ v1).setCell ⟨b,2,none⟩ v2).setCell ⟨b,3,none⟩ v3).setCell ⟨b,4,none⟩ v4):=K64.box h4 (i:=4) rfl n4 v4;have h6:Bx ((((((w.setCell ⟨b,0,none⟩ v0).setCell ⟨b,1,none⟩ v1).setCell ⟨b,2,none⟩ v2).setCell ⟨b,3,none⟩ v3).setCell ⟨b,4,none⟩ v4).setCell ⟨b,5,none⟩ v5) b #[v0,v1,v2,v3,v4,v5] t:=h5.set 5 v5;have k5:K64 (((((w.setCell ⟨b,0,none⟩ v0).setCell ⟨b,1,none⟩ v1).setCell ⟨b,2,none⟩ v2).setCell ⟨b,3,none⟩ v3).setCell ⟨b,4,none⟩ v4) ((((((w.setCell ⟨b,0,none⟩ v0).setCell ⟨b,1,none⟩ v1).setCell ⟨b,2,none⟩ v2).setCell ⟨b,3,none⟩ v3).setCell ⟨b,4,none⟩ v4).setCell ⟨b,5,none⟩ v5):=K64.box h5 (i:=5) rfl n5 v5;exact⟨_,rfl,h6,(((((k0.trans k1).trans k2).trans k3).trans k4).trans k5),fun b' cs t' hb hx=>((((((hx.far hb v0).far hb v1).far hb v2).far hb v3).far hb v4).far hb v5),fun B w0 hB hb=>((((((hb.setCell hB v0).setCell hB v1).setCell hB v2).setCell hB v3).setCell hB v4).setCell hB v5)⟩
def zfm_0 : Oper := { dst := some 28, op := Op.move (Operand.tmp 6), type := 3, pos := "program.go:117", after := #[], guard := none }
def zfm_1 : Oper := { dst := some 29, op := Op.move (Operand.tmp 5), type := 3, pos := "program.go:117", after := #[], guard := none }
def zfm_2 : Oper := { dst := some 30, op := Op.move (Operand.tmp 6), type := 3, pos := "program.go:117", after := #[], guard := none }
def zfm_3 : Oper := { dst := some 31, op := Op.binOp BinOp.add 3 (Operand.tmp 29) (Operand.tmp 30) 3, type := 3, pos := "program.go:117", after := #[{ on := 1, ground := Ground.data }, { on := 2, ground := Ground.data }], guard := none }
def zfm_4 : Oper := { dst := some 32, op := Op.makeSlice 36 (Operand.tmp 31) (Operand.tmp 31), type := 36, pos := "program.go:117", after := #[{ on := 3, ground := Ground.data }, { on := 3, ground := Ground.data }], guard := none }
def zfm_5 : Oper := { dst := some 33, op := Op.move (Operand.tmp 5), type := 3, pos := "program.go:117", after := #[], guard := none }
def zfm_6 : Oper := { dst := some 34, op := Op.move (Operand.tmp 6), type := 3, pos := "program.go:117", after := #[], guard := none }
def zfm_7 : Oper := { dst := some 35, op := Op.binOp BinOp.add 3 (Operand.tmp 33) (Operand.tmp 34) 3, type := 3, pos := "program.go:117", after := #[{ on := 5, ground := Ground.data }, { on := 6, ground := Ground.data }], guard := none }
def zfm_8 : Oper := { dst := some 36, op := Op.makeSlice 37 (Operand.tmp 35) (Operand.tmp 35), type := 37, pos := "program.go:117", after := #[{ on := 7, ground := Ground.data }, { on := 7, ground := Ground.data }], guard := none }
def zfm_9 : Oper := { dst := some 37, op := Op.move (Operand.tmp 5), type := 3, pos := "program.go:117", after := #[], guard := none }
def zfm_10 : Oper := { dst := some 38, op := Op.move (Operand.tmp 6), type := 3, pos := "program.go:117", after := #[], guard := none }
def zfm_11 : Oper := { dst := some 39, op := Op.binOp BinOp.add 3 (Operand.tmp 37) (Operand.tmp 38) 3, type := 3, pos := "program.go:117", after := #[{ on := 9, ground := Ground.data }, { on := 10, ground := Ground.data }], guard := none }
def zfm_12 : Oper := { dst := some 40, op := Op.makeSlice 37 (Operand.tmp 39) (Operand.tmp 39), type := 37, pos := "program.go:117", after := #[{ on := 11, ground := Ground.data }, { on := 11, ground := Ground.data }], guard := none }
def zfm_13 : Oper := { dst := some 41, op := Op.move (Operand.tmp 5), type := 3, pos := "program.go:117", after := #[], guard := none }
def zfm_14 : Oper := { dst := some 42, op := Op.move (Operand.tmp 6), type := 3, pos := "program.go:117", after := #[], guard := none }
def zfm_15 : Oper := { dst := some 43, op := Op.binOp BinOp.add 3 (Operand.tmp 41) (Operand.tmp 42) 3, type := 3, pos := "program.go:117", after := #[{ on := 13, ground := Ground.data }, { on := 14, ground := Ground.data }], guard := none }
def zfm_16 : Oper := { dst := some 44, op := Op.makeSlice 37 (Operand.tmp 43) (Operand.tmp 43), type := 37, pos := "program.go:117", after := #[{ on := 15, ground := Ground.data }, { on := 15, ground := Ground.data }], guard := none }
def zfm_17 : Oper := { dst := some 45, op := Op.move (Operand.tmp 6), type := 3, pos := "program.go:117", after := #[], guard := none }
def zfm_18 : Oper := { dst := some 46, op := Op.makeSlice 37 (Operand.tmp 45) (Operand.tmp 45), type := 37, pos := "program.go:117", after := #[{ on := 17, ground := Ground.data }, { on := 17, ground := Ground.data }], guard := none }
def zfm_19 : Oper := { dst := some 47, op := Op.build 39 #[(0, Operand.tmp 28), (1, Operand.tmp 32), (2, Operand.tmp 36), (3, Operand.tmp 40), (4, Operand.tmp 44), (5, Operand.tmp 46)], type := 39, pos := "program.go:117", after := #[{ on := 0, ground := Ground.data }, { on := 4, ground := Ground.data }, { on := 8, ground := Ground.data }, { on := 12, ground := Ground.data }, { on := 16, ground := Ground.data }, { on := 18, ground := Ground.data }], guard := none }
def zfm_20 : Oper := { dst := some 7, op := Op.alloc 39, type := 0, pos := "program.go:117", after := #[], guard := none }
def zfm_21 : Oper := { dst := none, op := Op.store 39 (Operand.tmp 7) (Operand.tmp 47), type := 0, pos := "program.go:117", after := #[{ on := 20, ground := Ground.data }, { on := 19, ground := Ground.data }, { on := 0, ground := Ground.phase }, { on := 1, ground := Ground.phase }, { on := 2, ground := Ground.phase }, { on := 3, ground := Ground.phase }, { on := 4, ground := Ground.phase }, { on := 5, ground := Ground.phase }, { on := 6, ground := Ground.phase }, { on := 7, ground := Ground.phase }, { on := 8, ground := Ground.phase }, { on := 9, ground := Ground.phase }, { on := 10, ground := Ground.phase }, { on := 11, ground := Ground.phase }, { on := 12, ground := Ground.phase }, { on := 13, ground := Ground.phase }, { on := 14, ground := Ground.phase }, { on := 15, ground := Ground.phase }, { on := 16, ground := Ground.phase }, { on := 17, ground := Ground.phase }, { on := 18, ground := Ground.phase }, { on := 19, ground := Ground.phase }, { on := 20, ground := Ground.phase }], guard := none }
def zfm:List Oper:=[zfm_0,zfm_1,zfm_2,zfm_3,zfm_4,zfm_5,zfm_6,zfm_7,zfm_8,zfm_9,zfm_10,zfm_11,zfm_12,zfm_13,zfm_14,zfm_15,zfm_16,zfm_17,zfm_18,zfm_19,zfm_20,zfm_21]
def zfmX (B0 vn rn N:Nat):Nat→Value→World→Prop
 | 0,v,_=>v=.int .i64 (rn:Int)
 | 1,v,_=>v=.int .i64 (vn:Int)
 | 2,v,_=>v=.int .i64 (rn:Int)
 | 3,v,_=>v=.int .i64 (N:Int)
 | 4,v,w=>∃g,v=.slice (some ⟨g,0,none⟩) N N∧OwnR w B0 25 1 (.slice (some ⟨g,0,none⟩) N N) N (flat Vc.cs (List.replicate N zVc))
 | 5,v,_=>v=.int .i64 (vn:Int)
 | 6,v,_=>v=.int .i64 (rn:Int)
 | 7,v,_=>v=.int .i64 (N:Int)
 | 8,v,w=>∃g,v=.slice (some ⟨g,0,none⟩) N N∧OwnR w B0 33 4 (.slice (some ⟨g,0,none⟩) N N) N (flat Fr.cs (List.replicate N zFr))
 | 9,v,_=>v=.int .i64 (vn:Int)
 | 10,v,_=>v=.int .i64 (rn:Int)
 | 11,v,_=>v=.int .i64 (N:Int)
 | 12,v,w=>∃g,v=.slice (some ⟨g,0,none⟩) N N∧OwnR w B0 33 4 (.slice (some ⟨g,0,none⟩) N N) N (flat Fr.cs (List.replicate N zFr))
 | 13,v,_=>v=.int .i64 (vn:Int)
 | 14,v,_=>v=.int .i64 (rn:Int)
 | 15,v,_=>v=.int .i64 (N:Int)
 | 16,v,w=>∃g,v=.slice (some ⟨g,0,none⟩) N N∧OwnR w B0 33 4 (.slice (some ⟨g,0,none⟩) N N) N (flat Fr.cs (List.replicate N zFr))
 | 17,v,_=>v=.int .i64 (rn:Int)
 | 18,v,w=>∃g,v=.slice (some ⟨g,0,none⟩) rn rn∧OwnR w B0 33 4 (.slice (some ⟨g,0,none⟩) rn rn) rn (flat Fr.cs (List.replicate rn zFr))
 | 19,v,w=>∃g1 g2 g3 g4 g5,v=.agg #[.int .i64 (rn:Int),.slice (some ⟨g1,0,none⟩) N N,.slice (some ⟨g2,0,none⟩) N N,.slice (some ⟨g3,0,none⟩) N N,.slice (some ⟨g4,0,none⟩) N N,.slice (some ⟨g5,0,none⟩) rn rn]∧FmRows w B0 rn N g1 g2 g3 g4 g5
 | 20,v,w=>∃g,v=.pointer (some ⟨g,0,none⟩)∧Bx w g #[.int .i64 0,.slice none 0 0,.slice none 0 0,.slice none 0 0,.slice none 0 0,.slice none 0 0] 39
 | _,_,_=>True
theorem zfmX_stays {B0 vn rn N:Nat}:∀i v w w',zfmX B0 vn rn N i v w→Below w.heap.size w w'→zfmX B0 vn rn N i v w'
 | 0,_,_,_,h,_=>h
 | 1,_,_,_,h,_=>h
 | 2,_,_,_,h,_=>h
 | 3,_,_,_,h,_=>h
 | 4,_,_,_,⟨g,h1,h2⟩,hb=>⟨g,h1,h2.below hb⟩
 | 5,_,_,_,h,_=>h
 | 6,_,_,_,h,_=>h
 | 7,_,_,_,h,_=>h
 | 8,_,_,_,⟨g,h1,h2⟩,hb=>⟨g,h1,h2.below hb⟩
 | 9,_,_,_,h,_=>h
 | 10,_,_,_,h,_=>h
 | 11,_,_,_,h,_=>h
 | 12,_,_,_,⟨g,h1,h2⟩,hb=>⟨g,h1,h2.below hb⟩
 | 13,_,_,_,h,_=>h
 | 14,_,_,_,h,_=>h
 | 15,_,_,_,h,_=>h
 | 16,_,_,_,⟨g,h1,h2⟩,hb=>⟨g,h1,h2.below hb⟩
 | 17,_,_,_,h,_=>h
 | 18,_,_,_,⟨g,h1,h2⟩,hb=>⟨g,h1,h2.below hb⟩
 | 19,_,_,_,⟨g1,g2,g3,g4,g5,h1,h2⟩,hb=>⟨g1,g2,g3,g4,g5,h1,h2.below hb⟩
 | 20,_,_,_,⟨g,h1,h2⟩,hb=>⟨g,h1,h2.below hb⟩
 | _+21,_,_,_,_,_=>trivial
theorem form5 {w:World} {a:Act} {Q:Exit→Act→World→Prop} {vn rn N:Nat} (hs:48≤a.tmps.size) (h5:a.eval (.tmp 5)=.int .i64 (vn:Int)) (h6:a.eval (.tmp 6)=.int .i64 (rn:Int)) (hN:vn+rn=N) (hb:N≤100000)
  (hQ:∀(x28 x29 x30 x31 x32 x33 x34 x35 x36 x37 x38 x39 x40 x41 x42 x43 x44 x45 x46 x47:Value) (g g1 g2 g3 g4 g5:Nat) (W:World),w.heap.size≤g→g∉[g1,g2,g3,g4,g5]→Bx W g #[.int .i64 (rn:Int),.slice (some ⟨g1,0,none⟩) N N,.slice (some ⟨g2,0,none⟩) N N,.slice (some ⟨g3,0,none⟩) N N,.slice (some ⟨g4,0,none⟩) N N,.slice (some ⟨g5,0,none⟩) rn rn] 39→FmRows W w.heap.size rn N g1 g2 g3 g4 g5→Below w.heap.size w W→Q .normal (((((((((((((((((((((a.put (some 28) x28).put (some 29) x29).put (some 30) x30).put (some 31) x31).put (some 32) x32).put (some 33) x33).put (some 34) x34).put (some 35) x35).put (some 36) x36).put (some 37) x37).put (some 38) x38).put (some 39) x39).put (some 40) x40).put (some 41) x41).put (some 42) x42).put (some 43) x43).put (some 44) x44).put (some 45) x45).put (some 46) x46).put (some 47) x47).put (some 7) (.pointer (some ⟨g,0,none⟩))) W) :
  (Code.region 5 zfm.toArray true).wp Tryz.prog Q a w:=by
 have z0:Below w.heap.size w w.drew:=by go_grown
 have w0:IntKind.i64.wrap ((vn:Int)+(rn:Int))=(N:Int):=by rw[IntWalk.i64_in _ zo];omega
 refine Reg.wp_region_inv 21 48 (zfmX w.heap.size vn rn N) [4,8,12,16,18,20] (.only 21 .done) [21] (fun _=>True) rfl (by decide +kernel) hs zfmX_stays ?_ ?_
 ·intro i o a' w' hi ho hI;have zd:w.heap.size≤w.drew.heap.size:=z0.size;match i,hi,ho with
  | 0,_,ho =>
   obtain rfl:zfm_0=o:=Option.some.inj ho;have e:=(hI.at 6 (by decide +kernel)).trans h6;exact Reg.op_val (v:=.int .i64 (rn:Int)) (W:=w') (by simp only[zfm_0,execOp,e];rfl) ⟨_,rfl,rfl,Below.refl _ _,fun h=>absurd h zda⟩
  | 1,_,ho =>
   obtain rfl:zfm_1=o:=Option.some.inj ho;have e:=(hI.at 5 (by decide +kernel)).trans h5;exact Reg.op_val (v:=.int .i64 (vn:Int)) (W:=w') (by simp only[zfm_1,execOp,e];rfl) ⟨_,rfl,rfl,Below.refl _ _,fun h=>absurd h zda⟩
  | 2,_,ho =>
   obtain rfl:zfm_2=o:=Option.some.inj ho;have e:=(hI.at 6 (by decide +kernel)).trans h6;exact Reg.op_val (v:=.int .i64 (rn:Int)) (W:=w') (by simp only[zfm_2,execOp,e];rfl) ⟨_,rfl,rfl,Below.refl _ _,fun h=>absurd h zda⟩
  | 3,_,ho =>
   obtain rfl:zfm_3=o:=Option.some.inj ho;have d1:=hI.done 1 zfm_1 29 zo rfl rfl (Reg.dep (by decide +kernel));change Act.eval a' (.tmp 29)=_ at d1
   have d2:=hI.done 2 zfm_2 30 zo rfl rfl (Reg.dep (by decide +kernel));change Act.eval a' (.tmp 30)=_ at d2
   refine Reg.op_val (v:=.int .i64 (N:Int)) (W:=w') ?_ ⟨_,rfl,rfl,Below.refl _ _,fun h=>absurd h zda⟩;simp only[zfm_3,execOp,d1,d2]
   go_simp<;>with_reducible rfl
  | 4,_,ho =>
   obtain rfl:zfm_4=o:=Option.some.inj ho;have d3:=hI.done 3 zfm_3 31 zo rfl rfl (Reg.dep (by decide +kernel));change Act.eval a' (.tmp 31)=_ at d3
   refine Elt.makeO elt_vcs zVc (fun i z h1 h2=>vc_zero h1 h2) _ _ rfl .i64 .i64 N d3 d3 zo w'.heap.size (Nat.le_refl _) (fun g w1 ho hb=>⟨_,rfl,⟨g,rfl,ho.rebase hI.below.size⟩,hb,fun _=>⟨ho.base g rfl,ho.lt g rfl⟩⟩)
  | 5,_,ho =>
   obtain rfl:zfm_5=o:=Option.some.inj ho;have e:=(hI.at 5 (by decide +kernel)).trans h5;exact Reg.op_val (v:=.int .i64 (vn:Int)) (W:=w') (by simp only[zfm_5,execOp,e];rfl) ⟨_,rfl,rfl,Below.refl _ _,fun h=>absurd h zda⟩
  | 6,_,ho =>
   obtain rfl:zfm_6=o:=Option.some.inj ho;have e:=(hI.at 6 (by decide +kernel)).trans h6;exact Reg.op_val (v:=.int .i64 (rn:Int)) (W:=w') (by simp only[zfm_6,execOp,e];rfl) ⟨_,rfl,rfl,Below.refl _ _,fun h=>absurd h zda⟩
  | 7,_,ho =>
   obtain rfl:zfm_7=o:=Option.some.inj ho;have d5:=hI.done 5 zfm_5 33 zo rfl rfl (Reg.dep (by decide +kernel));change Act.eval a' (.tmp 33)=_ at d5
   have d6:=hI.done 6 zfm_6 34 zo rfl rfl (Reg.dep (by decide +kernel));change Act.eval a' (.tmp 34)=_ at d6
   refine Reg.op_val (v:=.int .i64 (N:Int)) (W:=w') ?_ ⟨_,rfl,rfl,Below.refl _ _,fun h=>absurd h zda⟩;simp only[zfm_7,execOp,d5,d6]
   go_simp<;>with_reducible rfl
  | 8,_,ho =>
   obtain rfl:zfm_8=o:=Option.some.inj ho;have d7:=hI.done 7 zfm_7 35 zo rfl rfl (Reg.dep (by decide +kernel));change Act.eval a' (.tmp 35)=_ at d7
   refine Elt.makeO elt_frs zFr (fun i z h1 h2=>fr_zero h1 h2) _ _ rfl .i64 .i64 N d7 d7 zo w'.heap.size (Nat.le_refl _) (fun g w1 ho hb=>⟨_,rfl,⟨g,rfl,ho.rebase hI.below.size⟩,hb,fun _=>⟨ho.base g rfl,ho.lt g rfl⟩⟩)
  | 9,_,ho =>
   obtain rfl:zfm_9=o:=Option.some.inj ho;have e:=(hI.at 5 (by decide +kernel)).trans h5;exact Reg.op_val (v:=.int .i64 (vn:Int)) (W:=w') (by simp only[zfm_9,execOp,e];rfl) ⟨_,rfl,rfl,Below.refl _ _,fun h=>absurd h zda⟩
  | 10,_,ho =>
   obtain rfl:zfm_10=o:=Option.some.inj ho;have e:=(hI.at 6 (by decide +kernel)).trans h6;exact Reg.op_val (v:=.int .i64 (rn:Int)) (W:=w') (by simp only[zfm_10,execOp,e];rfl) ⟨_,rfl,rfl,Below.refl _ _,fun h=>absurd h zda⟩
  | 11,_,ho =>
   obtain rfl:zfm_11=o:=Option.some.inj ho;have d9:=hI.done 9 zfm_9 37 zo rfl rfl (Reg.dep (by decide +kernel));change Act.eval a' (.tmp 37)=_ at d9
   have d10:=hI.done 10 zfm_10 38 zo rfl rfl (Reg.dep (by decide +kernel));change Act.eval a' (.tmp 38)=_ at d10
   refine Reg.op_val (v:=.int .i64 (N:Int)) (W:=w') ?_ ⟨_,rfl,rfl,Below.refl _ _,fun h=>absurd h zda⟩;simp only[zfm_11,execOp,d9,d10]
   go_simp<;>with_reducible rfl
  | 12,_,ho =>
   obtain rfl:zfm_12=o:=Option.some.inj ho;have d11:=hI.done 11 zfm_11 39 zo rfl rfl (Reg.dep (by decide +kernel));change Act.eval a' (.tmp 39)=_ at d11
   refine Elt.makeO elt_frs zFr (fun i z h1 h2=>fr_zero h1 h2) _ _ rfl .i64 .i64 N d11 d11 zo w'.heap.size (Nat.le_refl _) (fun g w1 ho hb=>⟨_,rfl,⟨g,rfl,ho.rebase hI.below.size⟩,hb,fun _=>⟨ho.base g rfl,ho.lt g rfl⟩⟩)
  | 13,_,ho =>
   obtain rfl:zfm_13=o:=Option.some.inj ho;have e:=(hI.at 5 (by decide +kernel)).trans h5;exact Reg.op_val (v:=.int .i64 (vn:Int)) (W:=w') (by simp only[zfm_13,execOp,e];rfl) ⟨_,rfl,rfl,Below.refl _ _,fun h=>absurd h zda⟩
  | 14,_,ho =>
   obtain rfl:zfm_14=o:=Option.some.inj ho;have e:=(hI.at 6 (by decide +kernel)).trans h6;exact Reg.op_val (v:=.int .i64 (rn:Int)) (W:=w') (by simp only[zfm_14,execOp,e];rfl) ⟨_,rfl,rfl,Below.refl _ _,fun h=>absurd h zda⟩
  | 15,_,ho =>
   obtain rfl:zfm_15=o:=Option.some.inj ho;have d13:=hI.done 13 zfm_13 41 zo rfl rfl (Reg.dep (by decide +kernel));change Act.eval a' (.tmp 41)=_ at d13
   have d14:=hI.done 14 zfm_14 42 zo rfl rfl (Reg.dep (by decide +kernel));change Act.eval a' (.tmp 42)=_ at d14
   refine Reg.op_val (v:=.int .i64 (N:Int)) (W:=w') ?_ ⟨_,rfl,rfl,Below.refl _ _,fun h=>absurd h zda⟩;simp only[zfm_15,execOp,d13,d14]
   go_simp<;>with_reducible rfl
  | 16,_,ho =>
   obtain rfl:zfm_16=o:=Option.some.inj ho;have d15:=hI.done 15 zfm_15 43 zo rfl rfl (Reg.dep (by decide +kernel));change Act.eval a' (.tmp 43)=_ at d15
   refine Elt.makeO elt_frs zFr (fun i z h1 h2=>fr_zero h1 h2) _ _ rfl .i64 .i64 N d15 d15 zo w'.heap.size (Nat.le_refl _) (fun g w1 ho hb=>⟨_,rfl,⟨g,rfl,ho.rebase hI.below.size⟩,hb,fun _=>⟨ho.base g rfl,ho.lt g rfl⟩⟩)
  | 17,_,ho =>
   obtain rfl:zfm_17=o:=Option.some.inj ho;have e:=(hI.at 6 (by decide +kernel)).trans h6;exact Reg.op_val (v:=.int .i64 (rn:Int)) (W:=w') (by simp only[zfm_17,execOp,e];rfl) ⟨_,rfl,rfl,Below.refl _ _,fun h=>absurd h zda⟩
  | 18,_,ho =>
   obtain rfl:zfm_18=o:=Option.some.inj ho;have d17:=hI.done 17 zfm_17 45 zo rfl rfl (Reg.dep (by decide +kernel));change Act.eval a' (.tmp 45)=_ at d17
   refine Elt.makeO elt_frs zFr (fun i z h1 h2=>fr_zero h1 h2) _ _ rfl .i64 .i64 rn d17 d17 zo w'.heap.size (Nat.le_refl _) (fun g w1 ho hb=>⟨_,rfl,⟨g,rfl,ho.rebase hI.below.size⟩,hb,fun _=>⟨ho.base g rfl,ho.lt g rfl⟩⟩)
  | 19,_,ho =>
   obtain rfl:zfm_19=o:=Option.some.inj ho;have d0:=hI.done 0 zfm_0 28 zo rfl rfl (Reg.dep (by decide +kernel));have d4:=hI.done 4 zfm_4 32 zo rfl rfl (Reg.dep (by decide +kernel));have d8:=hI.done 8 zfm_8 36 zo rfl rfl (Reg.dep (by decide +kernel));have d12:=hI.done 12 zfm_12 40 zo rfl rfl (Reg.dep (by decide +kernel));have d16:=hI.done 16 zfm_16 44 zo rfl rfl (Reg.dep (by decide +kernel));have d18:=hI.done 18 zfm_18 46 zo rfl rfl (Reg.dep (by decide +kernel));change Act.eval a' (.tmp 28)=_ at d0
   obtain⟨g1,e1,r1⟩:=d4;obtain⟨g2,e2,r2⟩:=d8;obtain⟨g3,e3,r3⟩:=d12;obtain⟨g4,e4,r4⟩:=d16;obtain⟨g5,e5,r5⟩:=d18;have n12:=hI.apart 4 8 zfm_4 zfm_8 32 36 zo zo rfl rfl rfl rfl (Reg.dep (by decide +kernel)) (Reg.dep (by decide +kernel)) zda zda zda;rw[e1,e2] at n12;change g1≠g2 at n12
   have n13:=hI.apart 4 12 zfm_4 zfm_12 32 40 zo zo rfl rfl rfl rfl (Reg.dep (by decide +kernel)) (Reg.dep (by decide +kernel)) zda zda zda;rw[e1,e3] at n13;change g1≠g3 at n13
   have n14:=hI.apart 4 16 zfm_4 zfm_16 32 44 zo zo rfl rfl rfl rfl (Reg.dep (by decide +kernel)) (Reg.dep (by decide +kernel)) zda zda zda;rw[e1,e4] at n14;change g1≠g4 at n14
   have n15:=hI.apart 4 18 zfm_4 zfm_18 32 46 zo zo rfl rfl rfl rfl (Reg.dep (by decide +kernel)) (Reg.dep (by decide +kernel)) zda zda zda;rw[e1,e5] at n15;change g1≠g5 at n15
   have n23:=hI.apart 8 12 zfm_8 zfm_12 36 40 zo zo rfl rfl rfl rfl (Reg.dep (by decide +kernel)) (Reg.dep (by decide +kernel)) zda zda zda;rw[e2,e3] at n23;change g2≠g3 at n23
   have n24:=hI.apart 8 16 zfm_8 zfm_16 36 44 zo zo rfl rfl rfl rfl (Reg.dep (by decide +kernel)) (Reg.dep (by decide +kernel)) zda zda zda;rw[e2,e4] at n24;change g2≠g4 at n24
   have n25:=hI.apart 8 18 zfm_8 zfm_18 36 46 zo zo rfl rfl rfl rfl (Reg.dep (by decide +kernel)) (Reg.dep (by decide +kernel)) zda zda zda;rw[e2,e5] at n25;change g2≠g5 at n25
   have n34:=hI.apart 12 16 zfm_12 zfm_16 40 44 zo zo rfl rfl rfl rfl (Reg.dep (by decide +kernel)) (Reg.dep (by decide +kernel)) zda zda zda;rw[e3,e4] at n34;change g3≠g4 at n34
   have n35:=hI.apart 12 18 zfm_12 zfm_18 40 46 zo zo rfl rfl rfl rfl (Reg.dep (by decide +kernel)) (Reg.dep (by decide +kernel)) zda zda zda;rw[e3,e5] at n35;change g3≠g5 at n35
   have n45:=hI.apart 16 18 zfm_16 zfm_18 44 46 zo zo rfl rfl rfl rfl (Reg.dep (by decide +kernel)) (Reg.dep (by decide +kernel)) zda zda zda;rw[e4,e5] at n45;change g4≠g5 at n45
   refine Reg.op_val (v:=.agg #[.int .i64 (rn:Int),.slice (some ⟨g1,0,none⟩) N N,.slice (some ⟨g2,0,none⟩) N N,.slice (some ⟨g3,0,none⟩) N N,.slice (some ⟨g4,0,none⟩) N N,.slice (some ⟨g5,0,none⟩) rn rn]) (W:=w') ?_ ⟨_,rfl,⟨g1,g2,g3,g4,g5,rfl,⟨r1,r2,r3,r4,r5,by simp[n12,n13,n14,n15,n23,n24,n25,n34,n35,n45]⟩⟩,Below.refl _ _,fun h=>absurd h zda⟩;simp only[zfm_19,execOp,List.map_toArray,List.map_cons,List.map_nil,d0,e1,e2,e3,e4,e5]
   go_simp<;>with_reducible rfl
  | 20,_,ho =>
   obtain rfl:zfm_20=o:=Option.some.inj ho;obtain⟨W,hW,x,hN⟩:=zAa w' #[.int .i64 0,.slice none 0 0,.slice none 0 0,.slice none 0 0,.slice none 0 0,.slice none 0 0] 39;refine Reg.op_val (v:=.pointer (some ⟨w'.heap.size,0,none⟩)) (W:=W) ?_ ⟨_,rfl,⟨_,rfl,x⟩,hN,fun _=>⟨Nat.le_refl _,x.lt⟩⟩;rw[hW];simp only[zfm_20,execOp]
   go_simp<;>with_reducible rfl
  | k+21,hi,_=>exact absurd hi zo
 ·intro a' w' hI;refine⟨trivial,?_⟩;have d19:=hI.done 19 zfm_19 47 zo rfl rfl trivial;have d20:=hI.done 20 zfm_20 7 zo rfl rfl trivial;obtain⟨g1,g2,g3,g4,g5,e19,rs⟩:=d19;obtain⟨g,e20,y⟩:=d20;have l20:=hI.lt 20 zfm_20 7 zo rfl rfl trivial zda;rw[e20] at l20;change w.drew.heap.size≤g∧g<w'.heap.size at l20
  have zs:=z0.size;have hp:=hI.puts [28,29,30,31,32,33,34,35,36,37,38,39,40,41,42,43,44,45,46,47,7] (by decide +kernel);have hng:g∉[g1,g2,g3,g4,g5]:=by
   simp only[List.mem_cons,List.not_mem_nil,or_false,not_or]
   exact⟨ownR_notBx rs.r1 y zda,ownR_notBx rs.r2 y zda,ownR_notBx rs.r3 y zda,ownR_notBx rs.r4 y zda,ownR_notBx rs.r5 y zda⟩
  obtain⟨W1,hW1,x1,k1,f1,b1⟩:=st6_0_6 (.int .i64 (rn:Int)) (.slice (some ⟨g1,0,none⟩) N N) (.slice (some ⟨g2,0,none⟩) N N) (.slice (some ⟨g3,0,none⟩) N N) (.slice (some ⟨g4,0,none⟩) N N) (.slice (some ⟨g5,0,none⟩) rn rn) y nofun nofun nofun nofun nofun nofun;refine P3.wpPlan_late (o:=zfm_21) rfl rfl zda ?_;intro K hK;refine Reg.op_skip (W:=W1) ?_ (hK.out _ _ ?_)
  ·simp only[zfm_21,execOp,e20,e19]
   rw[hW1];have p0:=y.cell 0 (.int .i64 0) rfl;have q0:=y.frozen 0;have p1:=y.cell 1 (.slice none 0 0) rfl;have q1:=y.frozen 1;have p2:=y.cell 2 (.slice none 0 0) rfl;have q2:=y.frozen 2;have p3:=y.cell 3 (.slice none 0 0) rfl;have q3:=y.frozen 3;have p4:=y.cell 4 (.slice none 0 0) rfl;have q4:=y.frozen 4;have p5:=y.cell 5 (.slice none 0 0) rfl;have q5:=y.frozen 5;have yl:=y.lt;go_simp<;>with_reducible rfl
  clear hK K hW1;change P3.wpPlan _ _ _ _ _ _ a' W1
  refine P3.wpPlan_done ?_;rw[hp];simp only[List.foldl]
  rw[e20];have hB:=bT z0 hI.below;exact hQ _ _ _ _ _ _ _ _ _ _ _ _ _ _ _ _ _ _ _ _ g g1 g2 g3 g4 g5 W1 zo hng x1 (rs.far f1 hng) (b1 _ _ zo hB)
end Go.Proofs.YtjkgjiofmgapfaaGreatDoor
