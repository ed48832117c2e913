/-
  The table that the row lists, and a world for the witness. What the law LimbsTells asks besides: copies, and the same digits. Written by wip/gen/tells1.py.
-/
import Derived.Test.YtjkgjiofmgapfaaGreatDoorYIn
import Derived.Test.YtjkgjiofmgapfaaGreatDoorYZGcd
import Derived.Test.YtjkgjiofmgapfaaGreatDoorYZRb
import Derived.Test.YtjkgjiofmgapfaaGreatDoorTie
import Derived.Test.YtjkgjiofmgapfaaGreatDoorCards
set_option maxHeartbeats 4000000
set_option maxRecDepth 100000
namespace Go.Proofs.YtjkgjiofmgapfaaGreatDoor
open Go.ChangeShapes Go.WideShapes Go.ChangeAt Go.RowKit Tw
theorem gTab : Tryz.prog.globalNamed "math/bits.deBruijn64tab" = some 2 := by kernel_rfl
theorem gTabType:(Tryz.prog.globals[2]?).map (·.type)=some 200:=by kernel_rfl
theorem cells64:Tryz.prog.cellsOf 200=64:=by kernel_rfl
theorem cells8:Tryz.prog.cellsOf 5=1:=by kernel_rfl
theorem laid_is:(Rows.laid_math_bits_deBruijn64tab:DataW Unit)=Lib.tabData .u8 (Lib.deBruijn64tab.map fun(n:Nat)=>(n:Int)):=by kernel_rfl
theorem tab_of {W : World} (h : laidMetH Tryz.prog [("math/bits.deBruijn64tab", Rows.laid_math_bits_deBruijn64tab)] W) : Tab W := by
 have h1 : laidMet Tryz.prog [("math/bits.deBruijn64tab", Rows.laid_math_bits_deBruijn64tab)] W := h;rw[laid_is] at h1;have h2 : Lib.TabIs Tryz.prog W "math/bits.deBruijn64tab" .u8 (Lib.deBruijn64tab.map fun (n : Nat) => (n : Int)) := Lib.tabIs_of_head (rest := []) gTab gTabType Tryz.underlying200 Tryz.underlying5 cells8 cells64 h1;intro j hj;have:=h2.cell gTab j (by simpa using hj);rw[this];simp[List.getD,hj]
noncomputable def laidWorld (os : Os) : World :=
  { World.holding Tryz.prog os ⟨#[], #[], []⟩ with heap := (World.holding Tryz.prog os ⟨#[], #[], []⟩).heap.modify 2 fun
      | .cells _ t frozen => .cells (Lib.deBruijn64tab.map fun (n : Nat) => Value.int .u8 (n : Int)).toArray t frozen
      | o => o }
open Go.RowKit Tw
def Nx (w:World) (A:Option Addr) (c l:Nat) (xs:List Nat):Prop:=Nums w A c xs∧xs.length=l
theorem Nx.v {w:World} {A:Option Addr} {c l:Nat} {xs:List Nat} (h:Nx w A c l xs):V w A c l (val xs):=⟨xs,h.1,h.2,rfl⟩
theorem Nx.v0 {w:World} {A:Option Addr} {c l:Nat} {xs:List Nat} (h:Nx w A c l xs) (h0:val xs=0):V w A c l 0:=by rw[←h0];exact h.v
theorem Nx.below {w w':World} {A:Option Addr} {c l:Nat} {xs:List Nat} (h:Nx w A c l xs) (hb:Below w.heap.size w w':=by go_grown):Nx w' A c l xs:=⟨h.1.below hb,h.2⟩
theorem nums_news {w:World} {b off c:Nat} {xs:List Nat} (h:Nums w (some ⟨b,off,none⟩) c xs):∀j u,(xs.map fun(d:Nat)=>Value.int .u64 (d:Int))[j]?=some u→w.cell? ((⟨b,off,none⟩:Addr).add j)=some u:=fun j u hu=>by
 have hj:j<xs.length:=by
  rcases Nat.lt_or_ge j xs.length with h1 | h1
  ·exact h1
  ·rw[List.getElem?_eq_none (by simpa using h1)] at hu;cases hu
 obtain⟨b',off',e,hc⟩:=h.cells zo;cases e;rw[List.getElem?_map,dg_get hj] at hu;have e2:(⟨b,off,none⟩:Addr).add j=⟨b,off+j,none⟩:=by
  unfold Addr.add
  split<;>simp_all
 rw[e2,hc j hj];exact hu
theorem words_one (xs:List Nat):∀u∈(xs.map fun(d:Nat)=>Value.int .u64 (d:Int)),u.oneCell'=true:=fun u h=>by
 obtain⟨d,_,rfl⟩:=List.mem_map.1 h;rfl
def TellsX (w:World) (l:Nat) (xs:List Nat) (e:Ending) (w':World):Prop:=∃A c,e=.returned (.slice A l c)∧Nx w' A c l xs∧Below w.heap.size w w'
theorem copy_v {w:World} {A:Option Addr} {c l:Nat} {xs:List Nat} (h:Nx w A c l xs) (hl:l≤800000) (hnil:A=none→c=0) :
  Calls Tryz.prog 140 #[.slice A l c] w (TellsX w l xs):=by
 obtain⟨i0,hi,hz0,hz1,hz2⟩:=info_parts infoU64;have HX:=zh h;rcases Nat.eq_zero_or_pos l with rfl | hp
 ·obtain rfl:xs=[]:=List.eq_nil_of_length_eq_zero h.2;cases A with
  | none =>
   have c0:=hnil rfl;subst c0;clear hnil h HX;go_enter Tryz.func140,Tryz.ntmps140
   go_wp2_with fail
   go_ret
   exact⟨none,0,rfl,⟨Nums.nil _ _ _,rfl⟩,Below.refl _ _⟩
  | some ad =>
   clear hnil h HX;have q3:0+0≤maxLen:=by unfold maxLen;omega
   go_enter Tryz.func140,Tryz.ntmps140
   go_wp2_with (at_builtin;refine wpList_append_own _ rfl _ _ 29 rfl w.heap.size 154 i0 (.int .u64 0) 1 8 Tryz.underlying29 hi hz0 hz1 hz2 rfl zd _ _ _ rfl (World.ownsRow_nil _ _ _ _) ad 0 c [] rfl rfl (fun j u h=>by simp at h) (fun u h=>by cases h) q3 zo (Nat.le_refl _) ?_;intro v' w1 hown' hgrow _)
   have hb1:Below w.heap.size w w1:=below_grown hgrow;have ho1:OwnW w1 w.heap.size v' []:=by
    unfold OwnW
    simpa using hown'
   obtain⟨A2,c2,e2,hnm⟩:=ho1.nums Ok.nil;subst e2;clear hown' hgrow ho1;go_wp2_with fail
   go_ret
   exact⟨A2,c2,rfl,⟨hnm,rfl⟩,hb1⟩
 ·obtain⟨b,off,rfl,hcell⟩:=h.1.cells (by rw[h.2];exact hp);have HN:=zh (nums_news h.1);have q3:0+l≤maxLen:=by unfold maxLen;omega
  have q4:(0+l)*8≤140737488355328:=zo;have Q5:Hid ((xs.map fun(d:Nat)=>Value.int .u64 (d:Int)).length=l*1):=by show _=_;rw[List.length_map,h.2];omega
  clear h hcell;go_enter Tryz.func140,Tryz.ntmps140
  go_wp2_with (at_builtin;refine wpList_append_own _ rfl _ _ 29 rfl w.heap.size 154 i0 (.int .u64 0) 1 8 Tryz.underlying29 hi hz0 hz1 hz2 rfl zd _ _ _ rfl (World.ownsRow_nil _ _ _ _) ⟨b,off,none⟩ l c _ rfl Q5.out HN.out (words_one _) q3 q4 (Nat.le_refl _) ?_;intro v' w1 hown' hgrow _)
  have hb1:Below w.heap.size w w1:=below_grown hgrow;have ho1:OwnW w1 w.heap.size v' xs:=by
   unfold OwnW
   rw[HX.out.2];simpa using hown'
  obtain⟨A2,c2,e2,hnm⟩:=ho1.nums HX.out.1.ok;rw[HX.out.2] at e2;subst e2;clear hown' hgrow ho1;go_wp2_with fail
  go_ret
  exact⟨A2,c2,rfl,⟨hnm,HX.out.2⟩,hb1⟩
end Go.Proofs.YtjkgjiofmgapfaaGreatDoor
