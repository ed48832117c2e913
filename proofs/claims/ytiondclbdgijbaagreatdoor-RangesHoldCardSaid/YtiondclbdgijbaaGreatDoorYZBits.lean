import Derived.Test.YtiondclbdgijbaaGreatDoorYZLowC
import Derived.Shelf.Small.Bits
import Derived.Shelf.Strconv.Itoa0
import Derived.Shelf.Bits.Mul64
import Derived.Shelf.Spec.TrailingZeros
set_option maxHeartbeats 4000000
set_option maxRecDepth 100000
namespace Go.Proofs
open Go.Shelf
def Tryz.lays129_ren:Go.Shelf.Ren:=⟨fun | 129=>111 | n=>n,fun | 53=>114 | 3=>3 | 4=>4 | 46=>141 | 5=>5 | 9=>9 | n=>n,fun | n=>n⟩
theorem Tryz.lays129:Go.Proofs.Lays.n129 Tryz.prog Tryz.lays129_ren:={
 mixed:=by kernel_rfl
 f129:=Tryz.func111.trans (congrArg some (by kernel_rfl))
 t3:=Tryz.underlying3
 a3:=Tryz.isAgg3
 z3:=Tryz.sizeOf3
 v3:=Tryz.zeroValue3
 t4:=Tryz.underlying4
 a4:=Tryz.isAgg4
 z4:=Tryz.sizeOf4
 v4:=Tryz.zeroValue4
 t5:=Tryz.underlying5
 a5:=Tryz.isAgg5
 z5:=Tryz.sizeOf5
 v5:=Tryz.zeroValue5
 t9:=Tryz.underlying9
 a9:=Tryz.isAgg9
 z9:=Tryz.sizeOf9
 v9:=Tryz.zeroValue9
 t46:=Tryz.underlying141
 a46:=Tryz.isAgg141
 z46:=Tryz.sizeOf141
 v46:=Tryz.zeroValue141
 t53:=Tryz.underlying114
 a53:=Tryz.isAgg114
 z53:=Tryz.sizeOf114
 v53:=Tryz.zeroValue114 }
def Tryz.lays134_ren:Go.Shelf.Ren:=⟨fun | 134=>140 | 129=>111 | n=>n,fun | 53=>114 | 3=>3 | 4=>4 | 46=>141 | 5=>5 | 9=>9 | n=>n,fun | n=>n⟩
theorem Tryz.lays134:Go.Proofs.Lays.n134 Tryz.prog Tryz.lays134_ren:={
 mixed:=by kernel_rfl
 f129:=Tryz.func111.trans (congrArg some (by kernel_rfl))
 f134:=Tryz.func140.trans (congrArg some (by kernel_rfl))
 t3:=Tryz.underlying3
 a3:=Tryz.isAgg3
 z3:=Tryz.sizeOf3
 v3:=Tryz.zeroValue3
 t4:=Tryz.underlying4
 a4:=Tryz.isAgg4
 z4:=Tryz.sizeOf4
 v4:=Tryz.zeroValue4
 t5:=Tryz.underlying5
 a5:=Tryz.isAgg5
 z5:=Tryz.sizeOf5
 v5:=Tryz.zeroValue5
 t9:=Tryz.underlying9
 a9:=Tryz.isAgg9
 z9:=Tryz.sizeOf9
 v9:=Tryz.zeroValue9
 t46:=Tryz.underlying141
 a46:=Tryz.isAgg141
 z46:=Tryz.sizeOf141
 v46:=Tryz.zeroValue141
 t53:=Tryz.underlying114
 a53:=Tryz.isAgg114
 z53:=Tryz.sizeOf114
 v53:=Tryz.zeroValue114 }
def Tryz.lays264_ren:Go.Shelf.Ren:=⟨fun | 264=>97 | n=>n,fun | 53=>114 | 46=>141 | n=>n,fun | n=>n⟩
theorem Tryz.lays264:Go.Proofs.Lays.n264 Tryz.prog Tryz.lays264_ren:={
 mixed:=by kernel_rfl
 f264:=Tryz.func97.trans (congrArg some (by kernel_rfl))
 t46:=Tryz.underlying141
 a46:=Tryz.isAgg141
 z46:=Tryz.sizeOf141
 v46:=Tryz.zeroValue141
 t53:=Tryz.underlying114
 a53:=Tryz.isAgg114
 z53:=Tryz.sizeOf114
 v53:=Tryz.zeroValue114 }
end Go.Proofs
namespace Go.Proofs.YtiondclbdgijbaaGreatDoor
open Go.RowKit Tw
theorem len64 (x:Nat) (hx:x<B) (w:World):Calls Tryz.prog 111 #[.int .u64 (x:Int)] w fun e w'=>e=.returned (.int .i64 (Lib.bitLen x))∧w=w':=by
 rw[B_eq] at hx;exact(Any.bits_Len64 Tryz.lays129 (x:Int) w zo zo).mono fun e w' ⟨he,hw⟩=>⟨by rw[he];rfl,hw.symm⟩
theorem lead64 (x:Nat) (hx:x<B) (w:World):Calls Tryz.prog 140 #[.int .u64 (x:Int)] w fun e w'=>e=.returned (.int .i64 (64-(Lib.bitLen x:Int)))∧w=w':=by
 rw[B_eq] at hx;exact(Any.bits_LeadingZeros64 Tryz.lays134 (x:Int) w zo zo).mono fun e w' ⟨he,hw⟩=>⟨by rw[he];rfl,hw.symm⟩
theorem mul64 (x y:Nat) (hx:x<B) (hy:y<B) (w:World):Calls Tryz.prog 97 #[.int .u64 (x:Int),.int .u64 (y:Int)] w fun e w'=>e=.returned (.tuple #[.int .u64 ((x*y / B:Nat):Int),.int .u64 ((x*y % B:Nat):Int)])∧w=w':=by
 rw[B_eq] at hx hy;exact(Any.bits_Mul64 Tryz.lays264 x y hx hy w).mono fun e w' ⟨he,hw⟩=>⟨by rw[he,B_eq],hw.symm⟩
def Tab (w:World):Prop:=TabAt 2 Lib.deBruijn64tab w
theorem Tab.below {w w':World} (h:Tab w) (hb:Below w.heap.size w w'):Tab w':=fun j hj=>(hb.cell (World.block_lt_of_cell? w _ (h j hj))).trans (h j hj)
theorem tz64_at (x k idx:Nat) (w:World) (hx0:((x:Int)==0)=false) (key:IntKind.u64.wrap (bits BinOp.and IntKind.u64 (x:Int) (IntKind.u64.wrap (-(x:Int)))*285870213051353865) / 288230376151711744=(idx:Int))
  (hi:idx<64) (hk:k<64) (hcell:w.cell? ⟨2,idx,none⟩=some (.int .u8 k)) :
  Calls Tryz.prog 145 #[.int .u64 (x:Int)] w fun e w'=>e=.returned (.int .i64 k)∧w=w':=by
 go_enter Tryz.func145,Tryz.ntmps145
 go_wp2_with (simp only[key])
 go_ret
 exact⟨rfl,rfl⟩
theorem tz64 (x:Nat) (hx:x<B) (hx0:x≠0) (w:World) (hT:Tab w):Calls Tryz.prog 145 #[.int .u64 (x:Int)] w fun e w'=>e=.returned (.int .i64 (Lib.ctz 64 x))∧w=w':=by
 rw[B_eq] at hx;obtain⟨hlow,hk⟩:=Lib.lowest_bit 64 x hx0 hx;obtain⟨hi,htab⟩:=Lib.deBruijn64_at _ hk;have hcell:=hT _ hi;rw[htab] at hcell;exact tz64_at x _ _ w (by simp;omega) (tz64_key x _ hx hx0 hlow) hi hk hcell
theorem wrN {a b:Nat} (h:a+b<B):IntKind.u64.wrap ((a:Int)+(b:Int))=((a+b:Nat):Int):=by
 rw[B_eq] at h;rw[IntKind.wrap_u64];omega
theorem add64z (x y:Nat) (w:World):(callFunc 98 #[.int .u64 (x:Int),.int .u64 (y:Int),.int .u64 0]).run Tryz.prog w =
  .ok (.value (.tuple #[.int .u64 (((x+y) % B:Nat):Int),.int .u64 (((x+y) / B:Nat):Int)])) w:=add64 x y 0 zo w
theorem place_facts {x y z cy:Nat} (hx:x<B) (hy:y<B) (hz:z<B) (hc:cy<B):∃h0 l0 l1 c1 l2 c2 h1 h2:Nat,
  (∀W,Calls Tryz.prog 97 #[.int .u64 (x:Int),.int .u64 (y:Int)] W fun e w'=>e=.returned (.tuple #[.int .u64 (h0:Int),.int .u64 (l0:Int)])∧W=w')∧
  (∀W,(callFunc 98 #[.int .u64 (l0:Int),.int .u64 (z:Int),.int .u64 0]).run Tryz.prog W=.ok (.value (.tuple #[.int .u64 (l1:Int),.int .u64 (c1:Int)])) W)∧IntKind.u64.wrap ((h0:Int)+(c1:Int))=(h1:Int)∧
  (∀W,(callFunc 98 #[.int .u64 (l1:Int),.int .u64 (cy:Int),.int .u64 0]).run Tryz.prog W=.ok (.value (.tuple #[.int .u64 (l2:Int),.int .u64 (c2:Int)])) W)∧IntKind.u64.wrap ((h1:Int)+(c2:Int))=(h2:Int)∧
  l2<B∧h2<B∧l2+B*h2=x*y+z+cy:=by
 obtain⟨e1,e2⟩:=mul_digit hx hy hz hc;exact⟨_,_,_,_,_,_,_,_,fun W=>mul64 x y hx hy W,fun W=>add64z _ _ W,wrN (aD (Nat.le_add_right _ _) e2),fun W=>add64z _ _ W,wrN e2,fC _ B_pos,e2,e1⟩
theorem mul_pos (A A' : Option Addr) (c c' : Nat) (xs ys : List Nat) (w : World) (h : Nums w A c xs) (h' : Nums w A' c' ys) (hs : xs.length ≤ 1000000000000) (hs' : ys.length ≤ 1000000000000) (hx0 : val xs ≠ 0) (hy0 : val ys ≠ 0) :
    Calls Tryz.prog 67 #[.slice A xs.length c, .slice A' ys.length c'] w (Ret w (val xs * val ys)) := by
  have hl := nl_val h.ok;have hl' := nl_val h'.ok;have HU := zh (used_any A c xs w h zo);have HU' := zh (used_any A' c' ys w h' zo);obtain ⟨n, hn⟩ : ∃ n, n = nl (val xs) := ⟨_, rfl⟩;obtain ⟨m, hm⟩ : ∃ m, m = nl (val ys) := ⟨_, rfl⟩;rw [← hn] at hl HU;rw [← hm] at hl' HU';have p1 : ((n : Int) == 0) = false := by simp [hn, nl_eq_zero, hx0]
  have p2 : ((m : Int) == 0) = false := by simp [hm, nl_eq_zero, hy0]
  have hnp : 0 < n := by have : n ≠ 0 := by rw [hn]; exact fun e => hx0 (nl_eq_zero.1 e)
                         omega
  have hmp : 0 < m := by have : m ≠ 0 := by rw [hm]; exact fun e => hy0 (nl_eq_zero.1 e)
                         omega
  obtain ⟨b, off, rfl, hcx⟩ := h.cells zo;obtain ⟨b', off', rfl, hcy⟩ := h'.cells zo;have HX := zh hcx;have HY := zh hcy;have HNM := zh (And.intro hn hm);have hmk := make_words (n + m) zo;rw [show ((n + m : Nat) : Int) = (n : Int) + m from by omega] at hmk;obtain ⟨g, hg⟩ : ∃ g, g = w.heap.size := ⟨_, rfl⟩;clear hn hm hcx hcy hx0 hy0;go_enter Tryz.func67, Tryz.ntmps67
  go_wp2_with fail
  refine HU.out.mono ?_; rintro e w' ⟨rfl, rfl⟩;go_wp2_with fail
  refine HU'.out.mono ?_; rintro e w' ⟨rfl, rfl⟩;go_wp2_with fail
  rw [← hg];have HG := zh hg;clear hg hmk;go_loopw [29] (fun i wr => ∃ k : Nat, k ≤ n ∧ i = .int .i64 k ∧ ∃ zs, zs.length = n + m ∧ Row wr g zs ∧ MulOut xs ys zs m k ∧ Below w.heap.size w wr) (fun i _ => n - (intOf i).toNat)
  case atStart => exact ⟨0, uA _, rfl, List.replicate (n + m) 0, by simp, by rw [HG.out]; exact Row.new w _, MulOut.start _ _ _ _, (Below.refl _ _).alloc (aA _) _⟩
  case round =>
    obtain ⟨k, hk, rfl, zs, hz, hr, hi, hb⟩ := hrel;by_cases hlt : k < n
    · have hcell := (hb.cell (p := ⟨b, off + k, none⟩) (World.block_lt_of_cell? w _ (HX.out k zo))).trans (HX.out k zo)
      have HZ := zh hz;have HC := zh hcell;clear hz hcell;obtain ⟨wo, hwo⟩ : ∃ wo : World, wo = wr := ⟨_, rfl⟩;go_wp2_with fail
      go_loopw [9, 33] (fun cv jv wi => ∃ j cy : Nat, j ≤ m ∧ jv = .int .i64 j ∧ cv = .int .u64 cy ∧ ∃ us, us.length = n + m ∧ Row wi g us ∧ MulIn (dg xs k) ys zs us k j cy ∧ Below w.heap.size w wi) (fun _ jv _ => m - (intOf jv).toNat)
      case atStart => exact ⟨0, 0, uA _, rfl, rfl, zs, HZ.out, hr, MulIn.start _ _ hi.1 _, hb⟩
      case round =>
        obtain ⟨j, cy, hj, rfl, rfl, us, hu, hru, hin, hbi⟩ := hrel;by_cases hjl : j < m
        · have hcy := (hbi.cell (p := ⟨b', off' + j, none⟩) (World.block_lt_of_cell? w _ (HY.out j zo))).trans (HY.out j zo)
          have hcx := (hbi.cell (p := ⟨b, off + k, none⟩) (World.block_lt_of_cell? w _ (HX.out k zo))).trans (HX.out k zo);have hcu := hru.cell (k := k + j) zo;have hfr := hru.frozen (k + j);have i1 : (k : Int) < xs.length := by omega
          have i2 : (j : Int) < ys.length := by omega
          have i3 : (0 : Int) ≤ k := by omega
          have i4 : (0 : Int) ≤ j := by omega
          obtain ⟨h0, l0, l1, c1, l2, c2, h1, h2, f1, f2, f3, f4, f5, f6, f7, f8⟩ := place_facts (dg_lt h.ok k) (dg_lt h'.ok j) (dg_lt hin.1 (k + j)) hin.2.1;have F1 := zh f1;have F6 := zh (And.intro f6 (And.intro f7 f8));have HUL := zh hu;clear f1 f6 f7 f8 hu;go_wp2_with fail
          go_quiet ((go_at_call 97; first | exact quiet_at (F1.out _) | exact quiet_at2 (F1.out _)))
          go_wp2_with fail
          go_roundw
          case rel => exact ⟨j + 1, h2, by omega, by go_num, rfl, us.set (k + j) l2, by rw [nC]; exact HUL.out, (hru.set (k + j) l2).drewN _, hin.step (by have := HUL.out; omega) F6.out.1 F6.out.2.1 F6.out.2.2, below_drewN (hbi.setCell (by rw [HG.out]; exact aA _) _) _⟩
          case measure => simp [intOf]; omega
        · obtain rfl : j = m := by omega
          have hcu := hru.cell (k := k + j) zo;have hfr := hru.frozen (k + j);have HUL := zh hu;clear hu;go_wp2_with fail
          go_roundw
          case rel => exact ⟨k + 1, by omega, by go_num, us.set (k + j) cy, by rw [nC]; exact HUL.out, hru.set (k + j) cy, hin.done hi (by have := HUL.out; omega), hbi.setCell (by rw [HG.out]; exact aA _) _⟩
          case measure => simp [intOf]; omega
    · obtain rfl : k = n := by omega
      have hv := hi.done h.ok h'.ok (by rw [← HNM.out.1]; exact aA _) (by rw [← HNM.out.2]; exact aA _) hz;have ht := tidy_row g (k + m) zs wr hr hi.1 zo zo w.heap.size (val xs * val ys) (by rw [HG.out]; exact aA _) (by rw [fA zo]; exact hv);rw [hz] at ht;have HT := zh ht;clear ht hv hz;go_wp2_with fail
      refine HT.out.mono ?_; rintro e w' ⟨A1, c1, rfl, ho1, rfl⟩;go_wp2_with fail
      go_ret
      exact ⟨A1, c1, rfl, ho1, hb⟩
theorem mul_any (A A':Option Addr) (c c':Nat) (xs ys:List Nat) (w:World) (h:Nums w A c xs) (h':Nums w A' c' ys) (hs:xs.length≤1000000000000) (hs':ys.length≤1000000000000) :
  Calls Tryz.prog 67 #[.slice A xs.length c,.slice A' ys.length c'] w (Ret w (val xs*val ys)):=by
 by_cases hx0:val xs=0
 ·have HR:Hid (Ret w (val xs*val ys) (.returned (.slice none 0 0)) w):=⟨none,0,by rw[hx0,yF];rfl,.inl ⟨by rw[hx0,yF],rfl,rfl⟩,Below.refl _ _⟩;have HU:=zh (used_any A c xs w h zo);have HU':=zh (used_any A' c' ys w h' zo);rw[show nl (val xs)=0 by rw[hx0];rfl] at HU;clear hx0;go_enter Tryz.func67,Tryz.ntmps67
  go_wp2_with fail
  refine HU.out.mono ?_;rintro e w' ⟨rfl,rfl⟩;go_wp2_with fail
  refine HU'.out.mono ?_;rintro e w' ⟨rfl,rfl⟩;go_wp2_with fail
  go_ret
  exact HR.out
 ·by_cases hy0:val ys=0
  ·have HR:Hid (Ret w (val xs*val ys) (.returned (.slice none 0 0)) w):=⟨none,0,by rw[hy0,mE];rfl,.inl ⟨by rw[hy0,mE],rfl,rfl⟩,Below.refl _ _⟩;have HU:=zh (used_any A c xs w h zo);have HU':=zh (used_any A' c' ys w h' zo);have p1:(((nl (val xs):Nat):Int)==0)=false:=by simp[nl_eq_zero,hx0]
   rw[show nl (val ys)=0 by rw[hy0];rfl] at HU';clear hx0 hy0;go_enter Tryz.func67,Tryz.ntmps67
   go_wp2_with fail
   refine HU.out.mono ?_;rintro e w' ⟨rfl,rfl⟩;go_wp2_with fail
   refine HU'.out.mono ?_;rintro e w' ⟨rfl,rfl⟩;go_wp2_with fail
   go_ret
   exact HR.out
  ·exact mul_pos A A' c c' xs ys w h h' hs hs' hx0 hy0
theorem cast_div64 (a s:Nat):∃d:Nat,(a:Int) / 2 ^ s=(d:Int)∧d=a / 2 ^ s:=⟨a / 2 ^ s,by simp,rfl⟩
theorem up_facts {xs ts:List Nat} {W p i x:Nat} (h:UpInv xs ts W p i) (hp:p<64) :
  ∃a b:Nat,IntKind.u64.wrap ((x:Int)*2 ^ p)=(a:Int)∧bits BinOp.or IntKind.u64 ((dg ts (i+W):Nat):Int) (a:Int)=(b:Int)∧b=dg ts (i+W)+x*2 ^ p % B:=by
 have h1:=h.low (x:=x) zo;refine⟨x*2 ^ p % B,dg ts (i+W)+x*2 ^ p % B,?_,?_,rfl⟩
 ·rw[IntKind.wrap_u64,B_eq];simp
 ·rw[bits_or_u64_nat _ _ (by rw[←B_eq];omega) (by rw[←B_eq];exact fC _ B_pos),h.or_ zo]
theorem up_pos (A : Option Addr) (c n W p : Nat) (xs : List Nat) (w : World) (h : Nums w A c xs) (hs : xs.length ≤ 1000000000000) (hx0 : val xs ≠ 0) (hW : Hid (n = 64 * W + p)) (hp : p < 64) (hn : n ≤ 100000000000000) :
    Calls Tryz.prog 138 #[.slice A xs.length c, .int .i64 (n : Int)] w (Ret w (val xs * 2 ^ n)) := by
  have hl := nl_val h.ok;have HU := zh (used_any A c xs w h zo);obtain ⟨m, hm⟩ : ∃ m, m = nl (val xs) := ⟨_, rfl⟩;rw [← hm] at hl HU;have p1 : ((m : Int) == 0) = false := by simp [hm, nl_eq_zero, hx0]
  have hmp : 0 < m := by have : m ≠ 0 := by rw [hm]; exact fun e => hx0 (nl_eq_zero.1 e)
                         omega
  obtain ⟨b, off, rfl, hcx⟩ := h.cells zo;have HX := zh hcx;have HM := zh hm;have q1 : (n : Int) / 64 = (W : Int) := by have := hW.out; omega
  have q2 : (n : Int) % 64 = (p : Int) := by have := hW.out; omega
  have hWn : W ≤ 2000000000000 := by have := hW.out; omega
  have hmk := make_words (m + W + 1) zo;rw [show ((m + W + 1 : Nat) : Int) = (m : Int) + W + 1 from by omega] at hmk;obtain ⟨g, hg⟩ : ∃ g, g = w.heap.size := ⟨_, rfl⟩;clear hm hcx hx0;go_enter Tryz.func138, Tryz.ntmps138
  go_wp2_with fail
  refine HU.out.mono ?_; rintro e w' ⟨rfl, rfl⟩;go_wp2_with fail
  rw [← hg];have HG := zh hg;clear hg hmk q1 q2;go_loopw [25] (fun i wr => ∃ k : Nat, k ≤ m ∧ i = .int .i64 k ∧ ∃ ts, ts.length = m + W + 1 ∧ Row wr g ts ∧ UpInv xs ts W p k ∧ Below w.heap.size w wr) (fun i _ => m - (intOf i).toNat)
  case atStart => exact ⟨0, uA _, rfl, List.replicate (m + W + 1) 0, by simp, by rw [HG.out]; exact Row.new w _, UpInv.start _ _ _ _, (Below.refl _ _).alloc (aA _) _⟩
  case round =>
    obtain ⟨k, hk, rfl, ts, ht, hr, hi, hb⟩ := hrel;by_cases hlt : k < m
    · have hcell := (hb.cell (p := ⟨b, off + k, none⟩) (World.block_lt_of_cell? w _ (HX.out k zo))).trans (HX.out k zo)
      have hne : b ≠ g := by have := World.block_lt_of_cell? w _ (HX.out k zo); have := HG.out; simp at *; omega
      have hct := hr.cell (k := k + W) zo;have hfr := hr.frozen (k + W);obtain ⟨a1, b1, f1, f2, f3⟩ := up_facts (x := dg xs k) hi hp;have r1 := hr.set (k + W) b1;have hct2 := r1.cell (k := k + W + 1) (by rw [nC]; omega);have hfr2 := r1.frozen (k + W + 1);have hcell2 : (wr.setCell ⟨g, k + W, none⟩ (.int .u64 (b1 : Int))).cell? ⟨b, off + k, none⟩ = some (.int .u64 (dg xs k)) := by
        rw [World.cell?_setCell_other _ _ _ _ (by intro e; injection e with e1; omega), hcell]
      have i1 : (k : Int) < xs.length := by omega
      have i2 : (0 : Int) ≤ k := by omega
      have i3 : (0 : Int) ≤ (k : Int) + W := by omega
      have i4 : (k : Int) + W < ((m + W + 1 : Nat) : Int) := by omega
      obtain ⟨d1, f4, f5⟩ := cast_div64 (dg xs k) (64 - p);have HT := zh ht;have F3 := zh (And.intro f3 f5);clear ht f3 f5;go_wp2_with fail
      go_region
      go_wp2_with fail
      go_roundw
      case rel => exact ⟨k + 1, by omega, by go_num, (ts.set (k + W) b1).set (k + W + 1) d1, by rw [nC, nC]; exact HT.out, (r1.set (k + W + 1) d1).drew, by rw [F3.out.1, F3.out.2]; exact hi.step h.ok zo (by have := HT.out; omega), ((hb.setCell (by rw [HG.out]; exact aA _) _).setCell (by rw [HG.out]; exact aA _) _).drew⟩
      case measure => simp [intOf]; omega
    · obtain rfl : k = m := by omega
      have hv := hi.done h.ok (by rw [← HM.out]; exact aA _) ht;rw [← hW.out] at hv;have htd := tidy_row g (k + W + 1) ts wr hr hi.1 zo zo w.heap.size (val xs * 2 ^ n) (by rw [HG.out]; exact aA _) (by rw [fA zo]; exact hv);rw [ht] at htd;have HT := zh htd;clear htd hv ht;go_wp2_with fail
      refine HT.out.mono ?_; rintro e w' ⟨A1, c1, rfl, ho1, rfl⟩;go_wp2_with fail
      go_ret
      exact ⟨A1, c1, rfl, ho1, hb⟩
theorem up_any (A:Option Addr) (c n:Nat) (xs:List Nat) (w:World) (h:Nums w A c xs) (hs:xs.length≤1000000000000) (hn:n≤100000000000000) :
  Calls Tryz.prog 138 #[.slice A xs.length c,.int .i64 (n:Int)] w (Ret w (val xs*2 ^ n)):=by
 by_cases hx0:val xs=0
 ·have HR:Hid (Ret w (val xs*2 ^ n) (.returned (.slice none 0 0)) w):=⟨none,0,by rw[hx0,yF];rfl,.inl ⟨by rw[hx0,yF],rfl,rfl⟩,Below.refl _ _⟩;have HU:=zh (used_any A c xs w h zo);rw[show nl (val xs)=0 by rw[hx0];rfl] at HU;clear hx0;go_enter Tryz.func138,Tryz.ntmps138
  go_wp2_with fail
  refine HU.out.mono ?_;rintro e w' ⟨rfl,rfl⟩;go_wp2_with fail
  go_ret
  exact HR.out
 ·exact up_pos A c n (n / 64) (n % 64) xs w h hs hx0 (show n=64*(n / 64)+n % 64 by omega) zo hn
def DownPost (w:World) (g v:Nat) (e:Ending) (w':World):Prop:=∃A c,e=.returned (.slice A (nl v) c)∧OwnAt w' g A c v∧w.grownBy w' (some g)
theorem down_facts {x y p:Nat} (hx:x<B) (hp:p<64):∃a b d:Nat,(x:Int) / 2 ^ p=(a:Int)∧IntKind.u64.wrap ((y:Int)*2 ^ (64-p))=(b:Int)∧bits BinOp.or IntKind.u64 (a:Int) (b:Int)=(d:Int)∧d=x / 2 ^ p+y % 2 ^ p*2 ^ (64-p):=by
 obtain⟨e1,e2⟩:=shr_digit (y:=y) hx (p:=p) zo;refine⟨x / 2 ^ p,y*2 ^ (64-p) % B,_,by simp,?_,?_,rfl⟩
 ·rw[IntKind.wrap_u64,B_eq];simp
 ·rw[bits_or_u64_nat _ _ (by rw[←B_eq];exact aD (tE _ _) hx) (by rw[←B_eq];exact fC _ B_pos),e1]
theorem read_at (g:Nat) (A:Option Addr) (c n i:Nat) (z:Int) (xs:List Nat) (w:World) (hz:z=(i:Int)) (hn:xs.length=n) (hg:w.cell? ⟨g,0,none⟩=some (.slice A n c)) (h:Nums w A c xs) (d:Nat) (hd:dg xs i=d) :
  Calls Tryz.prog 129 #[.int .i64 z,.pointer (some ⟨g,0,none⟩)] w fun e w'=>e=.returned (.int .u64 (d:Int))∧w=w':=by
 subst hz hn hd;exact read_any g A c i xs w hg h
theorem down_some (g n s W p K:Nat) (zs:List Nat) (w:World) (hr:Row w g zs) (ho:Ok zs) (hn:n≤zs.length) (hs:n≤4000000000000) (hW:Hid (s=64*W+p)) (hp:p<64) (hK:Hid (n=W+K)) (hKp:0<K) (hs1:s≤1000000000000000) :
  Calls Tryz.prog 137 #[.slice (some ⟨g,0,none⟩) n zs.length,.int .i64 (s:Int)] w (DownPost w g (val (zs.take n) / 2 ^ s)):=by
 have q1:(s:Int) / 64=(W:Int):=zi hW.out;have q2:(s:Int) % 64=(p:Int):=zi hW.out;have q3:(n:Int)-(W:Int)=(K:Int):=zi hK.out;have hWn:W<n:=zi hK.out;have hKn:K≤n:=zi hK.out;have hg:=hr.lt;have hlen:(zs.take n).length=n:=by rw[mB];omega
 have HL:=zh hlen;clear hlen;go_enter Tryz.func137,Tryz.ntmps137
 go_wp2_with fail
 refine(reader_any _ _ _ _).mono ?_;rintro e w1 ⟨g1,rfl,hx1,hg1,hb1⟩;have hr1:=hr.below hb1 hg;clear q2;go_wp2_with fail
 clear q1 q3;go_loopw [26] (fun i wr=>∃k:Nat,k≤K∧i=.int .i64 k∧∃us,us.length=zs.length∧Row wr g us∧DownInv (zs.take n) us W p k∧w1.grownBy wr (some g)) (fun i _=>K-(intOf i).toNat)
 case atStart=>exact⟨0,uA _,rfl,zs,rfl,hr1,DownInv.start W p n ho,World.grownBy.refl _ _⟩
 case round =>
  obtain⟨k,hk,rfl,us,hu,hru,hi,hgr⟩:=hrel;have hul:(us.take n).length=n:=by rw[mB];omega
  by_cases hlt:k<K
  ·have hN:Nums wr (some ⟨g,0,none⟩) zs.length (us.take n):=by rw[←hu];exact(hru.nums hi.1).front n
   have hbx:=(hx1.grown hgr (by simp;omega)).cell;have e1:dg (us.take n) (W+k)=dg (zs.take n) (W+k):=by have:=hi.read (k:=W+k) zo (by rw[HL.out];omega);rwa [HL.out] at this
   have e2:dg (us.take n) (W+k+1)=dg (zs.take n) (W+k+1):=by have:=hi.read (k:=W+k+1) zo (by rw[HL.out];omega);rwa [HL.out] at this
   have HC1:=zh (read_at g1 _ _ n (W+k) ((k:Int)+W) _ wr zo hul hbx hN _ e1);have HC2:=zh (read_at g1 _ _ n (W+k+1) ((k:Int)+W+1) _ wr zo hul hbx hN _ e2);have hcell:=hru.cell (k:=k) (zi hK.out);have hfr:=hru.frozen k;obtain⟨a,b,d,f1,f2,f3,f4⟩:=down_facts (x:=dg (zs.take n) (W+k)) (y:=dg (zs.take n) (W+k+1)) (p:=p) (dg_lt (ho.take n) _) hp;have F4:=zh f4;have HU:=zh hu;have HUL:=zh hul;clear hu hul hbx hN e1 e2 f4;go_wp2_with fail
   refine HC1.out.mono ?_;rintro e w' ⟨rfl,rfl⟩;go_wp2_with fail
   refine HC2.out.mono ?_;rintro e w' ⟨rfl,rfl⟩;go_wp2_with fail
   go_roundw
   case rel=>exact⟨k+1,zo,by go_num,us.set k d,by rw[nC];exact HU.out,hru.set k d,by rw[F4.out];exact hi.step (ho.take n) zo (zj HU.out hK.out),grown_set hgr (.inl rfl) _⟩
   case measure=>simp[intOf];omega
  ·obtain rfl:k=K:=zo;have hv:=hi.done (ho.take n) (by rw[HL.out];exact hK.out.symm);rw[←hW.out] at hv;have htd:=tidy_at g k us wr hru hi.1 zo zo _ hv;rw[hu] at htd;have HT:=zh htd;have HV:=zh (And.intro hv hu);clear htd hv hu hul;go_wp2_with fail
   refine HT.out.mono ?_;rintro e w' ⟨A1,c1,rfl,ho1,rfl⟩;go_wp2_with fail
   go_ret
   exact⟨A1,c1,rfl,ho1,grown_trans (grown_below hb1 _) hgr⟩
theorem down_any (g n s:Nat) (zs:List Nat) (w:World) (hr:Row w g zs) (ho:Ok zs) (hn:n≤zs.length) (hs:n≤4000000000000) (hs1:s≤9223372036854775807) :
  Calls Tryz.prog 137 #[.slice (some ⟨g,0,none⟩) n zs.length,.int .i64 (s:Int)] w (DownPost w g (val (zs.take n) / 2 ^ s)):=by
 by_cases hW:s / 64<n
 ·exact down_some g n s (s / 64) (s % 64) (n-s / 64) zs w hr ho hn hs (show s=64*(s / 64)+s % 64 by omega) zo (show n=s / 64+(n-s / 64) by omega) zo zo
 ·have h0:val (zs.take n) / 2 ^ s=0:=by
   apply vD
   refine gC (val_take_lt ho n) ?_;rw[←pow_B];exact wD zo zo
  have HR:Hid (DownPost w g (val (zs.take n) / 2 ^ s) (.returned (.slice none 0 0)) w):=by rw[h0];exact⟨none,0,rfl,.inl ⟨rfl,rfl,rfl⟩,World.grownBy.refl _ _⟩
  obtain⟨W,hWe⟩:∃W,W=s / 64:=⟨_,rfl⟩;have q1:(s:Int) / 64=(W:Int):=zo;have hWn:n≤W:=zo;have q4:wrap64 (W:Int)=(W:Int):=IntWalk.wrap64_in _ ⟨zo,zo⟩;clear h0 hW hWe hs1;go_enter Tryz.func137,Tryz.ntmps137
  go_wp2_with fail
  go_ret
  exact HR.out
theorem off_facts {v t cy x bw:Nat} (hv:v<B) (ht:t<B) (hc:cy<B) (hx:x<B) (hb:bw≤1):∃h0 l0 l1 c1 h1 x' bw':Nat,
  (∀W,Calls Tryz.prog 97 #[.int .u64 (v:Int),.int .u64 (t:Int)] W fun e w'=>e=.returned (.tuple #[.int .u64 (h0:Int),.int .u64 (l0:Int)])∧W=w')∧
  (∀W,(callFunc 98 #[.int .u64 (l0:Int),.int .u64 (cy:Int),.int .u64 0]).run Tryz.prog W=.ok (.value (.tuple #[.int .u64 (l1:Int),.int .u64 (c1:Int)])) W)∧IntKind.u64.wrap ((h0:Int)+(c1:Int))=(h1:Int)∧
  (∀W,(callFunc 130 #[.int .u64 (x:Int),.int .u64 (l1:Int),.int .u64 (bw:Int)]).run Tryz.prog W=.ok (.value (.tuple #[.int .u64 (x':Int),.int .u64 (bw':Int)])) W)∧
  h1<B∧x'<B∧bw'≤1∧l1+B*h1=v*t+cy∧x'+l1+bw=x+B*bw':=by
 obtain⟨e1,e2⟩:=times_digit hv ht hc;exact⟨_,_,_,_,_,_,_,fun W=>mul64 v t hv ht W,fun W=>add64z _ _ W,wrN e2,fun W=>sub64 x _ bw hb W,e2,fC _ B_pos,by split<;>omega,e1,sub_digit hx (fC _ B_pos) hb⟩
def Window (w:World) (g:Nat) (P S:List Nat) (n:Nat) (R:List Nat→Nat→Prop) (e:Ending) (w':World):Prop :=
 ∃Y c,e=.returned (.int .u64 ((c:Nat):Int))∧Row w' g (P++(Y++S))∧Ok Y∧Y.length=n+1∧c≤1∧R Y c∧w.grownBy w' (some g)
theorem takeOff_any (g j n t cap:Nat) (P X S:List Nat) (A':Option Addr) (c':Nat) (vs:List Nat) (w:World) (hr:Row w g (P++(X++S))) (ho:Ok X) (hX:Hid (X.length=n+1)) (hj:Hid (P.length=j)) (h':Nums w A' c' vs) (hv:Hid (vs.length=n))
  (hA:Off A' vs g) (ht:t<B) (hs:n≤4000000000000) (hn:0<n) :
  Calls Tryz.prog 146 #[.slice (some ⟨g,j,none⟩) (n+1) cap,.slice A' n c',.int .u64 (t:Int)] w (Window w g P S n fun Y bw=>val Y+t*val vs=val X+B ^ (n+1)*bw):=by
 obtain⟨b',off',rfl,hcy⟩:=h'.cells (by rw[hv.out];exact hn);have HY:=zh hcy;have hbne:b'≠g:=by have:=hA (by rw[hv.out];exact hn) _ rfl;simpa using this
 have HT:=zh ht;have HA:=zh hA;clear hcy hA ht;have cellX:Hid (∀W Y i,Row W g (P++(Y++S))→Y.length=X.length→i<n+1→W.cell? ⟨g,j+i,none⟩=some (.int .u64 (dg Y i))):=fun W Y i hW hl hi=>by
  have h1:=hX.out;have h2:=hj.out;have:=hW.cell (k:=P.length+i) (by simp;omega);rw[dg_mid P Y S zo,h2] at this;exact this
 have setX:Hid (∀W Y i x,Row W g (P++(Y++S))→Y.length=X.length→i<n+1→Row (W.setCell ⟨g,j+i,none⟩ (.int .u64 ((x:Nat):Int))) g (P++(Y.set i x++S))):=fun W Y i x hW hl hi=>by
  have h1:=hX.out;have h2:=hj.out;have:=hW.set (P.length+i) x;rw[set_mid P Y S zo,h2] at this;exact this
 go_enter Tryz.func146,Tryz.ntmps146
 go_wp2_with fail
 go_loopw [8,9,17] (fun cv bv i wr=>∃k cy bw:Nat,k≤n∧i=.int .i64 k∧cv=.int .u64 cy∧bv=.int .u64 bw∧∃Y,Row wr g (P++(Y++S))∧TInv X vs Y t k cy bw∧w.grownBy wr (some g)) (fun _ _ i _=>n-(intOf i).toNat)
 case atStart=>exact⟨0,0,0,uA _,rfl,rfl,rfl,X,hr,TInv.start vs t ho,World.grownBy.refl _ _⟩
 case round =>
  obtain⟨k,cy,bw,hk,rfl,rfl,rfl,Y,hrY,hi,hgr⟩:=hrel;have hfr:=hrY.frozen (j+k);have hcell:=cellX.out wr Y k hrY hi.2.1 zo;by_cases hlt:k<n
  ·have hcv:=hgr.cell (HY.out k (by rw[hv.out];exact hlt)) (by simpa using hbne);obtain⟨h0,l0,l1,c1,h1,x',bw',f1,f2,f3,f4,f5,f6,f7,f8,f9⟩:=off_facts (dg_lt h'.ok k) HT.out hi.2.2.1 (dg_lt hi.1 k) hi.2.2.2.1;have F1:=zh f1;have F5:=zh (And.intro f5 (And.intro f6 (And.intro f7 (And.intro f8 f9))));clear f1 f5 f6 f7 f8 f9;go_wp2_with fail
   refine(F1.out _).mono ?_;rintro e w' ⟨rfl,rfl⟩;go_wp2_with fail
   go_roundw
   case rel=>exact⟨k+1,h1,bw',zo,by go_num,rfl,rfl,Y.set k x',setX.out _ Y k x' hrY hi.2.1 zo,hi.step (by rw[hX.out];omega) F5.out.1 F5.out.2.1 F5.out.2.2.1 F5.out.2.2.2.1 F5.out.2.2.2.2,grown_set hgr (.inl rfl) _⟩
   case measure=>simp[intOf];omega
  ·obtain rfl:k=n:=zo;have f4:=fun W=>sub64 (dg Y k) cy bw hi.2.2.2.1 W;have f5:=sub_digit (dg_lt hi.1 k) hi.2.2.1 hi.2.2.2.1;generalize hx':(dg Y k+B-cy-bw) % B=x' at f4 f5
   generalize hbw':(if dg Y k<cy+bw then 1 else 0)=bw' at f4 f5
   have hb1:bw'≤1:=by rw[←hbw'];split<;>omega
   have hx1:x'<B:=by rw[←hx'];exact fC _ B_pos
   have F5:=zh (And.intro f5 (And.intro hb1 hx1));clear f5 hx' hbw' hb1 hx1;go_wp2_with fail
   go_ret
   obtain⟨d1,d2,d3⟩:=hi.done hX.out (by rw[hv.out];exact aA _) F5.out.2.2 F5.out.1;exact⟨Y.set k x',bw',rfl,setX.out _ Y k x' hrY hi.2.1 zo,d1,d2,F5.out.2.1,d3,grown_set hgr (.inl rfl) _⟩
theorem add64m (x c:Nat) (hc:c≤1) (w:World):(callFunc 98 #[.int .u64 (x:Int),.int .u64 0,.int .u64 (c:Int)]).run Tryz.prog w =
  .ok (.value (.tuple #[.int .u64 (((x+c) % B:Nat):Int),.int .u64 (((x+c) / B:Nat):Int)])) w:=add64 x 0 c hc w
theorem giveBack_any (g j n cap:Nat) (P X S:List Nat) (A':Option Addr) (c':Nat) (vs:List Nat) (w:World) (hr:Row w g (P++(X++S))) (ho:Ok X) (hX:Hid (X.length=n+1)) (hj:Hid (P.length=j)) (h':Nums w A' c' vs) (hv:Hid (vs.length=n))
  (hA:Off A' vs g) (hs:n≤4000000000000) (hn:0<n) :
  Calls Tryz.prog 147 #[.slice (some ⟨g,j,none⟩) (n+1) cap,.slice A' n c'] w (Window w g P S n fun Y cy=>val Y+B ^ (n+1)*cy=val X+val vs):=by
 obtain⟨b',off',rfl,hcy⟩:=h'.cells (by rw[hv.out];exact hn);have HY:=zh hcy;have hbne:b'≠g:=by have:=hA (by rw[hv.out];exact hn) _ rfl;simpa using this
 have HA:=zh hA;clear hcy hA;have cellX:Hid (∀W Y i,Row W g (P++(Y++S))→Y.length=X.length→i<n+1→W.cell? ⟨g,j+i,none⟩=some (.int .u64 (dg Y i))):=fun W Y i hW hl hi=>by
  have h1:=hX.out;have h2:=hj.out;have:=hW.cell (k:=P.length+i) (by simp;omega);rw[dg_mid P Y S zo,h2] at this;exact this
 have setX:Hid (∀W Y i x,Row W g (P++(Y++S))→Y.length=X.length→i<n+1→Row (W.setCell ⟨g,j+i,none⟩ (.int .u64 ((x:Nat):Int))) g (P++(Y.set i x++S))):=fun W Y i x hW hl hi=>by
  have h1:=hX.out;have h2:=hj.out;have:=hW.set (P.length+i) x;rw[set_mid P Y S zo,h2] at this;exact this
 go_enter Tryz.func147,Tryz.ntmps147
 go_wp2_with fail
 go_loopw [6,11] (fun cv i wr=>∃k cy:Nat,k≤n∧i=.int .i64 k∧cv=.int .u64 cy∧∃Y,Row wr g (P++(Y++S))∧GInv X vs Y k cy∧w.grownBy wr (some g)) (fun _ i _=>n-(intOf i).toNat)
 case atStart=>exact⟨0,0,uA _,rfl,rfl,X,hr,GInv.start vs ho,World.grownBy.refl _ _⟩
 case round =>
  obtain⟨k,cy,hk,rfl,rfl,Y,hrY,hi,hgr⟩:=hrel;have hfr:=hrY.frozen (j+k);have hcell:=cellX.out wr Y k hrY hi.2.1 zo;by_cases hlt:k<n
  ·have hcv:=hgr.cell (HY.out k (by rw[hv.out];exact hlt)) (by simpa using hbne);have had:=add64 (dg Y k) (dg vs k) cy hi.2.2.1;have i1:(k:Int)<n:=zo;have i2:(0:Int)≤k:=zo;have i3:(k:Int)<((n+1:Nat):Int):=zo;go_wp2_with fail
   go_region
   all_goals
    go_wp2_with fail
    go_roundw
    case rel=>exact⟨k+1,_,zo,by go_num,rfl,_,(setX.out _ Y k _ hrY hi.2.1 zo).drew,hi.step h'.ok (by rw[hX.out];omega),grown_drew (grown_set hgr (.inl rfl) _)⟩
    case measure=>simp[intOf];omega
  ·obtain rfl:k=n:=zo;have f4:=fun W=>add64m (dg Y k) cy hi.2.2.1 W;go_wp2_with fail
   go_ret
   obtain⟨d1,d2,d3,d4⟩:=hi.done hX.out (by rw[hv.out];exact aA _);exact⟨_,_,rfl,setX.out _ Y k _ hrY hi.2.1 zo,d1,d2,d3,d4,grown_set hgr (.inl rfl) _⟩
end Go.Proofs.YtiondclbdgijbaaGreatDoor
