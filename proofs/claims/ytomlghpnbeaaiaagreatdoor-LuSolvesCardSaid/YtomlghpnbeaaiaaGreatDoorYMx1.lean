/-
  matrix.Perm: is a list an order?
-/
import Derived.Test.YtomlghpnbeaaiaaGreatDoorYRdV
import Derived.Maps.OwnSet
set_option maxHeartbeats 4000000
set_option maxRecDepth 100000
namespace Go.Proofs.YtomlghpnbeaaiaaGreatDoor
open Go.RowKit Go.Maps Tw
def permL (L:List Int):Bool:=decide L.Nodup&&L.all (fun v=>decide (0≤v)&&decide (v<(L.length:Int)))
theorem lawI:Keyed Tryz.prog 3:=int_keyed Tryz.underlying3
theorem zeroU (w:World):(zeroValue 125).run Tryz.prog w=.ok (.agg #[]) w:=by kernel_rfl
def seenD (L:List Int):DataW Unit:=setOf (.agg []) (L.map (Lit.int .i64))
theorem seen_has (L:List Int) (x:Int):Maps.has (seenD L) (.int .i64 x)=decide (x∈L):=by
 unfold seenD
 rw[has_setOf _ _ _ (fun y hy=>by obtain⟨z,_,rfl⟩:=List.mem_map.1 hy;exact trivial)];rw[List.any_map];induction L with
 | nil=>simp
 | cons y L ih =>
  rw[List.any_cons,ih];by_cases e:x=y
  ·subst e;simp[Lit.sameKey]
  ·have:(Lit.int IntKind.i64 y).sameKey (Lit.int .i64 x)=false:=by simp[Lit.sameKey];omega
   simp[this,e]
theorem run_makeSet (n:Int) (w:World):(Instr.makeMap 124 (some (.int .i64 n))).run Tryz.prog w=.ok (.map (some w.heap.size)) (w.alloc (.map #[] 0)):=by
 simp[Instr.makeMap,run_underlying Tryz.underlying124,asInt,asIntOf,newObj]
 rfl
def PM1 (w:World) (L:List Int) (n gk:Nat) (s:Value) (wr:World):Prop :=
 ∃i:Nat,i≤n∧n-i=gk∧s=.int .i64 (i:Int)∧wr.ownsMap Tryz.prog 3 (unitElem (H:=Unit)) w.heap.size i (seenD (L.take i))∧Below w.heap.size w wr∧w.heap.size<wr.heap.size∧(L.take i).Nodup∧∀x∈L.take i,0≤x∧x<(n:Int)
theorem perm_no {L:List Int} {i:Nat} {x:Int} (hx:L[i]?=some x) (h:x∈L.take i∨x<0∨(L.length:Int)≤x):permL L=false:=by
 unfold permL
 rcases h with h | h
 ·rw[decide_eq_false,Bool.false_and];intro hn;obtain⟨j,hj⟩:=List.getElem?_of_mem h;rw[List.getElem?_take] at hj;split at hj
  ·rename_i hji
   have hi:=(List.getElem?_eq_some_iff.1 hx).1;have:=(List.getElem?_inj (i:=j) (j:=i) zo hn).1 (hj.trans hx.symm);omega
  ·cases hj
 ·rw[Bool.and_eq_false_iff];refine .inr ?_;rw[List.all_eq_false];refine⟨x,List.mem_of_getElem? hx,?_⟩;simp only[Bool.and_eq_true,decide_eq_true_eq]
  omega
theorem perm_yes {L:List Int} {n:Nat} (hl:L.length=n) (hn:L.Nodup) (h:∀x∈L,0≤x∧x<(n:Int)):permL L=true:=by
 unfold permL
 rw[decide_eq_true hn,Bool.true_and,List.all_eq_true];intro x hx;have:=h x hx;simp only[Bool.and_eq_true,decide_eq_true_eq]
 omega
theorem perm_q {w:World} {A:Option Addr} {n c:Nat} {L:List Int} (h:Sl ics 1 w A n c L) (hw:Hid (∀x∈L,I64 x)) (hn:n≤1000000) (r:Bool) (hr:Hid (permL L=r)) :
  Calls Tryz.prog 31 #[.slice A n c] w fun e w'=>e=.returned (.bool r)∧Below w.heap.size w w':=by
 have H:=zh h;have HLN:=zh h.1;have hmm:=run_makeSet;clear h;go_enter Tryz.func31,Tryz.ntmps31
 go_wp2_with fail
 go_loopg [13] n (fun gk s wr=>PM1 w L n gk s wr)
 case atStart=>exact⟨0,Nat.zero_le _,rfl,rfl,World.ownsMap_made _ _ _ _,(Below.refl _ _).alloc (Nat.le_refl _) _,by simp,by simp,by simp⟩
 case round =>
  clear hmm;obtain⟨i,hi,hgk,rfl,hown,hB,hsz,hnd,hrg⟩:=hrel;have HGK:=zh hgk;have HND:=zh hnd;have HRG:=zh hrg;clear hgk hnd hrg;by_cases hlt:i<n
  ·obtain⟨b,off,rfl,hel⟩:=H.out.at ics_len zo zo;obtain⟨x,hx⟩:∃x,L[i]?=some x:=⟨L[i]'(by rw[HLN.out];exact hlt),List.getElem?_eq_getElem _⟩;have hcell:wr.cell? ⟨b,off+i,none⟩=some (.int .i64 x):=by
    have h1:=hel i x hx 0 (.int .i64 x) rfl;rw[Nat.mul_one,Nat.add_zero] at h1;exact(hB.cell (World.block_lt_of_cell? w _ h1)).trans h1
   have hxr:=hw.out x (List.mem_of_getElem? hx);have hkey:keyOf Tryz.prog 3 (.int .i64 x)=some (.int .i64 x):=keyOf_int_mk Tryz.underlying3 (by unfold I64 at hxr;exact WalkArith.wf_i64 zo);have HHAS:Hid (Maps.has (seenD (L.take i)) (.int .i64 x)=decide (x∈L.take i)):=zh (seen_has _ _);have HX:=zh hx;have i1:(i:Int)<(n:Int):=zo;have i2:(0:Int)≤(i:Int):=zo;clear hel hx;go_wp2_with (at_lookup;refine And.left (b:=True) ?_)
   refine⟨?_,trivial⟩;refine wpList_lookup_own_unit _ rfl _ _ 124 rfl 3 125 lawI Tryz.underlying124 (zeroU _) w.heap.size i _ rfl hown _ _ rfl hkey ?_;rw[HHAS.out];by_cases hin:x∈L.take i
   ·obtain rfl:r=false:=by rw[←hr.out];exact perm_no HX.out (.inl hin)
    rw[decide_eq_true hin];clear hin;go_wp2_with fail
    go_ret
    exact⟨rfl,hB.alloc hB.size _⟩
   ·rw[decide_eq_false hin];have HIN:=zh hin;clear hin;by_cases hx0:x<0
    ·obtain rfl:r=false:=by rw[←hr.out];exact perm_no HX.out (.inr (.inl hx0))
     have g1:decide (x<0)=true:=decide_eq_true hx0;go_wp2_with fail
     go_ret
     exact⟨rfl,hB.alloc hB.size _⟩
    ·have g1:decide (x<0)=false:=decide_eq_false hx0;by_cases hxn:(n:Int)≤x
     ·obtain rfl:r=false:=by rw[←hr.out];exact perm_no HX.out (.inr (.inr (by rw[HLN.out];exact hxn)))
      go_wp2_with fail
      go_ret
      exact⟨rfl,hB.alloc hB.size _⟩
     ·go_wp2_with (at_mapUpdate;refine And.left (b:=True) ?_)
      refine⟨?_,trivial⟩;refine wpList_mapUpdate_own _ rfl _ _ _ 124 rfl 3 125 lawI Tryz.underlying124 (unitElem (H:=Unit)) w.heap.size i _ rfl (hown.alloc _) (by unfold maxLen;omega) _ _ _ rfl rfl hkey _ [] unitElem_mk ?_;intro w1 hown1 hgrow1;have hs1:=hgrow1.size;simp at hs1
      have HB1:Hid (Below w.heap.size w w1):=zh ((hB.alloc hB.size _).grown hgrow1 (by simp;omega) (fun j hj=>by cases hj;exact Nat.le_refl _));have HO1:Hid (w1.ownsMap Tryz.prog 3 (unitElem (H:=Unit)) w.heap.size (i+1) (seenD (L.take (i+1)))):=zh (by
       unfold seenD at hown1 ⊢
       rw[zAk HX.out,List.map_append,List.map_singleton,setOf_snoc];exact hown1)
      clear hown hown1 hgrow1;go_wp2_with fail
      go_roundg (n-(i+1))
      case measure=>have:=HGK.out;omega
      case rel =>
       refine⟨i+1,zo,rfl,by go_num,HO1.out,HB1.out,zo,?_,fun y hy=>?_⟩
       ·rw[zAk HX.out];exact List.nodup_append.2 ⟨HND.out,by simp,fun a ha b hb=>by simp at hb;subst hb;intro e;subst e;exact HIN.out ha⟩
       ·rw[zAk HX.out] at hy;rcases List.mem_append.1 hy with hy | hy
        ·exact HRG.out y hy
        ·obtain rfl:=List.mem_singleton.1 hy;omega
  ·obtain rfl:i=n:=zo;have i1:¬(i:Int)<(i:Int):=zo;obtain rfl:r=true:=by
    rw[←hr.out];have e:L.take i=L:=List.take_of_length_le (by rw[HLN.out];exact Nat.le_refl _);have h1:=HND.out;have h2:=HRG.out;rw[e] at h1 h2;exact perm_yes HLN.out h1 h2
   go_wp2_with fail
   go_ret
   exact⟨rfl,hB⟩
end Go.Proofs.YtomlghpnbeaaiaaGreatDoor
