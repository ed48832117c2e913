/-
  LuNone: an LU that Factor did not make answers nothing and ErrNil; the law answers true for any vector. No condition. Written by wip/gen/lu13.py.
-/
import Derived.Test.YtjkgjiofmgapfaaGreatDoorYLu12
import Derived.Test.YtjkgjiofmgapfaaGreatDoorYRdT
set_option maxHeartbeats 8000000
set_option maxRecDepth 100000
namespace Go.Proofs.YtjkgjiofmgapfaaGreatDoor
open Go.RowKit Tw
def LN1 (w:World) (gk:Nat) (s:Value) (wr:World):Prop:=∃i:Nat,i≤2∧2-i=gk∧s=.int .i64 (i:Int)∧Bx wr w.heap.size #[.bool false,.int .i64 0,.slice none 0 0] 91∧Bx wr (w.heap.size+1) #[.pointer none,.pointer (some ⟨w.heap.size,0,none⟩)] 67∧Below w.heap.size w wr
theorem luNone_q {w:World} (x:Value) (hT:Hid (Tab w)):Calls Tryz.prog 8 #[x] w (Yes w):=by
 obtain⟨W,hW,x0,x1,hB⟩:=boxes2 w #[.bool false,.int .i64 0,.slice none 0 0] 91 #[.pointer none,.pointer (some ⟨w.heap.size,0,none⟩)] 67;have HX0:=zh x0;have HX1:=zh x1;have HB:=zh hB;clear x0 x1 hB;go_enter Tryz.func8,Tryz.ntmps8
 go_wp2_with fail
 rw[←hW];clear hW;go_loopg [17] 2 (fun gk s wr=>LN1 w gk s wr)
 case atStart=>exact⟨0,Nat.zero_le _,rfl,rfl,HX0.out.below (by go_grown),HX1.out.below (by go_grown),bT HB.out⟩
 case round =>
  clear HX0 HX1 HB;obtain⟨i,hi,hgk,rfl,hx0,hx1,hB⟩:=hrel;have HGK:=zh hgk;clear hgk;by_cases hlt:i<2
  ·obtain⟨p,hno,hcp⟩:∃p,LuNo wr p∧wr.cell? ⟨w.heap.size+1,i,none⟩=some (.pointer p):=by
    by_cases h0:i=0
    ·subst h0;exact⟨none,.inl rfl,hx1.cell 0 (.pointer none) rfl⟩
    ·obtain rfl:i=1:=zo;exact⟨_,.inr ⟨_,rfl,hx0⟩,hx1.cell 1 (.pointer (some ⟨w.heap.size,0,none⟩)) rfl⟩
   have i1:(i:Int)<2:=zo;have i2:(0:Int)≤(i:Int):=zo;have Bz:=zr wr;have pA0:=hcp;go_wp2_with fail
   with_reducible refine(ftran_none (LuNo.below hno)).mono ?_
   rintro e w11 ⟨rfl,b11⟩;replace b11:=zq (a:=wr) b11;replace Bz:=bT Bz b11;clear b11;clear pA0;go_wp2_with fail
   with_reducible refine(btran_none (LuNo.below hno (bT Bz))).mono ?_
   rintro e w12 ⟨rfl,b12⟩;replace b12:=zq (a:=w11) b12;replace Bz:=bT Bz b12;clear b12;go_wp2_with fail
   with_reducible refine(order_none (LuNo.below hno (bT Bz))).mono ?_
   rintro e w13 ⟨rfl,b13⟩;replace b13:=zq (a:=w12) b13;replace Bz:=bT Bz b13;clear b13;go_wp2_with fail
   with_reducible refine(size_none (LuNo.below hno (bT Bz))).mono ?_
   rintro e w14 ⟨rfl,b14⟩;replace b14:=zq (a:=w13) b14;replace Bz:=bT Bz b14;clear b14;go_wp2_with fail
   go_roundg (2-(i+1))
   case measure=>have:=HGK.out;omega
   case rel=>exact⟨i+1,zo,rfl,by go_num,hx0.below (bT Bz),hx1.below (bT Bz),bT (bT hB Bz)⟩
  ·obtain rfl:i=2:=zo;have Bz:=zr wr;go_wp2_with fail
   with_reducible refine(awake7_q (zt hT hB Bz)).mono ?_
   rintro e w21 ⟨rfl,b21⟩;replace b21:=zq (a:=wr) b21;replace Bz:=bT Bz b21;clear b21;go_wp2_with fail
   go_ret
   have hF:=bT (c:=w21) hB Bz;exact⟨rfl,bT hF⟩
theorem luNone_any {w:World} {x:Value} (_:TsIn w x) (hT:Tab w):Calls Tryz.prog 8 #[x] w (Yes w):=luNone_q x (zh hT)
namespace luNone
open Go.ChangeShapes Go.WideShapes Go.ChangeAt Go.RowKit Tw
theorem contract (H:Type) (enc:TypeId×Value→H) (W:World) (base:Nat) (args:Array Value) (ds gs:List (DataW H)) (before:List MemPlace)
  (hval:∀(j:Nat) t v,Tryz.f8.params[j]?=some t→args[j]?=some v→Value.okWide Tryz.prog W .any base t v)
  (hW:DataW.Whole enc Tryz.prog Tryz.f8.params.toList Rows.luNoneSpec.vars false W args.toList ds gs before) (hL:laidMetH Tryz.prog Rows.luNoneRow.laid W) :
  Calls Tryz.prog 8 args W fun e W'=>∃v,e=.returned v∧Rows.luNoneSpec.post enc Tryz.prog Tryz.f8 false true false false W args v W':=by
 have hW':=hW;obtain⟨p,q,hA0,hV,rfl,hfz,hnd⟩:=hW;have hA:DataW.TrodAll enc Tryz.prog W 0 (fun _=>true) true Tryz.f8.params.toList args.toList ds p:=hA0;rw[Tryz.params8] at hA hval;obtain⟨v0,vs0,d0,ds0,p0,q0,hargs,rfl,rfl,h0,r0⟩:=trodAll_cons hA;obtain⟨rfl,rfl,rfl⟩:=trodAll_nil r0;obtain rfl:args=#[v0]:=by cases args;simp_all
 obtain⟨rfl,rfl⟩:=trodVars_none hV;have lt0:∀x∈p0,x.block<W.heap.size:=by obtain⟨m,hm⟩:=h0;exact DataW.trod_lt m _ _ _ hm
 obtain⟨A0,l0,c0,rfl⟩:=okWide_slice Tryz.underlying24 (hval 0 24 v0 rfl rfl);have n0:=ts_of h0 ⟨_,_,_,rfl⟩;refine(luNone_any n0 (tab_of hL)).mono fun e W' ⟨he,bel⟩=>?_;subst he;exact⟨_,rfl,_,_,_,[],_,[],hW',trodAll_mk1 (shut_bool Tryz.underlying4 _),(trodAll_cons_mk (Below.trod laidOut (by kernel_rfl) (of_decide_eq_true (by kernel_rfl)) h0 bel lt0) trodAll_mk0),rfl,bel.frame _,fun h=>by cases h⟩
theorem laid_met (os:Os):laidMet Tryz.prog Rows.luNoneRow.laid ((laidWorld os).forCall (fun _ _=>0) ⟨#[],#[.slice none 0 0],[]⟩).memory :=
 laidMet_of_run' 8 (by kernel_rfl) (by kernel_rfl)
theorem reads (os:Os) {H:Type} (enc:TypeId×Value→H):∃places,DataW.whole enc Tryz.prog ((laidWorld os).forCall (fun _ _=>0) ⟨#[],#[.slice none 0 0],[]⟩).memory Tryz.f8.params.toList Rows.luNoneSpec.vars false (#[.slice none 0 0]:Array Value).toList 8=some ([.nil],[],places) :=
 ⟨[],by kernel_rfl⟩
theorem lifted (os:Os) (started:os.Started) (H:Type) (enc:TypeId×Value→H) (F:Stop.Interp) :
  ReturnsInHanded {} Tryz.checked os 8 .any ((OpenSpec.ofChange Rows.luNoneSpec).preRow enc Tryz.prog Tryz.f8 Rows.luNoneRow.domain false Rows.luNoneRow.laid) (((OpenSpec.ofChange Rows.luNoneSpec).at F).post enc Tryz.prog Tryz.f8 false true false false):=by
 obtain⟨places,hx⟩:=reads os enc;refine returnsInHanded_of_row (C:=Tryz.checked) (s:=OpenSpec.ofChange Rows.luNoneSpec) own started (by kernel_rfl) Tryz.func8
  (witness_row_at (enc:=enc) (C:=Tryz.checked) false (laidWorld os) #[.slice none 0 0] rfl (by kernel_rfl) (by kernel_rfl) (by kernel_rfl)
   (OpenSpec.preRow_of_cond 8 hx (by kernel_rfl) (fun k hk=>by cases hk) (by kernel_rfl) (laid_met os))) ?_
 intro W base args ds gs before hval hW _ _ _ hL _ _;exact contract H enc W base args ds gs before hval hW hL
theorem said:Rows.LuNoneSaid :=
 OpenClaim.holds_of_cond 8 Tryz.f8 rfl rfl rfl rfl rfl rfl rfl ⟨rfl,rfl,rfl,rfl,rfl⟩ rfl rfl rfl rfl rfl (by kernel_rfl) Tryz.func8 (by kernel_rfl)
  (of_decide_eq_true (by kernel_rfl)) (by unfold Func.isWrapper;first | (rw[if_pos (by decide +kernel)];kernel_rfl) | (rw[if_neg (by decide +kernel)];exact⟨rfl,rfl⟩))
  (fun os started H enc _ F=>by rw[OpenClaim.pre_eq_preRow];exact lifted os started H enc F)
theorem plain (f : FuncId) (fn : Func) (hf : Tryz.pinned.checked.prog.funcNamed "tripwire/tripwirelaw07.LuNone" = some f) (hfn : Tryz.pinned.checked.prog.funcs[f]? = some fn) :
  false=Tryz.pinned.checked.prog.looks []∧∀(j:Nat) t,fn.params[j]?=some t→Tryz.pinned.checked.prog.wantsStandIn t=false:=by
 obtain rfl : f = 8 := Option.some.inj ((show Tryz.prog.funcNamed "tripwire/tripwirelaw07.LuNone" = some 8 by kernel_rfl).symm.trans hf) |>.symm;obtain rfl:fn=Tryz.f8:=(Option.some.inj (Tryz.func8.symm.trans hfn)).symm;refine⟨by kernel_rfl,fun j t ht=>?_⟩;rw[Tryz.params8] at ht;obtain rfl:t=24:=by simpa using Array.mem_of_getElem? ht
 exact(show Tryz.prog.wantsStandIn 24=false by kernel_rfl)
theorem card:Rows.LuNoneCardSaid :=
 Claim7.holds_tied_plain_at .later [] _ _ _ _ said (fun _ h=>by cases h) (by kernel_rfl) (fun _ h=>by cases h) luNone_row_tie rfl ⟨rfl,rfl⟩ (by kernel_rfl) rfl plain (by kernel_rfl)
end luNone
end Go.Proofs.YtjkgjiofmgapfaaGreatDoor
