import Derived.Test.YtiondclbdgijbaaGreatDoorYHd25
set_option maxRecDepth 100000
namespace Go.Proofs.YtiondclbdgijbaaGreatDoor
open Go.RowKit Tw
def BxIn (W:World) (v:Value):Prop:=∃(A1:Option Addr) (n1 c1:Nat) (LO:List Fr) (A2:Option Addr) (n2 c2:Nat) (HI:List Fr),v=.agg #[.slice A1 n1 c1,.slice A2 n2 c2]∧(n1≤maxLen∧n2≤maxLen)∧(Sl Fr.cs 4 W A1 n1 c1 LO∧∀x∈LO,FrIn W x)∧Sl Fr.cs 4 W A2 n2 c2 HI∧∀x∈HI,FrIn W x
theorem box2_of {H:Type} {enc:TypeId×Value→H} {W:World} {b:Nat} {sp:Nat→Bool} {hd:Bool} {v:Value} {d:DataW H} {p:List MemPlace}
  (h:DataW.Trod enc Tryz.prog W b sp hd 26 v d p) (hv:∃cs,v=.agg cs):BxIn W v:=by
 obtain⟨cs,rfl⟩:=hv;obtain⟨fuel,hf⟩:=h;obtain⟨xs,m,rfl,hx,hl,hn,hi⟩:=DataW.trod_array Tryz.underlying26 hf;have hC:Tryz.prog.cellsOf 26=2:=by kernel_rfl
 have hC0:Tryz.prog.cellsOf 25=1:=by kernel_rfl
 have hl':cs.size=2:=by rw[←hC,←hl];simp[Value.cells]
 obtain⟨c0,c1,rfl⟩:=Joins.array2 hl';obtain⟨z0,e0⟩:∃z,xs[0]?=some z:=⟨xs[0]'zo,cA _⟩;obtain⟨z1,e1⟩:∃z,xs[1]?=some z:=⟨xs[1]'zo,cA _⟩;have h0:=(hi 0 zo).trans e0;have h1:=(hi 1 zo).trans e1;simp[Value.cells,hC0] at h0 h1
 obtain⟨A1,n1,c1,L1,f1,l1,l2,l3,l4⟩:=frs_of h0;obtain⟨A2,n2,c2,L2,f2,k1,k2,k3,k4⟩:=frs_of h1;simp only[List.cons.injEq,and_true] at f1 f2
 subst f1 f2;exact⟨A1,n1,c1,L1,A2,n2,c2,L2,rfl,⟨zo,zo⟩,⟨l3,l4⟩,k3,k4⟩
theorem aggBox_of {W:World} {r:Reach} {b:Nat} {v:Value} (h:Value.okWide Tryz.prog W r b 26 v):∃cs,v=.agg cs:=by
 unfold Value.okWide at h
 rw[Tryz.underlying26] at h;cases v<;>simp_all
def IsIn (W:World) (v:Value):Prop:=∃(A:Option Addr) (n c:Nat) (L:List Int),v=.slice A n c∧n≤maxLen∧Sl ics 1 W A n c L∧∀x∈L,I64 x
theorem ints_of {H:Type} {enc:TypeId×Value→H} {W:World} {b:Nat} {sp:Nat→Bool} {hd:Bool} {v:Value} {d:DataW H} {p:List MemPlace}
  (h:DataW.Trod enc Tryz.prog W b sp hd 27 v d p) (hv:∃A n c,v=.slice A n c):IsIn W v:=by
 obtain⟨A,n,c,rfl⟩:=hv;obtain⟨fuel,hf⟩:=h;obtain⟨A1,n1,c1,L1,f1,l1,l2,l3,l4⟩:=is_of hf;simp only[Value.cells,List.cons.injEq,and_true] at f1
 cases f1;exact⟨_,_,_,L1,rfl,zo,l3,l4⟩
theorem sliceInts_of {W:World} {r:Reach} {b:Nat} {v:Value} (h:Value.okWide Tryz.prog W r b 27 v):∃A n c,v=.slice A n c:=Go.WideShapes.okWide_slice Tryz.underlying27 h
theorem hold_any {w:World} {v b p:Value} (h:NtIn w v) (hb:BxIn w b) (hp:IsIn w p) (hT:Tab w) :
  Calls Tryz.prog 3 #[v,b,p] w fun e w'=>e=.returned (.bool true)∧Below w.heap.size w w':=by
 obtain⟨inp,A,n,c,L,rfl,_,h1,h2,h3,h4⟩:=h;obtain⟨A1,n1,c1,LO,A2,n2,c2,HI,rfl,hn,⟨k1,k2⟩,k3,k4⟩:=hb;obtain⟨P,np,cp,PL,rfl,p1,p2,p3⟩:=hp;unfold maxLen at *
 exact rangesHold_q h3 (zh h4) zo k1 k3 (zh k2) (zh k4) ⟨zo,zo⟩ p2 (zh p3) zo (zh hT)
namespace rangesHold
open Go.ChangeShapes Go.WideShapes Go.ChangeAt
theorem contract (H:Type) (enc:TypeId×Value→H) (W:World) (base:Nat) (args:Array Value) (ds gs:List (DataW H)) (before:List MemPlace)
  (hval:∀(j:Nat) t v,Tryz.f3.params[j]?=some t→args[j]?=some v→Value.okWide Tryz.prog W .any base t v)
  (hW:DataW.Whole enc Tryz.prog Tryz.f3.params.toList Rows.rangesHoldSpec.vars false W args.toList ds gs before) (hL:laidMetH Tryz.prog Rows.rangesHoldRow.laid W) :
  Calls Tryz.prog 3 args W fun e W'=>∃v,e=.returned v∧Rows.rangesHoldSpec.post enc Tryz.prog Tryz.f3 false true false false W args v W':=by
 have hW':=hW;obtain⟨p,q,hA0,hV,rfl,hfz,hnd⟩:=hW;have hA:DataW.TrodAll enc Tryz.prog W 0 (fun _=>true) true Tryz.f3.params.toList args.toList ds p:=hA0;rw[Tryz.params3] at hA hval;obtain⟨v0,vs0,d0,ds0,p0,q0,hargs,rfl,rfl,h0,r0⟩:=trodAll_cons hA;obtain⟨v1,vs1,d1,ds1,p1,q1,rfl,rfl,rfl,h1,r1⟩:=trodAll_cons r0;obtain⟨v2,vs2,d2,ds2,p2,q2,rfl,rfl,rfl,h2,r2⟩:=trodAll_cons r1;obtain⟨rfl,rfl,rfl⟩:=trodAll_nil r2;obtain rfl:args=#[v0,v1,v2]:=by cases args;simp_all
 obtain⟨rfl,rfl⟩:=trodVars_none hV;have lt0:∀x∈p0,x.block<W.heap.size:=by obtain⟨m,hm⟩:=h0;exact DataW.trod_lt m _ _ _ hm
 have n0:=net_of h0 (aggNet_of (hval 0 24 v0 rfl rfl));have lt1:∀x∈p1,x.block<W.heap.size:=by obtain⟨m,hm⟩:=h1;exact DataW.trod_lt m _ _ _ hm
 have n1:=box2_of h1 (aggBox_of (hval 1 26 v1 rfl rfl));have lt2:∀x∈p2,x.block<W.heap.size:=by obtain⟨m,hm⟩:=h2;exact DataW.trod_lt m _ _ _ hm
 have n2:=ints_of h2 (sliceInts_of (hval 2 27 v2 rfl rfl));refine(hold_any n0 n1 n2 (tab_of hL)).mono fun e W' ⟨he,bel⟩=>?_;subst he;exact⟨_,rfl,_,_,_,[],_,[],hW',trodAll_mk1 (shut_bool Tryz.underlying4 _),(trodAll_cons_mk (Below.trod laidOut (by kernel_rfl) (of_decide_eq_true (by kernel_rfl)) h0 bel lt0) (trodAll_cons_mk (Below.trod laidOut (by kernel_rfl) (of_decide_eq_true (by kernel_rfl)) h1 bel lt1) (trodAll_cons_mk (Below.trod laidOut (by kernel_rfl) (of_decide_eq_true (by kernel_rfl)) h2 bel lt2) trodAll_mk0))),rfl,bel.frame _,fun h=>by cases h⟩
theorem laid_met (os:Os):laidMet Tryz.prog Rows.rangesHoldRow.laid ((laidWorld os).forCall (fun _ _=>0) ⟨#[],#[.agg #[.int .i64 0,.slice none 0 0],.agg #[.slice none 0 0,.slice none 0 0],.slice none 0 0],[]⟩).memory :=
 laidMet_of_run' 8 (by kernel_rfl) (by kernel_rfl)
theorem reads (os:Os) {H:Type} (enc:TypeId×Value→H):∃places,DataW.whole enc Tryz.prog ((laidWorld os).forCall (fun _ _=>0) ⟨#[],#[.agg #[.int .i64 0,.slice none 0 0],.agg #[.slice none 0 0,.slice none 0 0],.slice none 0 0],[]⟩).memory Tryz.f3.params.toList Rows.rangesHoldSpec.vars false (#[.agg #[.int .i64 0,.slice none 0 0],.agg #[.slice none 0 0,.slice none 0 0],.slice none 0 0]:Array Value).toList 8=some ([.agg [.lit (.int .i64 0),.nil],.agg [.nil,.nil],.nil],[],places) :=
 ⟨[],by kernel_rfl⟩
theorem lifted (os:Os) (started:os.Started) (H:Type) (enc:TypeId×Value→H) (F:Stop.Interp) :
  ReturnsInHanded {} Tryz.checked os 3 .any ((OpenSpec.ofChange Rows.rangesHoldSpec).preRow enc Tryz.prog Tryz.f3 Rows.rangesHoldRow.domain false Rows.rangesHoldRow.laid) (((OpenSpec.ofChange Rows.rangesHoldSpec).at F).post enc Tryz.prog Tryz.f3 false true false false):=by
 obtain⟨places,hx⟩:=reads os enc;refine returnsInHanded_of_row (C:=Tryz.checked) (s:=OpenSpec.ofChange Rows.rangesHoldSpec) own started (by kernel_rfl) Tryz.func3
  (witness_row_at (enc:=enc) (C:=Tryz.checked) false (laidWorld os) #[.agg #[.int .i64 0,.slice none 0 0],.agg #[.slice none 0 0,.slice none 0 0],.slice none 0 0] rfl (by kernel_rfl) (by kernel_rfl) (by kernel_rfl)
   (OpenSpec.preRow_of_cond 8 hx (by kernel_rfl) (fun k hk=>by cases hk) (by kernel_rfl) (laid_met os))) ?_
 intro W base args ds gs before hval hW _ _ _ hL _ _;exact contract H enc W base args ds gs before hval hW hL
theorem said:Rows.RangesHoldSaid :=
 OpenClaim.holds_of_cond 3 Tryz.f3 rfl rfl rfl rfl rfl rfl rfl ⟨rfl,rfl,rfl,rfl,rfl⟩ rfl rfl rfl rfl rfl (by kernel_rfl) Tryz.func3 (by kernel_rfl)
  (of_decide_eq_true (by kernel_rfl)) (by unfold Func.isWrapper;first | (rw[bB (by decide +kernel)];kernel_rfl) | (rw[dA (by decide +kernel)];exact⟨rfl,rfl⟩))
  (fun os started H enc _ F=>by rw[OpenClaim.pre_eq_preRow];exact lifted os started H enc F)
theorem plain (f : FuncId) (fn : Func) (hf : Tryz.pinned.checked.prog.funcNamed "tripwire/tripwirelaw20.RangesHold" = some f) (hfn : Tryz.pinned.checked.prog.funcs[f]? = some fn) :
  false=Tryz.pinned.checked.prog.looks []∧∀(j:Nat) t,fn.params[j]?=some t→Tryz.pinned.checked.prog.wantsStandIn t=false:=by
 obtain rfl : f = 3 := Option.some.inj ((show Tryz.prog.funcNamed "tripwire/tripwirelaw20.RangesHold" = some 3 by kernel_rfl).symm.trans hf) |>.symm;obtain rfl:fn=Tryz.f3:=(Option.some.inj (Tryz.func3.symm.trans hfn)).symm;refine⟨by kernel_rfl,fun j t ht=>?_⟩;rw[Tryz.params3] at ht;have hm:=Array.mem_of_getElem? ht;simp only[List.mem_toArray,rB,rF,or_false] at hm
 rcases hm with rfl | rfl | rfl
 ·exact(show Tryz.prog.wantsStandIn 24=false by kernel_rfl)
 ·exact(show Tryz.prog.wantsStandIn 26=false by kernel_rfl)
 ·exact(show Tryz.prog.wantsStandIn 27=false by kernel_rfl)
theorem card:Rows.RangesHoldCardSaid :=
 Claim7.holds_tied_plain_at .later [] _ _ _ _ said (fun _ h=>by cases h) (by kernel_rfl) (fun _ h=>by cases h) rangesHold_row_tie rfl ⟨rfl,rfl⟩ (by kernel_rfl) rfl plain (by kernel_rfl)
end rangesHold
end Go.Proofs.YtiondclbdgijbaaGreatDoor
