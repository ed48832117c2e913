/-
  ProgramSpans: for any program, any vector and any parts, together of bulk at most 1048576, what the vector tells of a point within the bounds lies in its span, and both ends are met; the law answers true. No further condition. Written by wip/gen/psc.py.
-/
import Derived.Test.YtjkgjiofmgapfaaGreatDoorYPsW
set_option maxRecDepth 100000
namespace Go.Proofs.YtjkgjiofmgapfaaGreatDoor
open Go.RowKit Tw
section
open Go.ChangeShapes Go.WideShapes Go.ChangeAt
variable {H:Type} {enc:TypeId×Value→H} {W:World} {b:Nat} {sp:Nat→Bool} {hd:Bool} {v:Value} {d:DataW H} {p:List MemPlace}
theorem progIn_of (h:DataW.Trod enc Tryz.prog W b sp hd 27 v d p) (hv:∃cs,v=.agg cs∧cs.size=3):∃q:Pg,v=.agg #[.slice q.vA q.vn q.vc,.slice q.rA q.rn q.rc,.slice q.cA q.cn q.cc]∧PgIn W (Rows.uptoBulk d) q:=by
 obtain⟨cs,rfl,hs⟩:=hv
 obtain⟨fuel,hf⟩:=h
 obtain⟨c0,c1,c2,rfl⟩:=Joins.array3 hs
 obtain⟨q,hq,hi⟩:=pg_of (y:=(d,p)) (by simpa [Value.cells] using hf)
 unfold Pg.cs at hq
 simp only[List.cons.injEq,and_true] at hq
 obtain⟨rfl,rfl,rfl⟩:=hq
 exact⟨q,rfl,hi⟩
theorem aggP_of {r:Reach} {b:Nat} (h:Value.okWide Tryz.prog W r b 27 v):∃cs,v=.agg cs∧cs.size=3:=by
 obtain⟨cs,rfl,hs⟩:=okWide_struct Tryz.underlying27 h
 have hC:Tryz.prog.cellsOf 27=3:=by kernel_rfl
 rw[hC] at hs
 exact⟨cs,rfl,hs⟩
def VkIn (W:World) (K:Nat) (A:Option Addr) (n c:Nat) (L:List Tm):Prop:=Sl Tm.cs 5 W A n c L∧(∀t∈L,FrOk W K t.x)∧n≤K∧(A=none→c=0)
theorem vecIn_of (h:DataW.Trod enc Tryz.prog W b sp hd 25 v d p) (hv:∃A n c,v=.slice A n c):∃A n c L,v=.slice A n c∧VkIn W (Rows.uptoBulk d) A n c L:=by
 obtain⟨A,n,c,rfl⟩:=hv
 obtain⟨fuel,hf⟩:=h
 have hf2:DataW.trod enc Tryz.prog W b sp hd fuel 25 [.slice A n c]=some (d,p):=by simpa [Value.cells] using hf
 obtain⟨A',n',c',L,e,h1,h2,h3,h4⟩:=slice_of Tm.cs 5 (TmIn W) Tryz.underlying25 (by kernel_rfl) (by omega) Tm.cs_len tm_in hf2
 simp only[List.cons.injEq,Value.slice.injEq,and_true] at e
 obtain⟨rfl,rfl,rfl⟩:=e
 have h5:=vec_bulk hf2 h3
 exact⟨A,n,c,L,rfl,h3,fun t ht=>(h4 t ht).1.ok (h5.2 t ht),h5.1,cap_none Tryz.underlying25 hf2⟩
theorem isIn_of (h:DataW.Trod enc Tryz.prog W b sp hd 50 v d p) (hv:∃A n c,v=.slice A n c):∃A n c L,v=.slice A n c∧Sl ics 1 W A n c L:=by
 obtain⟨A,n,c,rfl⟩:=hv
 obtain⟨fuel,hf⟩:=h
 have hf2:DataW.trod enc Tryz.prog W b sp hd fuel 50 [.slice A n c]=some (d,p):=by simpa [Value.cells] using hf
 obtain⟨A',n',c',L,e,h1,h2,h3,h4⟩:=is_of hf2
 simp only[List.cons.injEq,Value.slice.injEq,and_true] at e
 obtain⟨rfl,rfl,rfl⟩:=e
 exact⟨A,n,c,L,rfl,h3⟩
theorem PgIn.mono {K K':Nat} {q:Pg} (h:PgIn W K q) (hK:K≤K'):PgIn W K' q :=
 ⟨h.vsl,h.v,h.rsl,fun x hx=>⟨(h.r x hx).1,Nat.le_trans (h.r x hx).2 hK⟩,h.csl,h.c,⟨Nat.le_trans h.ns.1 hK,Nat.le_trans h.ns.2.1 hK,Nat.le_trans h.ns.2.2 hK⟩,h.nil⟩
theorem spans_any {d0 d1 d2:DataW H} {q:Pg} {A qA:Option Addr} {n c qn qc:Nat} {L:List Tm} {QL:List Int} (n0:PgIn W (Rows.uptoBulk d0) q) (n1:VkIn W (Rows.uptoBulk d1) A n c L) (n2:Sl ics 1 W qA qn qc QL) (hbk:Rows.uptoBulkAll [d0,d1,d2]≤1048576) (hT:Tab W) :
  Calls Tryz.prog 4 #[.agg #[.slice q.vA q.vn q.vc,.slice q.rA q.rn q.rc,.slice q.cA q.cn q.cc],.slice A n c,.slice qA qn qc] W (Yes W):=by
 have b0:=bulk_mem (d:=d0) (L:=[d0,d1,d2]) (by simp)
 have b1:=bulk_mem (d:=d1) (L:=[d0,d1,d2]) (by simp)
 replace n0:=n0.mono (Nat.le_trans b0 hbk)
 obtain⟨h1,h2,h3,h4⟩:=n1
 have h2':Hid (∀t∈L,FrOk W 1048576 t.x):=zh fun t ht=>(h2 t ht).mono (Nat.le_trans b1 hbk)
 have h3':n≤1048576:=Nat.le_trans h3 (Nat.le_trans b1 hbk)
 cases hg:greatP q with
 | true=>exact spans_0 n0 (Nat.le_refl _) (zh hg) (zh hT)
 | false =>
  cases hr:rightP q with
  | false=>exact spans_1 n0 (Nat.le_refl _) (zh hg) hr (zh hT)
  | true =>
   cases ha:rightB L (q.vn:Int) with
   | false=>exact spans_2 n0 (Nat.le_refl _) h1 h2' h3' (zh hg) hr (zh ha) (zh hT)
   | true =>
    obtain⟨vA,vn,vc,V,rA,rn,rc,R,cA,cn,cc,C⟩:=q
    exact spans_ok n0 (Nat.le_refl _) h1 h2' h3' h4 (zh n2) rfl (zh hg) hr (zh ha) (zh hT)
end
namespace programSpans
open Go.ChangeShapes Go.WideShapes Go.ChangeAt Go.RowKit Tw
theorem contract (H:Type) (enc:TypeId×Value→H) (W:World) (base:Nat) (args:Array Value) (ds gs:List (DataW H)) (before:List MemPlace)
  (hval:∀(j:Nat) t v,Tryz.f4.params[j]?=some t→args[j]?=some v→Value.okWide Tryz.prog W .any base t v)
  (hW:DataW.Whole enc Tryz.prog Tryz.f4.params.toList Rows.programSpansSpec.vars false W args.toList ds gs before) (hk:∀k,(Rows.OpenSpec.upto Rows.programSpansSpec).cond=some k→k H (ds++gs)=true) (hL:laidMetH Tryz.prog Rows.programSpansUptoRow.laid W) :
  Calls Tryz.prog 4 args W fun e W'=>∃v,e=.returned v∧Rows.programSpansSpec.post enc Tryz.prog Tryz.f4 false true false false W args v W':=by
 have hW':=hW
 obtain⟨p,q,hA0,hV,rfl,hfz,hnd⟩:=hW
 have hA:DataW.TrodAll enc Tryz.prog W 0 (fun _=>true) true Tryz.f4.params.toList args.toList ds p:=hA0
 rw[Tryz.params4] at hA hval
 obtain⟨v0,vs0,d0,ds0,p0,q0,hargs,rfl,rfl,h0,r0⟩:=trodAll_cons hA
 obtain⟨v1,vs1,d1,ds1,p1,q1,rfl,rfl,rfl,h1,r1⟩:=trodAll_cons r0
 obtain⟨v2,vs2,d2,ds2,p2,q2,rfl,rfl,rfl,h2,r2⟩:=trodAll_cons r1
 obtain⟨rfl,rfl,rfl⟩:=trodAll_nil r2
 obtain rfl:args=#[v0,v1,v2]:=by cases args;simp_all
 obtain⟨rfl,rfl⟩:=trodVars_none hV
 have lt0:∀x∈p0,x.block<W.heap.size:=by obtain⟨m,hm⟩:=h0;exact DataW.trod_lt m _ _ _ hm
 obtain⟨g0,rfl,n0⟩:=progIn_of h0 (aggP_of (hval 0 27 v0 rfl rfl))
 have lt1:∀x∈p1,x.block<W.heap.size:=by obtain⟨m,hm⟩:=h1;exact DataW.trod_lt m _ _ _ hm
 obtain⟨A1,l1,c1,L1,rfl,n1⟩:=vecIn_of h1 (okWide_slice Tryz.underlying25 (hval 1 25 v1 rfl rfl))
 have lt2:∀x∈p2,x.block<W.heap.size:=by obtain⟨m,hm⟩:=h2;exact DataW.trod_lt m _ _ _ hm
 obtain⟨A2,l2,c2,L2,rfl,n2⟩:=isIn_of h2 (okWide_slice Tryz.underlying50 (hval 2 50 v2 rfl rfl))
 have hbk:Rows.uptoBulkAll [d0,d1,d2]≤1048576:=of_decide_eq_true (hk _ rfl)
 refine(spans_any n0 n1 n2 hbk (tab_of hL)).mono fun e W' ⟨he,bel⟩=>?_
 subst he
 exact⟨_,rfl,_,_,_,[],_,[],hW',trodAll_mk1 (shut_bool Tryz.underlying4 _),(trodAll_cons_mk (Below.trod laidOut (by kernel_rfl) (of_decide_eq_true (by kernel_rfl)) h0 bel lt0) (trodAll_cons_mk (Below.trod laidOut (by kernel_rfl) (of_decide_eq_true (by kernel_rfl)) h1 bel lt1) (trodAll_cons_mk (Below.trod laidOut (by kernel_rfl) (of_decide_eq_true (by kernel_rfl)) h2 bel lt2) trodAll_mk0))),rfl,bel.frame _,fun h=>by cases h⟩
theorem laid_met (os:Os):laidMet Tryz.prog Rows.programSpansUptoRow.laid ((laidWorld os).forCall (fun _ _=>0) ⟨#[],#[.agg #[.slice none 0 0,.slice none 0 0,.slice none 0 0],.slice none 0 0,.slice none 0 0],[]⟩).memory :=
 laidMet_of_run' 8 (by kernel_rfl) (by kernel_rfl)
theorem reads (os:Os) {H:Type} (enc:TypeId×Value→H):∃places,DataW.whole enc Tryz.prog ((laidWorld os).forCall (fun _ _=>0) ⟨#[],#[.agg #[.slice none 0 0,.slice none 0 0,.slice none 0 0],.slice none 0 0,.slice none 0 0],[]⟩).memory Tryz.f4.params.toList Rows.programSpansSpec.vars false (#[.agg #[.slice none 0 0,.slice none 0 0,.slice none 0 0],.slice none 0 0,.slice none 0 0]:Array Value).toList 8=some ([.agg [.nil,.nil,.nil],.nil,.nil],[],places) :=
 ⟨[],by kernel_rfl⟩
theorem lifted (os:Os) (started:os.Started) (H:Type) (enc:TypeId×Value→H) (F:Stop.Interp) :
  ReturnsInHanded {} Tryz.checked os 4 .any ((Rows.OpenSpec.upto Rows.programSpansSpec).preRow enc Tryz.prog Tryz.f4 Rows.programSpansUptoRow.domain false Rows.programSpansUptoRow.laid) (((Rows.OpenSpec.upto Rows.programSpansSpec).at F).post enc Tryz.prog Tryz.f4 false true false false):=by
 obtain⟨places,hx⟩:=reads os enc
 refine returnsInHanded_of_row (C:=Tryz.checked) (s:=Rows.OpenSpec.upto Rows.programSpansSpec) own started (by kernel_rfl) Tryz.func4
  (witness_row_at (enc:=enc) (C:=Tryz.checked) false (laidWorld os) #[.agg #[.slice none 0 0,.slice none 0 0,.slice none 0 0],.slice none 0 0,.slice none 0 0] rfl (by kernel_rfl) (by kernel_rfl) (by kernel_rfl)
   (OpenSpec.preRow_of_cond 8 hx (by kernel_rfl) (fun k hk=>by cases hk;kernel_rfl) (by kernel_rfl) (laid_met os))) ?_
 intro W base args ds gs before hval hW _ hk _ hL _ _
 exact contract H enc W base args ds gs before hval hW hk hL
theorem said:Rows.ProgramSpansUptoSaid :=
 OpenClaim.holds_of_cond 4 Tryz.f4 rfl rfl rfl rfl rfl rfl rfl ⟨rfl,rfl,rfl,rfl,rfl⟩ rfl rfl rfl rfl rfl (by kernel_rfl) Tryz.func4 (by kernel_rfl)
  (of_decide_eq_true (by kernel_rfl)) (by unfold Func.isWrapper;first | (rw[if_pos (by decide +kernel)];kernel_rfl) | (rw[if_neg (by decide +kernel)];exact⟨rfl,rfl⟩))
  (fun os started H enc _ F=>by rw[OpenClaim.pre_eq_preRow];exact lifted os started H enc F)
theorem plain (f : FuncId) (fn : Func) (hf : Tryz.pinned.checked.prog.funcNamed "tripwire/tripwirelaw15.ProgramSpans" = some f) (hfn : Tryz.pinned.checked.prog.funcs[f]? = some fn) :
  false=Tryz.pinned.checked.prog.looks []∧∀(j:Nat) t,fn.params[j]?=some t→Tryz.pinned.checked.prog.wantsStandIn t=false:=by
 obtain rfl : f = 4 := Option.some.inj ((show Tryz.prog.funcNamed "tripwire/tripwirelaw15.ProgramSpans" = some 4 by kernel_rfl).symm.trans hf) |>.symm
 obtain rfl:fn=Tryz.f4:=(Option.some.inj (Tryz.func4.symm.trans hfn)).symm
 refine⟨by kernel_rfl,fun j t ht=>?_⟩
 rw[Tryz.params4] at ht
 have hm:=Array.mem_of_getElem? ht
 simp only[List.mem_toArray,List.mem_cons,List.not_mem_nil,or_false] at hm
 rcases hm with rfl | rfl | rfl
 ·exact(show Tryz.prog.wantsStandIn 27=false by kernel_rfl)
 ·exact(show Tryz.prog.wantsStandIn 25=false by kernel_rfl)
 ·exact(show Tryz.prog.wantsStandIn 50=false by kernel_rfl)
theorem card:Rows.ProgramSpansUptoCardSaid :=
 Claim7.holds_tied_plain_at .later [] _ _ _ _ said (fun _ h=>by cases h) (by kernel_rfl) (fun _ h=>by cases h) programSpansUpto_row_tie rfl ⟨rfl,rfl⟩ (by kernel_rfl) rfl plain (by kernel_rfl)
end programSpans
end Go.Proofs.YtjkgjiofmgapfaaGreatDoor
