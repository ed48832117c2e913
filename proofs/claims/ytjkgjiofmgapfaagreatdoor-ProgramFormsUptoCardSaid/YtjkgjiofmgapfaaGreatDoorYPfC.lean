/-
  ProgramForms: for any program and any point, together of bulk at most 1048576, a point within the program's bounds and rows is a point of the form at the same cost, and of a point that breaks one the form's bounds are broken; the law answers true. No further condition. Written by wip/gen/pfc.py.
-/
import Derived.Test.YtjkgjiofmgapfaaGreatDoorYPfW
set_option maxRecDepth 100000
namespace Go.Proofs.YtjkgjiofmgapfaaGreatDoor
open Go.RowKit Tw
section
open Go.ChangeShapes Go.WideShapes Go.ChangeAt
variable {H:Type} {enc:TypeId×Value→H} {W:World} {b:Nat} {sp:Nat→Bool} {hd:Bool} {v:Value} {d:DataW H} {p:List MemPlace}
theorem PgIn.mono {K K':Nat} {q:Pg} (h:PgIn W K q) (hK:K≤K'):PgIn W K' q :=
 ⟨h.vsl,h.v,h.rsl,fun x hx=>⟨(h.r x hx).1,Nat.le_trans (h.r x hx).2 hK⟩,h.csl,h.c,⟨Nat.le_trans h.ns.1 hK,Nat.le_trans h.ns.2.1 hK,Nat.le_trans h.ns.2.2 hK⟩,h.nil⟩
theorem progIn2_of (h:DataW.Trod enc Tryz.prog W b sp hd 27 v d p) (hv:∃cs,v=.agg cs∧cs.size=3):∃q:Pg,v=.agg #[.slice q.vA q.vn q.vc,.slice q.rA q.rn q.rc,.slice q.cA q.cn q.cc]∧∀K,K≤2000000→Rows.uptoBulk d≤K→PgIn W K q∧PgOk W K q:=by
 obtain⟨cs,rfl,hs⟩:=hv;obtain⟨fuel,hf⟩:=h;obtain⟨c0,c1,c2,rfl⟩:=Joins.array3 hs;have hf2:DataW.trod enc Tryz.prog W b sp hd fuel 27 [c0,c1,c2]=some (d,p):=by simpa [Value.cells] using hf
 obtain⟨q,hq,hi⟩:=pg_of hf2;rw[hq] at hf2;unfold Pg.cs at hq
 simp only[List.cons.injEq,and_true] at hq
 obtain⟨rfl,rfl,rfl⟩:=hq;exact⟨q,rfl,fun K hK hb=>⟨hi.mono hb,pgok_of hf2 (hi.mono hb) hK hb⟩⟩
theorem aggP_of {r:Reach} {b:Nat} (h:Value.okWide Tryz.prog W r b 27 v):∃cs,v=.agg cs∧cs.size=3:=by
 obtain⟨cs,rfl,hs⟩:=okWide_struct Tryz.underlying27 h;have hC:Tryz.prog.cellsOf 27=3:=by kernel_rfl
 rw[hC] at hs;exact⟨cs,rfl,hs⟩
def RkIn (W:World) (K:Nat) (A:Option Addr) (n c:Nat) (L:List Fr):Prop:=Sl Fr.cs 4 W A n c L∧∀x∈L,FrOk W K x
theorem ratsIn_of (h:DataW.Trod enc Tryz.prog W b sp hd 37 v d p) (hv:∃A n c,v=.slice A n c):∃A n c L,v=.slice A n c∧RkIn W (Rows.uptoBulk d) A n c L:=by
 obtain⟨A,n,c,rfl⟩:=hv;obtain⟨fuel,hf⟩:=h;have hf2:DataW.trod enc Tryz.prog W b sp hd fuel 37 [.slice A n c]=some (d,p):=by simpa [Value.cells] using hf
 obtain⟨A',n',c',L,e,h1,h2,h3,h4⟩:=frs_of hf2;simp only[List.cons.injEq,Value.slice.injEq,and_true] at e
 obtain⟨rfl,rfl,rfl⟩:=e;have h5:=slice_bulk Tryz.underlying37 (by kernel_rfl) Fr.cs_len hf2 h3;refine⟨A,n,c,L,rfl,h3,fun x hx=>?_⟩;obtain⟨fl,z,h6,h7⟩:=h5.2 x hx;have h8:=rat_bulk h6;exact(h4 x hx).ok ⟨Nat.le_trans h8.1 h7,Nat.le_trans h8.2 h7⟩
theorem forms_any {d0 d1:DataW H} {q:Pg} {A:Option Addr} {n c:Nat} {L:List Fr} (n0:∀K,K≤2000000→Rows.uptoBulk d0≤K→PgIn W K q∧PgOk W K q) (n1:RkIn W (Rows.uptoBulk d1) A n c L) (hbk:Rows.uptoBulkAll [d0,d1]≤1048576) (hT:Tab W) :
  Calls Tryz.prog 5 #[.agg #[.slice q.vA q.vn q.vc,.slice q.rA q.rn q.rc,.slice q.cA q.cn q.cc],.slice A n c] W (Yes W):=by
 have b0:=bulk_mem (d:=d0) (L:=[d0,d1]) (by simp);have b1:=bulk_mem (d:=d1) (L:=[d0,d1]) (by simp);obtain⟨i0,o0⟩:=n0 1048576 zo (Nat.le_trans b0 hbk);obtain⟨h1,h2⟩:=n1;have h2':Hid (∀x∈L,FrOk W 1048576 x):=zh fun x hx=>(h2 x hx).mono (Nat.le_trans b1 hbk);cases hr:rightP q with
 | false=>exact forms_1 (zh o0) (Nat.le_refl _) hr (zh hT)
 | true =>
  cases hg:greatP q with
  | true=>exact forms_2 (zh o0) (Nat.le_refl _) i0 hr (zh hg) (zh hT)
  | false =>
   cases h3:((n:Int) !=(q.vn:Int)) with
   | true=>exact forms_3 (zh o0) (Nat.le_refl _) i0 hr (zh hg) h3 (zh hT)
   | false =>
    obtain rfl:n=q.vn:=by
     have h4:(n:Int)=(q.vn:Int):=by simpa using h3
     omega
    obtain⟨vA,vn,vc,V,rA,rn,rc,R,cA,cn,cc,C⟩:=q;exact forms_ok i0 (Nat.le_refl _) h1 h2' hr (zh hg) rfl (zh hT)
end
namespace programForms
open Go.ChangeShapes Go.WideShapes Go.ChangeAt Go.RowKit Tw
theorem contract (H:Type) (enc:TypeId×Value→H) (W:World) (base:Nat) (args:Array Value) (ds gs:List (DataW H)) (before:List MemPlace)
  (hval:∀(j:Nat) t v,Tryz.f5.params[j]?=some t→args[j]?=some v→Value.okWide Tryz.prog W .any base t v)
  (hW:DataW.Whole enc Tryz.prog Tryz.f5.params.toList Rows.programFormsSpec.vars false W args.toList ds gs before) (hk:∀k,(Rows.OpenSpec.upto Rows.programFormsSpec).cond=some k→k H (ds++gs)=true) (hL:laidMetH Tryz.prog Rows.programFormsUptoRow.laid W) :
  Calls Tryz.prog 5 args W fun e W'=>∃v,e=.returned v∧Rows.programFormsSpec.post enc Tryz.prog Tryz.f5 false true false false W args v W':=by
 have hW':=hW;obtain⟨p,q,hA0,hV,rfl,hfz,hnd⟩:=hW;have hA:DataW.TrodAll enc Tryz.prog W 0 (fun _=>true) true Tryz.f5.params.toList args.toList ds p:=hA0;rw[Tryz.params5] at hA hval;obtain⟨v0,vs0,d0,ds0,p0,q0,hargs,rfl,rfl,h0,r0⟩:=trodAll_cons hA;obtain⟨v1,vs1,d1,ds1,p1,q1,rfl,rfl,rfl,h1,r1⟩:=trodAll_cons r0;obtain⟨rfl,rfl,rfl⟩:=trodAll_nil r1;obtain rfl:args=#[v0,v1]:=by cases args;simp_all
 obtain⟨rfl,rfl⟩:=trodVars_none hV;have lt0:∀x∈p0,x.block<W.heap.size:=by obtain⟨m,hm⟩:=h0;exact DataW.trod_lt m _ _ _ hm
 obtain⟨g0,rfl,n0⟩:=progIn2_of h0 (aggP_of (hval 0 27 v0 rfl rfl));have lt1:∀x∈p1,x.block<W.heap.size:=by obtain⟨m,hm⟩:=h1;exact DataW.trod_lt m _ _ _ hm
 obtain⟨A1,l1,c1,L1,rfl,n1⟩:=ratsIn_of h1 (okWide_slice Tryz.underlying37 (hval 1 37 v1 rfl rfl));have hbk:Rows.uptoBulkAll [d0,d1]≤1048576:=of_decide_eq_true (hk _ rfl);refine(forms_any n0 n1 hbk (tab_of hL)).mono fun e W' ⟨he,bel⟩=>?_;subst he;exact⟨_,rfl,_,_,_,[],_,[],hW',trodAll_mk1 (shut_bool Tryz.underlying4 _),(trodAll_cons_mk (Below.trod laidOut (by kernel_rfl) (of_decide_eq_true (by kernel_rfl)) h0 bel lt0) (trodAll_cons_mk (Below.trod laidOut (by kernel_rfl) (of_decide_eq_true (by kernel_rfl)) h1 bel lt1) trodAll_mk0)),rfl,bel.frame _,fun h=>by cases h⟩
theorem laid_met (os:Os):laidMet Tryz.prog Rows.programFormsUptoRow.laid ((laidWorld os).forCall (fun _ _=>0) ⟨#[],#[.agg #[.slice none 0 0,.slice none 0 0,.slice none 0 0],.slice none 0 0],[]⟩).memory :=
 laidMet_of_run' 8 (by kernel_rfl) (by kernel_rfl)
theorem reads (os:Os) {H:Type} (enc:TypeId×Value→H):∃places,DataW.whole enc Tryz.prog ((laidWorld os).forCall (fun _ _=>0) ⟨#[],#[.agg #[.slice none 0 0,.slice none 0 0,.slice none 0 0],.slice none 0 0],[]⟩).memory Tryz.f5.params.toList Rows.programFormsSpec.vars false (#[.agg #[.slice none 0 0,.slice none 0 0,.slice none 0 0],.slice none 0 0]:Array Value).toList 8=some ([.agg [.nil,.nil,.nil],.nil],[],places) :=
 ⟨[],by kernel_rfl⟩
theorem lifted (os:Os) (started:os.Started) (H:Type) (enc:TypeId×Value→H) (F:Stop.Interp) :
  ReturnsInHanded {} Tryz.checked os 5 .any ((Rows.OpenSpec.upto Rows.programFormsSpec).preRow enc Tryz.prog Tryz.f5 Rows.programFormsUptoRow.domain false Rows.programFormsUptoRow.laid) (((Rows.OpenSpec.upto Rows.programFormsSpec).at F).post enc Tryz.prog Tryz.f5 false true false false):=by
 obtain⟨places,hx⟩:=reads os enc;refine returnsInHanded_of_row (C:=Tryz.checked) (s:=Rows.OpenSpec.upto Rows.programFormsSpec) own started (by kernel_rfl) Tryz.func5
  (witness_row_at (enc:=enc) (C:=Tryz.checked) false (laidWorld os) #[.agg #[.slice none 0 0,.slice none 0 0,.slice none 0 0],.slice none 0 0] rfl (by kernel_rfl) (by kernel_rfl) (by kernel_rfl)
   (OpenSpec.preRow_of_cond 8 hx (by kernel_rfl) (fun k hk=>by cases hk;kernel_rfl) (by kernel_rfl) (laid_met os))) ?_
 intro W base args ds gs before hval hW _ hk _ hL _ _;exact contract H enc W base args ds gs before hval hW hk hL
theorem said:Rows.ProgramFormsUptoSaid :=
 OpenClaim.holds_of_cond 5 Tryz.f5 rfl rfl rfl rfl rfl rfl rfl ⟨rfl,rfl,rfl,rfl,rfl⟩ rfl rfl rfl rfl rfl (by kernel_rfl) Tryz.func5 (by kernel_rfl)
  (of_decide_eq_true (by kernel_rfl)) (by unfold Func.isWrapper;first | (rw[if_pos (by decide +kernel)];kernel_rfl) | (rw[if_neg (by decide +kernel)];exact⟨rfl,rfl⟩))
  (fun os started H enc _ F=>by rw[OpenClaim.pre_eq_preRow];exact lifted os started H enc F)
theorem plain (f : FuncId) (fn : Func) (hf : Tryz.pinned.checked.prog.funcNamed "tripwire/tripwirelaw15.ProgramForms" = some f) (hfn : Tryz.pinned.checked.prog.funcs[f]? = some fn) :
  false=Tryz.pinned.checked.prog.looks []∧∀(j:Nat) t,fn.params[j]?=some t→Tryz.pinned.checked.prog.wantsStandIn t=false:=by
 obtain rfl : f = 5 := Option.some.inj ((show Tryz.prog.funcNamed "tripwire/tripwirelaw15.ProgramForms" = some 5 by kernel_rfl).symm.trans hf) |>.symm;obtain rfl:fn=Tryz.f5:=(Option.some.inj (Tryz.func5.symm.trans hfn)).symm;refine⟨by kernel_rfl,fun j t ht=>?_⟩;rw[Tryz.params5] at ht;have hm:=Array.mem_of_getElem? ht;simp only[List.mem_toArray,List.mem_cons,List.not_mem_nil,or_false] at hm
 rcases hm with rfl | rfl
 ·exact(show Tryz.prog.wantsStandIn 27=false by kernel_rfl)
 ·exact(show Tryz.prog.wantsStandIn 37=false by kernel_rfl)
theorem card:Rows.ProgramFormsUptoCardSaid :=
 Claim7.holds_tied_plain_at .later [] _ _ _ _ said (fun _ h=>by cases h) (by kernel_rfl) (fun _ h=>by cases h) programFormsUpto_row_tie rfl ⟨rfl,rfl⟩ (by kernel_rfl) rfl plain (by kernel_rfl)
end programForms
end Go.Proofs.YtjkgjiofmgapfaaGreatDoor
