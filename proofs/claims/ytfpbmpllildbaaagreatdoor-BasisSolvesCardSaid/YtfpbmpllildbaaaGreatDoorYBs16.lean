import Derived.Test.YtfpbmpllildbaaaGreatDoorYBs15
set_option maxRecDepth 100000
namespace Go.Proofs.YtfpbmpllildbaaaGreatDoor
open Go.RowKit Tw
theorem bsolves_q {w:World} {LA SA X Y:Option Addr} {nl cl ns cs nx cx ny cy:Nat} {CL:List Vc} {OL:List Op8} {LX LY:List Tm} {most:Int} (hl:Sl Vc.cs 1 w LA nl cl CL) (hli:Hid (∀v∈CL,VgIn w v)) (hll:nl≤9223372036854775807) (hm:-9223372036854775808≤most∧most≤9223372036854775807) (hs:Sl Op8.cs 3 w SA ns cs OL) (hsi:Hid (∀o∈OL,OpIn8 w o)) (hsl:ns≤9223372036854775807) (hx:Sl Tm.cs 5 w X nx cx LX) (xi:Hid (∀t∈LX,TmIn w t)) (hlx:nx≤9223372036854775807) (hy:Sl Tm.cs 5 w Y ny cy LY) (yi:Hid (∀t∈LY,TmIn w t)) (hly:ny≤9223372036854775807) (xc:X=none→cx=0) (yc:Y=none→cy=0) (hT:Hid (Tab w)) :
  Calls Tryz.prog 7 #[.slice LA nl cl,.int .i64 most,.slice SA ns cs,.slice X nx cx,.slice Y ny cy] w (Yes w):=by
 cases s0:shortVcs 10 10 2 nl CL
 ·exact bsolves_0 hl hli hll hm hs hsi hsl hx xi hlx hy yi hly (zh s0) hT
 cases s1:shortVc 10 2 ⟨X,nx,cx,LX⟩
 ·exact bsolves_1 hl hli hll hm hs hsi hsl hx xi hlx hy yi hly (zh s0) (zh s1) hT
 cases s2:shortVc 10 2 ⟨Y,ny,cy,LY⟩
 ·exact bsolves_2 hl hli hll hm hs hsi hsl hx xi hlx hy yi hly (zh s0) (zh s1) (zh s2) hT
 cases r:(CL.all fun v=>rightB v.L (nl:Int))
 ·exact bsolves_bad hl hli hll hm hs hsi hsl hx xi hlx hy yi hly (zh s0) (zh s1) (zh s2) (zh r) hT
 ·cases u:(facUp (facT (CL.map fun v=>prs v.L) nl) nl).isSome
  ·exact bsolves_sing hl hli hll hm hs hsi hsl hx xi hlx hy yi hly (zh s0) (zh s1) (zh s2) (zh r) (zh (by rw[fG];exact Option.not_isSome_iff_eq_none.1 (by rw[u];simp))) hT
  ·exact bsolves_ok hl hli hll hm hs hsi hsl hx xi hlx hy yi hly xc yc (zh s0) (zh s1) (zh s2) (zh r) (zh u) hT
theorem bsolves_any {w:World} {l s x y:Value} {n:Int} (hl:CsIn w l) (hm:-9223372036854775808≤n∧n≤9223372036854775807) (hs:OsIn w s) (hx:TsIn w x) (hy:TsIn w y) (hT:Tab w) :
  Calls Tryz.prog 7 #[l,.int .i64 n,s,x,y] w (Yes w):=by
 obtain⟨LA,nl,cl,CL,rfl,l1,l2,l3⟩:=hl;obtain⟨SA,ns,cs,OL,rfl,s1,s2,s3⟩:=hs;obtain⟨X,nx,cx,LX,rfl,x1,x2,x3,x4⟩:=hx;obtain⟨Y,ny,cy,LY,rfl,y1,y2,y3,y4⟩:=hy;exact bsolves_q l1 (zh l2) l3 hm s1 (zh s2) s3 x1 (zh x2) x3 y1 (zh y2) y3 x4 y4 (zh hT)
namespace basisSolves
open Go.ChangeShapes Go.WideShapes Go.ChangeAt
theorem contract (H:Type) (enc:TypeId×Value→H) (W:World) (base:Nat) (args:Array Value) (ds gs:List (DataW H)) (before:List MemPlace)
  (hval:∀(j:Nat) t v,Tryz.f7.params[j]?=some t→args[j]?=some v→Value.okWide Tryz.prog W .any base t v)
  (hW:DataW.Whole enc Tryz.prog Tryz.f7.params.toList Rows.basisSolvesSpec.vars false W args.toList ds gs before) (hL:laidMetH Tryz.prog Rows.basisSolvesRow.laid W) :
  Calls Tryz.prog 7 args W fun e W'=>∃v,e=.returned v∧Rows.basisSolvesSpec.post enc Tryz.prog Tryz.f7 false true false false W args v W':=by
 have hW':=hW;obtain⟨p,q,hA0,hV,rfl,hfz,hnd⟩:=hW;have hA:DataW.TrodAll enc Tryz.prog W 0 (fun _=>true) true Tryz.f7.params.toList args.toList ds p:=hA0;rw[Tryz.params7] at hA hval;obtain⟨v0,vs0,d0,ds0,p0,q0,hargs,rfl,rfl,h0,r0⟩:=trodAll_cons hA;obtain⟨v1,vs1,d1,ds1,p1,q1,rfl,rfl,rfl,h1,r1⟩:=trodAll_cons r0;obtain⟨v2,vs2,d2,ds2,p2,q2,rfl,rfl,rfl,h2,r2⟩:=trodAll_cons r1;obtain⟨v3,vs3,d3,ds3,p3,q3,rfl,rfl,rfl,h3,r3⟩:=trodAll_cons r2;obtain⟨v4,vs4,d4,ds4,p4,q4,rfl,rfl,rfl,h4,r4⟩:=trodAll_cons r3;obtain⟨rfl,rfl,rfl⟩:=trodAll_nil r4;obtain rfl:args=#[v0,v1,v2,v3,v4]:=by cases args;simp_all
 obtain⟨rfl,rfl⟩:=trodVars_none hV;have lt0:∀x∈p0,x.block<W.heap.size:=by obtain⟨m,hm⟩:=h0;exact DataW.trod_lt m _ _ _ hm
 obtain⟨A0,l0,c0,rfl⟩:=okWide_slice Tryz.underlying36 (hval 0 36 v0 rfl rfl);have n0:=cs_of h0 ⟨_,_,_,rfl⟩;obtain⟨a1,rfl,rfl,rfl,w1⟩:=open_int Tryz.underlying3 (hval 1 3 v1 rfl rfl) h1;have lt2:∀x∈p2,x.block<W.heap.size:=by obtain⟨m,hm⟩:=h2;exact DataW.trod_lt m _ _ _ hm
 obtain⟨A2,l2,c2,rfl⟩:=okWide_slice Tryz.underlying56 (hval 2 56 v2 rfl rfl);have n2:=os_of h2 ⟨_,_,_,rfl⟩;have lt3:∀x∈p3,x.block<W.heap.size:=by obtain⟨m,hm⟩:=h3;exact DataW.trod_lt m _ _ _ hm
 obtain⟨A3,l3,c3,rfl⟩:=okWide_slice Tryz.underlying34 (hval 3 34 v3 rfl rfl);have n3:=ts_of h3 ⟨_,_,_,rfl⟩;have lt4:∀x∈p4,x.block<W.heap.size:=by obtain⟨m,hm⟩:=h4;exact DataW.trod_lt m _ _ _ hm
 obtain⟨A4,l4,c4,rfl⟩:=okWide_slice Tryz.underlying34 (hval 4 34 v4 rfl rfl);have n4:=ts_of h4 ⟨_,_,_,rfl⟩;refine(bsolves_any n0 (bounds_i64 w1) n2 n3 n4 (tab_of hL)).mono fun e W' ⟨he,bel⟩=>?_;subst he;exact⟨_,rfl,_,_,_,[],_,[],hW',trodAll_mk1 (shut_bool Tryz.underlying4 _),(trodAll_cons_mk (Below.trod laidOut (by kernel_rfl) (of_decide_eq_true (by kernel_rfl)) h0 bel lt0) (trodAll_cons_mk (shut_int Tryz.underlying3 w1) (trodAll_cons_mk (Below.trod laidOut (by kernel_rfl) (of_decide_eq_true (by kernel_rfl)) h2 bel lt2) (trodAll_cons_mk (Below.trod laidOut (by kernel_rfl) (of_decide_eq_true (by kernel_rfl)) h3 bel lt3) (trodAll_cons_mk (Below.trod laidOut (by kernel_rfl) (of_decide_eq_true (by kernel_rfl)) h4 bel lt4) trodAll_mk0))))),rfl,bel.frame _,fun h=>by cases h⟩
theorem laid_met (os:Os):laidMet Tryz.prog Rows.basisSolvesRow.laid ((laidWorld os).forCall (fun _ _=>0) ⟨#[],#[.slice none 0 0,.int .i64 0,.slice none 0 0,.slice none 0 0,.slice none 0 0],[]⟩).memory :=
 laidMet_of_run' 8 (by kernel_rfl) (by kernel_rfl)
theorem reads (os:Os) {H:Type} (enc:TypeId×Value→H):∃places,DataW.whole enc Tryz.prog ((laidWorld os).forCall (fun _ _=>0) ⟨#[],#[.slice none 0 0,.int .i64 0,.slice none 0 0,.slice none 0 0,.slice none 0 0],[]⟩).memory Tryz.f7.params.toList Rows.basisSolvesSpec.vars false (#[.slice none 0 0,.int .i64 0,.slice none 0 0,.slice none 0 0,.slice none 0 0]:Array Value).toList 8=some ([.nil,.lit (.int .i64 0),.nil,.nil,.nil],[],places) :=
 ⟨[],by kernel_rfl⟩
theorem lifted (os:Os) (started:os.Started) (H:Type) (enc:TypeId×Value→H) (F:Stop.Interp) :
  ReturnsInHanded {} Tryz.checked os 7 .any ((OpenSpec.ofChange Rows.basisSolvesSpec).preRow enc Tryz.prog Tryz.f7 Rows.basisSolvesRow.domain false Rows.basisSolvesRow.laid) (((OpenSpec.ofChange Rows.basisSolvesSpec).at F).post enc Tryz.prog Tryz.f7 false true false false):=by
 obtain⟨places,hx⟩:=reads os enc;refine returnsInHanded_of_row (C:=Tryz.checked) (s:=OpenSpec.ofChange Rows.basisSolvesSpec) own started (by kernel_rfl) Tryz.func7
  (witness_row_at (enc:=enc) (C:=Tryz.checked) false (laidWorld os) #[.slice none 0 0,.int .i64 0,.slice none 0 0,.slice none 0 0,.slice none 0 0] rfl (by kernel_rfl) (by kernel_rfl) (by kernel_rfl)
   (OpenSpec.preRow_of_cond 8 hx (by kernel_rfl) (fun k hk=>by cases hk) (by kernel_rfl) (laid_met os))) ?_
 intro W base args ds gs before hval hW _ _ _ hL _ _;exact contract H enc W base args ds gs before hval hW hL
theorem said:Rows.BasisSolvesSaid :=
 OpenClaim.holds_of_cond 7 Tryz.f7 rfl rfl rfl rfl rfl rfl rfl ⟨rfl,rfl,rfl,rfl,rfl⟩ rfl rfl rfl rfl rfl (by kernel_rfl) Tryz.func7 (by kernel_rfl)
  (of_decide_eq_true (by kernel_rfl)) (by unfold Func.isWrapper;first | (rw[bB (by decide +kernel)];kernel_rfl) | (rw[yA (by decide +kernel)];exact⟨rfl,rfl⟩))
  (fun os started H enc _ F=>by rw[OpenClaim.pre_eq_preRow];exact lifted os started H enc F)
theorem plain (f : FuncId) (fn : Func) (hf : Tryz.pinned.checked.prog.funcNamed "tripwire/tripwirelaw08.BasisSolves" = some f) (hfn : Tryz.pinned.checked.prog.funcs[f]? = some fn) :
  false=Tryz.pinned.checked.prog.looks []∧∀(j:Nat) t,fn.params[j]?=some t→Tryz.pinned.checked.prog.wantsStandIn t=false:=by
 obtain rfl : f = 7 := Option.some.inj ((show Tryz.prog.funcNamed "tripwire/tripwirelaw08.BasisSolves" = some 7 by kernel_rfl).symm.trans hf) |>.symm;obtain rfl:fn=Tryz.f7:=(Option.some.inj (Tryz.func7.symm.trans hfn)).symm;refine⟨by kernel_rfl,fun j t ht=>?_⟩;rw[Tryz.params7] at ht;have hm:=Array.mem_of_getElem? ht;simp only[List.mem_toArray,xB,jF,or_false] at hm
 rcases hm with rfl | rfl | rfl | rfl | rfl
 ·exact(show Tryz.prog.wantsStandIn 36=false by kernel_rfl)
 ·exact(show Tryz.prog.wantsStandIn 3=false by kernel_rfl)
 ·exact(show Tryz.prog.wantsStandIn 56=false by kernel_rfl)
 ·exact(show Tryz.prog.wantsStandIn 34=false by kernel_rfl)
 ·exact(show Tryz.prog.wantsStandIn 34=false by kernel_rfl)
theorem card:Rows.BasisSolvesCardSaid :=
 Claim7.holds_tied_plain_at .later [] _ _ _ _ said (fun _ h=>by cases h) (by kernel_rfl) (fun _ h=>by cases h) basisSolves_row_tie rfl ⟨rfl,rfl⟩ (by kernel_rfl) rfl plain (by kernel_rfl)
end basisSolves
end Go.Proofs.YtfpbmpllildbaaaGreatDoor
