import Derived.Test.YteggjbgbknkoiaaGreatDoorULu9
set_option maxHeartbeats 8000000
set_option maxRecDepth 100000
namespace Go.Proofs.YteggjbgbknkoiaaGreatDoor
open Go.RowKit Tw
section
variable {α:Type} {f:α→List Value} {k:Nat} {t te:TypeId}
theorem Elt.makeO (E:Elt f k t te) (z0:α) (hz0:∀i z,Tryz.prog.info? te=some i→i.zero=some z→z.cells.toList=f z0) {w:World} {o:Oper} {a:Act} {K:Act→World→Prop} {Q:Exit→Act→World→Prop} (l c:Operand) (ho:o.op=.makeSlice t l c)
  (kl kc:IntKind) (n:Nat) (hl:a.eval l=.int kl (n:Int)) (hc:a.eval c=.int kc (n:Int)) (hn:n≤100000000000) (B:Nat) (hB:B≤w.heap.size)
  (hK:∀g w',OwnR w' B te k (.slice (some ⟨g,0,none⟩) n n) n (flat f (List.replicate n z0))→Below w.heap.size w w'→K (a.put o.dst (.slice (some ⟨g,0,none⟩) n n)) w'):o.wp Tryz.prog a w K Q:=by
 obtain⟨i,z,h1,h2,h3,h4,h5,h6⟩:=E.info;have hzc:=hz0 i z h1 h2;have hb:(i.bytes:Int)*(n:Int)≤281474976710656:=by
  have h:=pC h4 hn;have h':((i.bytes*n:Nat):Int)≤281474976710656:=zo;rwa [Int.natCast_mul] at h'
 have hrun:=run_make (P:=Tryz.prog) w t te i z E.ut h1 h2 kl kc n n zo (Int.le_refl _) hb zo;simp only[eF] at hrun
 have hcells:(madeCells z.cells (n*i.size)).toList=flat f (List.replicate n z0):=by
  rw[h3];apply tE
  intro j;by_cases hj:j<n*k
  ·have k0:0<k:=by
    rcases mB k with h | h
    ·subst h;omega
    ·exact h
   have hi:j / k<n:=Nat.div_lt_of_lt_mul (by rw[tA];exact hj);have hm:j % k<k:=gC _ k0;have e:j / k*k+j % k=j:=by rw[tA];exact dC j k
   have h7:=flat_get E.len (List.replicate n z0) (j / k) z0 (by rw[cD,gA hi]) (j % k) hm;rw[e] at h7;rw[h7,←hzc,uD,uD];unfold madeCells
   rw[Array.getElem?_map,Array.getElem?_range,gA hj,cE,h5,getElem!_pos z.cells (j % k) zo,jE zo]
  ·rw[bB (by rw[Array.length_toList,size_madeCells];omega),bB (by rw[flat_len E.len,nC];omega)]
 unfold Oper.wp
 simp[execOp,ho,hl,hc,hrun,Result.andThen]
 refine hK _ _ ⟨by rw[flat_len E.len,nC],.inr ⟨w.heap.size,n,madeCells z.cells (n*i.size),rfl,hB,Bx.new w _ _,cA _,by unfold maxLen;omega,by rw[size_madeCells,h3],?_,h6.made _⟩⟩ (zAi _ _);rw[hcells,eA (by rw[flat_len E.len,nC];exact cA _)]
end
def ordL (L:List Int) (i n:Nat):List Int:=L.take i++List.replicate (n-i) 0
theorem ordL_full {L:List Int} {n:Nat} (h:L.length=n):ordL L n n=L:=by unfold ordL;rw[vE,eA zo];exact mF _
theorem ordL_get {L:List Int} {i n:Nat} (hl:L.length=n) (h:i<n):(ordL L i n)[i]?=some 0:=by
 unfold ordL
 rw[fD (by rw[zA];omega),zA,show i-min i L.length=0 by omega,cD,gA zo]
theorem ordL_set {L:List Int} {i n:Nat} {x:Int} (hl:L.length=n) (h:L[i]?=some x) (hi:i<n):(ordL L i n).set i x=ordL L (i+1) n:=by
 unfold ordL
 rw[vF _ _ (by rw[zA];omega),zA,show i-min i L.length=0 by omega,show n-i=(n-(i+1))+1 by omega,pF,List.set_cons_zero,fG,h,dF];rfl
def OD1 (w:World) (fb n hc ra ca:Nat) (H:Option Addr) (ST:List StepF) (gk:Nat) (x:Value) (wr:World):Prop :=
 ∃i:Nat,i≤n∧n-i=gk∧x=.int .i64 (i:Int)∧OwnR wr w.heap.size 3 1 (.slice (some ⟨ra,0,none⟩) n n) n (flat ics (ordL (ST.map fun s=>s.row) i n))∧OwnR wr w.heap.size 3 1 (.slice (some ⟨ca,0,none⟩) n n) n (flat ics (ordL (ST.map fun s=>s.col) i n))∧
  Bx wr fb #[.bool true,.int .i64 (n:Int),.slice H n hc] 68∧Below w.heap.size w wr
def TellsOrd (w:World) (n:Nat) (ST:List StepF) (e:Ending) (w':World):Prop :=
 ∃ra ca:Nat,e=.returned (.tuple #[.slice (some ⟨ra,0,none⟩) n n,.slice (some ⟨ca,0,none⟩) n n])∧Sl ics 1 w' (some ⟨ra,0,none⟩) n n (ST.map fun s=>s.row)∧Sl ics 1 w' (some ⟨ca,0,none⟩) n n (ST.map fun s=>s.col)∧Below w.heap.size w w'
theorem order_q {w:World} {fb n:Nat} {K:Nat→Nat} {ST:List StepF} (h:LuM w fb n ST K) (hn:n≤12):Calls Tryz.prog 11 #[.pointer (some ⟨fb,0,none⟩)] w (TellsOrd w n ST):=by
 obtain⟨H,hc,LS,hbx,hsl,_,hls⟩:=h;have HFB0:=zh hbx;have HFB:=HFB0;have HSL:=zh hsl;have HLL:=zh hsl.1;have HLS:=zh hls;have HTL:Hid (ST.length=n):=zh (by rw[←hls,cB];exact hsl.1);have pa0:=hbx.cell 0 (.bool true) rfl;have hB:=Below.refl w.heap.size w;clear hbx hsl hls;go_enter Tryz.func11,Tryz.ntmps11
 go_upto_region 3 with(fail)
 clear pa0;go_cut [4,5] (fun p q wx=>∃ra ca:Nat,p=.slice (some ⟨ra,0,none⟩) n n∧q=.slice (some ⟨ca,0,none⟩) n n∧OwnR wx w.heap.size 3 1 (.slice (some ⟨ra,0,none⟩) n n) n (flat ics (List.replicate n 0))∧OwnR wx w.heap.size 3 1 (.slice (some ⟨ca,0,none⟩) n n) n (flat ics (List.replicate n 0))∧ra≠ca∧Bx wx fb #[.bool true,.int .i64 (n:Int),.slice H n hc] 68∧Below w.heap.size w wx)
 case first =>
  have Bz:=zr w;have p90_1:=(HFB.out.below Bz).cell 1 (.int .i64 (n:Int)) rfl;go_wp2_with fail
  (try simp only[vAa,vBa,vC])
  refine zl (zz [0,1,2,3,5,6,7,8] (.two 4 (.take 10 (.only 9 (.take 11 .done))) 9 (.only 4 (.take 10 (.take 11 .done))))) [] (zIa p90_1) ?_;iterate 8 (refine zUa ?_;try simp only[uW,uX,uY,uZ])
  refine wpPlan_two (o:=⟨some 21,_,_,_,_,_⟩) (o':=⟨some 26,_,_,_,_,_⟩) rfl rfl rfl rfl (fun K hK=>?_) (fun K hK=>?_)
  ·refine Elt.makeO elt_ics 0 (fun i z h1 h2=>int_zero h1 h2) (.tmp 20) (.tmp 20) rfl .i64 .i64 n rfl rfl zo w.heap.size (cA _) ?_;intro g6 w6 ho6 j;replace j:=zq (a:=w) j;have hgb6:=OwnR.base ho6 g6 rfl;have hgl6:=OwnR.lt ho6 g6 rfl;replace Bz:=bT Bz j;clear j;clear p90_1;have p90_1:=(HFB.out.below Bz).cell 1 (.int .i64 (n:Int)) rfl;refine hK.out _ _ p90_1 (fun _=>?_);try simp only[uW,uX,uY,uZ]
   clear hK K;refine zUa ?_;try simp only[uW,uX,uY,uZ]
   refine zC 26 rfl rfl (fun K hK=>?_);refine Elt.makeO elt_ics 0 (fun i z h1 h2=>int_zero h1 h2) (.tmp 25) (.tmp 25) rfl .i64 .i64 n rfl rfl zo w6.heap.size (cA _) ?_;intro g7 w7 ho7 j;replace j:=zq (a:=w6) j;have hgb7:=OwnR.base ho7 g7 rfl;have hgl7:=OwnR.lt ho7 g7 rfl;replace ho6:=ho6.below j;replace Bz:=bT Bz j;clear j;clear p90_1;have p90_1:=(HFB.out.below Bz).cell 1 (.int .i64 (n:Int)) rfl;refine hK.out _ _ p90_1 (fun _=>?_);try simp only[uW,uX,uY,uZ]
   clear hK K;refine zUa ?_;try simp only[uW,uX,uY,uZ]
   refine zAa ?_;go_wp2_with fail
   go_meet
   case rel=>exact⟨g6,g7,rfl,rfl,(OwnR.below ho6).rebase (zi hB.size),(OwnR.below ho7).rebase (zi hB.size),zo,HFB.out.below (by go_grown),bT (bT hB Bz)⟩
  ·refine Elt.makeO elt_ics 0 (fun i z h1 h2=>int_zero h1 h2) (.tmp 25) (.tmp 25) rfl .i64 .i64 n rfl rfl zo w.heap.size (cA _) ?_;intro g6 w6 ho6 j;replace j:=zq (a:=w) j;have hgb6:=OwnR.base ho6 g6 rfl;have hgl6:=OwnR.lt ho6 g6 rfl;replace Bz:=bT Bz j;clear j;clear p90_1;have p90_1:=(HFB.out.below Bz).cell 1 (.int .i64 (n:Int)) rfl;refine hK.out _ _ p90_1 (fun _=>?_);try simp only[uW,uX,uY,uZ]
   clear hK K;refine zC 21 rfl rfl (fun K hK=>?_);refine Elt.makeO elt_ics 0 (fun i z h1 h2=>int_zero h1 h2) (.tmp 20) (.tmp 20) rfl .i64 .i64 n rfl rfl zo w6.heap.size (cA _) ?_;intro g7 w7 ho7 j;replace j:=zq (a:=w6) j;have hgb7:=OwnR.base ho7 g7 rfl;have hgl7:=OwnR.lt ho7 g7 rfl;replace ho6:=ho6.below j;replace Bz:=bT Bz j;clear j;clear p90_1;have p90_1:=(HFB.out.below Bz).cell 1 (.int .i64 (n:Int)) rfl;refine hK.out _ _ p90_1 (fun _=>?_);try simp only[uW,uX,uY,uZ]
   clear hK K;iterate 2 (refine zUa ?_;try simp only[uW,uX,uY,uZ])
   refine zAa ?_;go_wp2_with fail
   go_meet
   case rel=>exact⟨g7,g6,rfl,rfl,(OwnR.below ho7).rebase (zi hB.size),(OwnR.below ho6).rebase (zi hB.size),zo,HFB.out.below (by go_grown),bT (bT hB Bz)⟩
 case rest =>
  obtain⟨ra,ca,rfl,rfl,hr,hc2,hne,hfb,hB2⟩:=hcut;obtain⟨wx,rfl,hB3⟩:∃wx,wx=_∧Below w.heap.size w wx:=⟨_,rfl,hB2⟩;have HR0:=zh hr;have HC0:=zh hc2;have HF1:=zh hfb;have HB1:=zh hB3;clear hB hB2 hB3 hr hc2 hfb HFB;have p90_2:=HF1.out.cell 2 (.slice H n hc) rfl;go_wp2_with fail
  go_loopg [32] n (fun gk x wr=>OD1 w fb n hc ra ca H ST gk x wr)
  case atStart=>exact⟨0,nA _,rfl,rfl,HR0.out.below (by go_grown),HC0.out.below (by go_grown),HF1.out.below (by go_grown),bT HB1.out⟩
  case round =>
   clear HR0 HC0 HF1 HB1 p90_2;obtain⟨i,hi,hgk,rfl,hr,hc2,hfb,hB⟩:=hrel;have HGK:=zh hgk;have HFB:=zh hfb;clear hgk hfb;by_cases hlt:i<n
   ·obtain⟨hb,ho,rfl,hel⟩:=HSL.out.at StM.cs_len zo zo;obtain⟨s,hs⟩:∃s,LS[i]?=some s:=⟨LS[i]'(by rw[HLL.out];exact hlt),aA _⟩;have hnd:=hel i s hs;have hsT:ST[i]?=some s.f:=by rw[←HLS.out,rA,hs];rfl
    have hlr:(ST.map fun s=>s.row).length=n:=by rw[cB];exact HTL.out
    have hlc:(ST.map fun s=>s.col).length=n:=by rw[cB];exact HTL.out
    have HR:=zh (ordL_get hlr hlt);have HC:=zh (ordL_get hlc hlt);have HO1:=zh (ordL_set (x:=s.row) hlr (by rw[rA,hsT];rfl) hlt);have HO2:=zh (ordL_set (x:=s.col) hlc (by rw[rA,hsT];rfl) hlt);have i1:(i:Int)<(n:Int):=zo;have i2:(0:Int)≤(i:Int):=zo;clear hel hs hsT hlr hlc;have Bz:=zr wr;obtain⟨pA0,pA1,pA2,pA3,pA4,pA5,pA6,pA7,-⟩:=(hnd.below (bT hB Bz)).ez;go_upto_region 7 with(fail)
    obtain⟨V11,hW,x0,hN⟩:=zAe wr #[.int .i64 s.row,.int .i64 s.col,.bool s.pv.s,.slice s.pv.A s.pv.l s.pv.c,.bool s.pv.s',.slice s.pv.A' s.pv.l' s.pv.c',.slice s.R.A s.R.n s.R.c,.slice s.T.A s.T.n s.T.c] 74;rw[←hW];clear hW;obtain⟨v0,hb0⟩:=ze wr.heap.size;rw[←hb0] at x0 ⊢;have ow_0:w.heap.size≤v0:=zi (zw hB Bz);have nv0_r:=OwnR.off' (b:=v0) hr zo;have nv0_c:=OwnR.off' (b:=v0) hc2 zo;replace hc2:=hc2.below hN;replace hr:=hr.below hN;replace hB:=bT (bT hB Bz) hN;replace HFB:=zh ((HFB.out.below Bz).below hN);have HX0:=zh x0;clear x0 hN Bz hb0;have Bz:=zr V11;clear pA0 pA1 pA2 pA3 pA4 pA5 pA6 pA7;obtain⟨pa0,pa1,-⟩:=(zxb HX0 Bz).cz;have pB0:=int_cell hr HR.out;have fB0:=hr.frozen i;have y51:=hr.blk.1;have pC0:=int_cell hc2 HC.out;have fC0:=hc2.frozen i;have y52:=hc2.blk.1;go_wp2_with fail
    (try simp only[vAa,vBa,vC])
    refine zl (.pure 0 (.pure 1 (.pure 2 (.pure 3 (.pure 4 (.take 5 (.pure 6 (.take 7 (.pure 8 (.only 9 (.pure 10 (.only 11 .done)))))))))))) [11] (zsa pa0 (zIa pa1)) ?_;iterate 9 ((first|refine zV ?_|refine zUa ?_);try simp only[uW,uX,uY,uZ])
    refine wpPlan_call (o:=⟨none,_,_,_,_,_⟩) rfl rfl (fun K hK=>?_);go_simp
    obtain⟨V12,hV,hx2,hg2⟩:=int_store hr HR.out s.row;rw[←hV];clear hV;have hbg:=(OwnR.base hr ra rfl);replace hB:=(bT hB Bz).trans (hg2.below (zi (zw hB Bz)) (rowB hbg));replace hc2:=OwnR.grown hc2 hg2 (.inr fun e=>hne (Option.some.inj e).symm);replace HFB:=zh (HFB0.out.below hB);replace HX0:=zh (hg2.bx (zxb HX0 Bz) nv0_r);replace hr:=hx2;clear hx2 hg2 Bz hbg;have Bz:=zr V12;clear pa0 pa1 pB0 fB0 y51 pC0 fC0 y52;obtain⟨pa0,pa1,-⟩:=(zxb HX0 Bz).cz;have pC0:=int_cell hc2 HC.out;have fC0:=hc2.frozen i;have y52:=hc2.blk.1;refine hK.out _ _ ⟨pa0,pa1⟩ (fun _=>?_);try simp only[Act.put,uX,uY,uZ]
    clear hK K;refine zV ?_;try simp only[uW,uX,uY,uZ]
    refine zAc (o:=⟨none,_,_,_,_,_⟩) rfl rfl zd (fun K hK=>?_);go_simp
    refine hK.out _ _ ?_;try simp only[Act.put,uX,uY,uZ]
    clear hK K;obtain⟨V13,hV,hx2,hg2⟩:=int_store hc2 HC.out s.col;rw[←hV];clear hV;have hbg:=(OwnR.base hc2 ca rfl);replace hB:=(bT hB Bz).trans (hg2.below (zi (zw hB Bz)) (rowB hbg));replace hr:=OwnR.grown hr hg2 (.inr fun e=>hne (Option.some.inj e));replace HFB:=zh (HFB0.out.below hB);replace HX0:=zh (hg2.bx (zxb HX0 Bz) nv0_c);replace hc2:=hx2;clear hx2 hg2 Bz hbg;have Bz:=zr V13;clear pa0 pa1 pC0 fC0 y52;obtain⟨pa0,pa1,-⟩:=(zxb HX0 Bz).cz;refine zAa ?_;go_wp2_with fail
    go_roundg (n-(i+1))
    case measure=>have:=HGK.out;omega
    case rel=>exact⟨i+1,zo,rfl,by go_num,HO1.out ▸ OwnR.below hr,HO2.out ▸ OwnR.below hc2,HFB.out.below (by go_grown),bT (bT hB Bz)⟩
   ·obtain rfl:n=i:=zo;have i1:¬(n:Int)<(n:Int):=zo;rw[ordL_full (by rw[cB];exact HTL.out)] at hr hc2;have HR:=zh (hr.sl' elt_ics (by rw[cB];exact HTL.out));have HC:=zh (hc2.sl' elt_ics (by rw[cB];exact HTL.out));go_wp2_with fail
    go_ret2
    exact⟨ra,ca,rfl,HR.out,HC.out,hB⟩
theorem size_q {w:World} {fb n:Nat} {K:Nat→Nat} {ST:List StepF} (h:LuM w fb n ST K):Calls Tryz.prog 10 #[.pointer (some ⟨fb,0,none⟩)] w fun e w'=>e=.returned (.int .i64 (n:Int))∧Below w.heap.size w w':=by
 obtain⟨H,hc,LS,hbx,_,_,_⟩:=h;have pa1:=hbx.cell 1 (.int .i64 (n:Int)) rfl;clear hbx;go_enter Tryz.func10,Tryz.ntmps10
 go_wp2_with fail
 go_ret
 exact⟨rfl,Below.refl _ _⟩
def LuNo (w:World) (p:Option Addr):Prop:=p=none∨∃fb,p=some ⟨fb,0,none⟩∧Bx w fb #[.bool false,.int .i64 0,.slice none 0 0] 68
theorem LuNo.below {w w':World} {p:Option Addr} (h:LuNo w p) (hb:Below w.heap.size w w':=by go_grown):LuNo w' p:=by
 rcases h with h | ⟨fb,h,h2⟩
 ·exact .inl h
 ·exact .inr ⟨fb,h,h2.below hb⟩
end Go.Proofs.YteggjbgbknkoiaaGreatDoor
