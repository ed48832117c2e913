import Derived.Test.YteggjbgbknkoiaaGreatDoorYBsO
set_option maxHeartbeats 8000000
set_option maxRecDepth 100000
namespace Go.Proofs.YteggjbgbknkoiaaGreatDoor
open Go.RowKit Tw
variable {A X:Option Addr} {M bb cv g:Nat} {Z:List (Int×Rat)} {W cur:World}
theorem Sl.cap {α:Type} {f:α→List Value} {k:Nat} {w:World} {n c c':Nat} {L:List α} (h:Sl f k w A n c L):Sl f k w A n c' L:=by
 obtain⟨h1,h2,A',c2,e,h3,h4⟩:=h;cases e;exact⟨h1,h2,A,c',rfl,h3,h4⟩
theorem CN.tight {w:World} {v:Vc} {M':Nat} (h:CN w v M) (hs:∀y∈prs v.L,sz y.2+1≤M'):CN w v M' :=
 ⟨h.1,fun t ht=>⟨(h.2.1 t ht).1,(h.2.1 t ht).2.1,hs _ (wD (f:=fun t:Tm=>(t.at_,t.x.q)) ht)⟩,h.2.2⟩
theorem set_cm {w:World} {B n r:Nat} {CL:List Vc} {C:List (List (Int×Rat))} {X:Vc} (ho:OwnR w B 35 1 (.slice (some ⟨g,0,none⟩) n cv) n (flat Vc.cs (CL.set r X))) (hcl:∀v∈CL,CN w v 4) (hC:CL.map (fun v=>prs v.L)=C) (hx:CN w X M) (hZ:prs X.L=Z) (hs:∀y∈Z,sz y.2+1≤4):CM w (some ⟨g,0,none⟩) n cv (C.set r Z) 4:=by
 subst hC hZ;refine⟨CL.set r X,ho.sl' elt_vcs (ho.eltn elt_vcs zo),fun v hv=>?_,by rw[List.map_set]⟩;rcases qC hv with h | rfl
 ·exact hcl v h
 ·exact hx.tight hs
theorem right_set {C:List (List (Int×Rat))} {n r:Nat} (h:rightC (n:Int) C=true) (hN:Nrm Z) (hin:∀t∈Z,0≤t.1∧t.1<(n:Int)):rightC (n:Int) (C.set r Z)=true:=rightC_iff.2 fun x hx=>by
 rcases qC hx with h1 | rfl
 ·exact rightC_iff.1 h x h1
 ·exact⟨hN,hin⟩
theorem right_lens {C:List (List (Int×Rat))} {n:Nat} (h:rightC (n:Int) C=true) (hn:n≤14):∀x∈C,x.length≤1000:=fun x hx=>wA (nrm_in_len (rightC_iff.1 h x hx).1 (rightC_iff.1 h x hx).2) zo
theorem exchange_qE {w:World} {n cx nn r:Nat} {P:List (Int×Rat)} (hx:GV w X n cx P M) (hM:M≤17000000000) (hn:n≤900) (hP:∀t∈P,0≤t.1∧t.1<(nn:Int)) (hr:r<nn) (hT:Hid (Tab w)) :
  Calls Tryz.prog 76 #[.int .i64 (r:Int),.slice X n cx] w fun e w'=>∃t:EtM,e=.returned (.agg #[.func (.func 111) #[] #[.pointer (some ⟨t.rb,0,none⟩),.pointer (some ⟨t.pb,0,none⟩),.pointer (some ⟨t.sb,0,none⟩)],.func (.func 112) #[] #[.pointer (some ⟨t.sb,0,none⟩),.pointer (some ⟨t.rb,0,none⟩),.pointer (some ⟨t.pb,0,none⟩)]])∧EtOk w' nn (M+1+2) t∧t.f=etaOf (r:Int) P∧w.heap.size≤t.sb∧Below w.heap.size w w':=exchange_q hx hM hn hP hr hT
theorem Bx.setP {w:World} {b i:Nat} {cs:Array Value} {t:TypeId} (h:Bx w b cs t) (v:Value) {cs':Array Value} (e:cs.setIfInBounds i v=cs'):Bx (w.setCell ⟨b,i,none⟩ v) b cs' t:=by
 subst e;exact h.set i v
theorem set_size {a b:Addr} {u v:Value} (h:W=(cur.setCell a u).setCell b v):cur.heap.size≤W.heap.size:=by rw[h];simp
theorem set_size3 {a b c:Addr} {u v x:Value} (h:W=((cur.setCell a u).setCell b v).setCell c x):cur.heap.size≤W.heap.size:=by rw[h];simp
theorem BsAt.eta {w:World} {n most K c hc fb c2 r:Nat} {C0 C:List (List (Int×Rat))} {E:List EtM} {H H2:Option Addr} {B:Nat} {t:EtM} {L:List Vc} (h:BsAt w bb n most 4 4 K C0 C E A H c hc fb) (hb:Below w.heap.size w cur)
  (_:OwnR cur B 35 1 (.slice (some ⟨g,0,none⟩) n cv) n (flat Vc.cs L)) (hcm:CM cur (some ⟨g,0,none⟩) n cv (C.set r Z) 4) (hoe:OwnR cur w.heap.size 112 2 (.slice H2 (E.length+1) c2) (E.length+1) (flat EtM.cs (E++[t]))) (ht:EtOk cur n K t) (hch:Chain n C0 ((E++[t]).map EtM.f) (C.set r Z)) (hg:w.heap.size≤g)
  (hW:W=(cur.setCell ⟨bb,0,none⟩ (.slice (some ⟨g,0,none⟩) n cv)).setCell ⟨bb,4,none⟩ (.slice H2 (E.length+1) c2)):BsAt W bb n most 4 4 K C0 (C.set r Z) (E++[t]) (some ⟨g,0,none⟩) H2 cv c2 fb∧Ch w W bb:=by
 have hx:Bx cur bb (bsC A n c most fb H E.length hc) 108:=h.bx.below hb;have hx1:Bx (cur.setCell ⟨bb,0,none⟩ (.slice (some ⟨g,0,none⟩) n cv)) bb (bsC (some ⟨g,0,none⟩) n cv most fb H E.length hc) 108:=hx.setP _ rfl;have hx2:Bx W bb (bsC (some ⟨g,0,none⟩) n cv most fb H2 (E.length+1) c2) 108:=by rw[hW];exact hx1.setP _ rfl
 have c1:Ch cur W bb:=by rw[hW];exact(Ch.set hx (i:=0) rfl nofun _).trans (Ch.set hx1 (i:=4) rfl nofun _)
 have hlt:=h.bx.lt;refine⟨⟨by rw[jC];exact hx2,hcm.ch hx c1 (fun a ha=>by obtain rfl:=Option.some.inj ha;show g≠bb;omega),(h.lu.below hb).ch hx c1,?_,fun e he=>?_,hch,?_⟩,(Ch.of_below hb).trans c1⟩
 ·rw[jC];exact(hoe.sl' elt_eta (by rw[jC];rfl)).ch EtM.cs_len zo hx c1 no_et
 ·rcases nC.1 he with h9 | h9
  ·exact((h.ok e h9).below hb).ch hx c1
  ·obtain rfl:=gC.1 h9;exact ht.ch hx c1
 ·obtain⟨_,_,e9,_,_,h9,_⟩:=hoe.slice;cases e9;rw[jC];exact h9
theorem BsAt.fac {w:World} {n most K c hc fb fb' r:Nat} {C0 C:List (List (Int×Rat))} {E:List EtM} {H:Option Addr} {B:Nat} {L:List Vc} (h:BsAt w bb n most 4 4 K C0 C E A H c hc fb) (hb:Below w.heap.size w cur)
  (_:OwnR cur B 35 1 (.slice (some ⟨g,0,none⟩) n cv) n (flat Vc.cs L)) (hcm:CM cur (some ⟨g,0,none⟩) n cv (C.set r Z) 4) (hlu:LuAt cur fb' n 4 (C.set r Z)) (hg:w.heap.size≤g)
  (hW:W=((cur.setCell ⟨bb,0,none⟩ (.slice (some ⟨g,0,none⟩) n cv)).setCell ⟨bb,3,none⟩ (.pointer (some ⟨fb',0,none⟩))).setCell ⟨bb,4,none⟩ (.slice none 0 0)):BsAt W bb n most 4 4 K (C.set r Z) (C.set r Z) [] (some ⟨g,0,none⟩) none cv 0 fb'∧Ch w W bb:=by
 have hx:Bx cur bb (bsC A n c most fb H E.length hc) 108:=h.bx.below hb;have hx1:Bx (cur.setCell ⟨bb,0,none⟩ (.slice (some ⟨g,0,none⟩) n cv)) bb (bsC (some ⟨g,0,none⟩) n cv most fb H E.length hc) 108:=hx.setP _ rfl;have hx2:Bx ((cur.setCell ⟨bb,0,none⟩ (.slice (some ⟨g,0,none⟩) n cv)).setCell ⟨bb,3,none⟩ (.pointer (some ⟨fb',0,none⟩))) bb (bsC (some ⟨g,0,none⟩) n cv most fb' H E.length hc) 108:=hx1.setP _ rfl;have hx3:Bx W bb (bsC (some ⟨g,0,none⟩) n cv most fb' none 0 0) 108:=by rw[hW];exact hx2.setP _ rfl
 have c1:Ch cur W bb:=by rw[hW];exact((Ch.set hx (i:=0) rfl nofun _).trans (Ch.set hx1 (i:=3) rfl nofun _)).trans (Ch.set hx2 (i:=4) rfl nofun _)
 have hlt:=h.bx.lt;exact⟨⟨hx3,hcm.ch hx c1 (fun a ha=>by obtain rfl:=Option.some.inj ha;show g≠bb;omega),hlu.ch hx c1,Sl.nil _,fun e he=>absurd he fG,Chain.nil,aA _⟩,(Ch.of_below hb).trans c1⟩
theorem brep_eta {av:Nat→Prop} {w:World} {n most ne bn bc:Nat} {C:List (List (Int×Rat))} (hOk:BsOk av w bb n most ne A C) {r:Nat} (hr:r<n) (hz:NV w X bn bc Z 4) (hN:Nrm Z) (hin:∀t∈Z,0≤t.1∧t.1<(n:Int)) (hm:ne+1<most) (hne:ne+1≤100) (hav:∀x,av x→x<w.heap.size) (hs:(facUp (facT (C.set r Z) n) n).isSome=true) (hT:Hid (Tab w)) :
  Calls Tryz.prog 31 #[.pointer (some ⟨bb,0,none⟩),.int .i64 (r:Int),.slice X bn bc] w fun e w'=>e=.returned (.int .i64 0)∧∃A',BsOk av w' bb n most (ne+1) A' (C.set r Z)∧(∀a,A'=some a→w.heap.size≤a.block)∧Ch w w' bb:=by
 have hOk':=hOk;obtain⟨⟨C0,E,H,c,hc,fb,h1,rfl,h2,h3⟩,h4,hn,h6,h7⟩:=hOk';have hbn:bn≤14:=by have h9:=nrm_in_len hN hin;have h8:=hz.len;omega
 have i1:¬(r:Int)<0:=zo;have i2:¬(r:Int)≥(n:Int):=zo;have kb:decide ((r:Int)<0)=false:=fA i1;have kc:decide ((r:Int)≥(n:Int))=false:=fA i2;have hfit:fitsB n (nrm Z)=true:=by rw[hN.self];exact fits_iff.2 hin
 have HSZ:=zh (exF_sz hOk hz hN (r:Int));obtain⟨zz,HZZ⟩:∃zz,Hid ((pget (exF C n Z) (r:Int)).num.sign=zz):=⟨_,zh rfl⟩;have hP0:pget (exF C n Z) (r:Int)≠0:=fun h0=>by
  have h9:=piv_none hOk.len hOk.fac hr h0;rw[Option.isNone_iff_eq_none.1 h9] at hs;cases hs
 have HP0:=zh hP0;have z0:¬zz=0:=by rw[←HZZ.out];exact fun h0=>hP0 (Rat.num_eq_zero.1 (vF.1 h0))
 have z1:(zz==0)=false:=beq_eq_false_iff_ne.2 z0;have HRS:=zh (right_set (r:=r) h4 hN hin);have HPS:=zh hs;have HOL:=zh hOk.len;have HOF:=zh hOk.fac;have HSE:Hid (Sl EtM.cs 2 w H E.length E.length E):=zh h1.et.cap;obtain⟨CL,hcs,hcl,hce⟩:=h1.cm;have hcz:A=none→c=0:=fun h0=>by rw[h0] at hcs;have h9:=hcs.none_len;omega
 have HCS:=zh hcs;have HCL:=zh hcl;have HCE:=zh hce;obtain⟨y0,hy0⟩:∃y,CL[r]?=some y:=⟨CL[r]'(by rw[hcs.1];exact hr),cA _⟩;have HV0:=zh hy0;have hn1:0<n:=zo;have hM:facM 4 n≤3600000012:=wA (facM_mono 4 hn) zd;clear hcs hcl hce hy0 hs hP0;have i3:(E.length:Int)+1<(most:Int):=zo;have HBB:=zh h1.bx;have HX:=h1.bx;have hB:=Below.refl w.heap.size w;have Bz:=zr w;go_enter Tryz.func31,Tryz.ntmps31
 go_wp2_with fail
 with_reducible refine(none_not (HX.below (bT hB (bT (b:=w) Bz)))).mono ?_
 rintro e w1 ⟨rfl,q⟩;replace q:=zq (a:=w) q;replace Bz:=bT Bz q;clear q;have p90_1:=(HBB.out.below Bz).cell 1 (.int .i64 (n:Int)) rfl;go_wp2_with fail
 with_reducible refine(rightS (hz.below (bT hB (bT (b:=w1) Bz))) zo zo hN hin (zt hT hB Bz)).mono ?_
 rintro e w2 ⟨rfl,q⟩;replace q:=zq (a:=w1) q;replace Bz:=bT Bz q;clear q;clear p90_1;go_wp2_with fail
 with_reducible refine(bokX (hOk.below (bT hB (bT (b:=w2) Bz))) (hz.below (bT hB (bT (b:=w2) Bz))) hN zo hfit (zt hT hB Bz)).mono ?_
 rintro e w3 ⟨A3,n3,c3,rfl,h3,l3,q⟩;replace q:=zq (a:=w2) q;replace Bz:=bT Bz q;clear q;have HVL:Hid (n3≤14):=zh l3;clear l3;go_wp2_with fail
 with_reducible refine(getV_q (r:Int) ((NV.below h3).gv (exF_nrm C n Z).rise) zo (zi HVL.out) (zt hT hB Bz)).mono ?_
 rintro e w4 ⟨s4,A4,c4,l4,s4r,A4r,c4r,l4r,rfl,h4,q⟩;replace q:=zq (a:=w3) q;replace h3:=h3.below q;replace Bz:=bT Bz q;clear q;go_wp2_with fail
 with_reducible refine(sign_q (R.below h4.r) (wA HSZ.out zo) zz HZZ).mono ?_
 rintro e w5 ⟨rfl,q⟩;replace q:=zq (a:=w4) q;replace h3:=h3.below q;replace Bz:=bT Bz q;clear q;have HNV:=zh h3;clear h3;replace hB:=bT hB Bz;have hzw:=hB.size;clear Bz;have Bz:=zr w5;have hBv:=Bz;replace HBB:=zh (HX.below hB);have p90_0:=(HBB.out.below Bz).cell 0 (.slice A n c) rfl;go_wp2_with fail
 have hz1:w5.heap.size≤w5.heap.size:=zj hBv.size Bz.size;with_reducible refine(clone_v (HCS.out.below (bT hB (bT (b:=w5) Bz))) hcz zo).mono ?_
 rintro e w6 ⟨Hv,cv,rfl,ho6,q⟩;replace q:=zq (a:=w5) q;replace Bz:=bT Bz q;clear q;obtain⟨g,rfl⟩:=OwnR.some ho6 hn1;replace ho6:=ho6.rebase hz1;clear hz1;clear p90_0;go_wp2_with fail
 have HGL:Hid (g<w6.heap.size):=zh (OwnR.lt ho6 g rfl);with_reducible refine(normO_q ((hz.gv hN.rise).below (bT hB (bT (b:=w6) Bz))) zo zo (zt hT hB Bz)).mono ?_
 rintro e w7 ⟨A7,n7,c7,T,rfl,ht7,hn7,hq7,q⟩;replace q:=zq (a:=w6) q;replace ho6:=ho6.below q;replace Bz:=bT Bz q;clear q;have HTP:=zh (hq7.trans hN.self);clear hq7;have pE0:=vc_cell ho6 HV0.out;have fE0:=ho6.frozen r;have y54:=ho6.blk.1;go_upto_region 12 with(fail)
 have hcn:=own_cnb ht7 hn7;obtain⟨V1,hV,ho2,hg2⟩:=vc_store ho6 HV0.out ⟨A7,n7,c7,T⟩;rw[←hV];clear hV;have HCN:CN V1 ⟨A7,n7,c7,T⟩ 5:=hcn.1.grown (g:=g) hg2 rfl (fun a ha=>by have h1:=(hcn.2 a ha).2;have h2:=HGL.out;omega);have HOB:=OwnR.base ho6 g rfl;replace hB:=(bT hB Bz).trans (hg2.below (zi (zww hB Bz)) (fun g' hg'=>by cases hg';show _≤g;omega));replace hBv:=(bT hBv Bz).trans (hg2.below (zj hBv.size Bz.size) (fun g' hg'=>by cases hg';show _≤g;omega));replace HBB:=zh (HX.below hB);clear ho6 ht7 hn7;clear hg2 Bz hcn;have Bz:=zr V1;clear pE0 fE0 y54;have p90_2:=(HBB.out.below Bz).cell 2 (.int .i64 (most:Int)) rfl;have p90_4:=(HBB.out.below Bz).cell 4 (.slice H E.length hc) rfl;go_wp2_with fail
 have wr1:IntKind.i64.wrap ((E.length:Int)+1)=(E.length:Int)+1:=IntWalk.i64_in _ zo;(try simp only[vA,vBa,vC])
 refine zl (zza [0,1,2,3,4,5,6,7,8,9,10] .done) [] (zsa p90_2 (zIa p90_4)) ?_;iterate 11 (refine zUa ?_;try simp only[uW,uX,uY,uZ])
 refine zAa ?_;go_wp2_with fail
 with_reducible refine(clip_e h1.el).mono ?_
 rintro e w8 ⟨rfl,q⟩;replace q:=zq (a:=V1) q;replace ho2:=ho2.below q;replace HCN:=HCN.below q;replace Bz:=bT Bz q;clear q;clear p90_2 p90_4;go_wp2_with fail
 have hzx:w.heap.size≤w8.heap.size:=zi (zww hB Bz);with_reducible refine(exchange_qE ((HNV.out.below (bT hBv (bT Bz))).gv (exF_nrm C n Z).rise) zo (zi HVL.out) (exF_in C n Z) hr (zt hT hB Bz)).mono ?_
 rintro e w9 ⟨t,rfl,hok9,htf9,hsn9,q⟩;replace q:=zq (a:=w8) q;replace ho2:=ho2.below q;replace HCN:=HCN.below q;replace Bz:=bT Bz q;clear q;have HTF:=zh htf9;have HTA:Hid (¬av t.sb):=zh fun h=>by have:=hav _ h;have:=hsn9;omega
 clear htf9 hsn9;go_wp2_with (at_builtin;refine And.left (b:=True) ?_)
 refine⟨?_,trivial⟩;obtain⟨V2,hW,x0,hN⟩:=zAc w9 #[.func (.func 111) #[] #[.pointer (some ⟨t.rb,0,none⟩),.pointer (some ⟨t.pb,0,none⟩),.pointer (some ⟨t.sb,0,none⟩)],.func (.func 112) #[] #[.pointer (some ⟨t.sb,0,none⟩),.pointer (some ⟨t.rb,0,none⟩),.pointer (some ⟨t.pb,0,none⟩)]] 112;rw[←hW];clear hW;obtain⟨v0,hb0⟩:=ze w9.heap.size;rw[←hb0] at x0 ⊢;have ow_0:w.heap.size≤v0:=zi (zww hB Bz);replace hok9:=hok9.below hN;replace ho2:=ho2.below hN;replace HCN:=HCN.below hN;replace hB:=bT (bT hB Bz) hN;replace hBv:=bT (bT hBv Bz) hN;replace HBB:=zh ((HBB.out.below Bz).below hN);have HX0:=zh x0;clear x0 hN Bz hb0;have Bz:=zr V2;refine Elt.appClip elt_eta rfl (.tmp 74) (.tmp 78) rfl rfl (Sl.below HSE.out (bT hB (bT Bz))) (.slice (some ⟨v0,0,none⟩) 1 1) 1 [t] rfl (From.one (HX0.out.below (bT Bz)) t rfl (elt_eta.len _)) zo zo ?_;intro H2 c2 w10 hoe10 q;have hoz:=OwnR.rebase (B':=w.heap.size) hoe10 (zi (zww hB Bz));clear hoe10;replace q:=zq (a:=V2) q;replace hok9:=hok9.below q;replace ho2:=ho2.below q;replace HCN:=HCN.below q;replace Bz:=bT Bz q;clear q;have p90_0:=(HBB.out.below Bz).cell 0 (.slice A n c) rfl;have p90_4:=(HBB.out.below Bz).cell 4 (.slice H E.length hc) rfl;have f90_0:=(HBB.out.below Bz).frozen 0;have f90_4:=(HBB.out.below Bz).frozen 4;have y90:=(HBB.out.below Bz).lt;go_wp2_with fail
 obtain⟨W,hW⟩:∃x:World,x=(w10.setCell ⟨bb,0,none⟩ (.slice (some ⟨g,0,none⟩) n cv)).setCell ⟨bb,4,none⟩ (.slice H2 (E.length+1) c2):=⟨_,rfl⟩;rw[←hW];go_wp2_with fail
 go_wp2_with fail
 go_ret
 obtain⟨q1,q2⟩:=BsAt.eta h1 (bT hB Bz) ho2 (set_cm ho2 (fun v hv=>(HCL.out v hv).below (bT hB Bz)) HCE.out HCN HTP.out (nv_szs hz)) hoz (EtOk.mono hok9 zo) (by rw[mG,nG,List.map_nil,HTF.out];exact .snoc h1.ch hr (fun j hj=>exF_sol HOL.out HOF.out Z j hj) (exF_in C n Z) HP0.out (nv_get3 hz hN)) (show w.heap.size≤g by omega) hW;exact⟨rfl,some ⟨g,0,none⟩,⟨⟨C0,E++[t],H2,cv,c2,fb,q1,by rw[jC];rfl,h2,fun e he=>(nC.1 he).elim (h3 e) (fun h=>by obtain rfl:=gC.1 h;exact HTA.out)⟩,HRS.out,hn,zo,fun a ha=>by obtain rfl:=Option.some.inj ha;have:=HX.lt;exact⟨show g≠bb by omega,dB (OwnR.lt ho2 g rfl) (set_size hW)⟩⟩,(fun a ha=>by obtain rfl:=Option.some.inj ha;show w.heap.size≤g;omega),q2⟩
theorem brep_fac {av:Nat→Prop} {w:World} {n most ne bn bc:Nat} {C:List (List (Int×Rat))} (hOk:BsOk av w bb n most ne A C) {r:Nat} (hr:r<n) (hz:NV w X bn bc Z 4) (hN:Nrm Z) (hin:∀t∈Z,0≤t.1∧t.1<(n:Int)) (hm:¬ne+1<most) (hs:(facUp (facT (C.set r Z) n) n).isSome=true) (hT:Hid (Tab w)) :
  Calls Tryz.prog 31 #[.pointer (some ⟨bb,0,none⟩),.int .i64 (r:Int),.slice X bn bc] w fun e w'=>e=.returned (.int .i64 0)∧∃A',BsOk av w' bb n most (0) A' (C.set r Z)∧(∀a,A'=some a→w.heap.size≤a.block)∧Ch w w' bb:=by
 have hOk':=hOk;obtain⟨⟨C0,E,H,c,hc,fb,h1,rfl,h2,h3⟩,h4,hn,h6,h7⟩:=hOk';have hbn:bn≤14:=by have h9:=nrm_in_len hN hin;have h8:=hz.len;omega
 have i1:¬(r:Int)<0:=zo;have i2:¬(r:Int)≥(n:Int):=zo;have kb:decide ((r:Int)<0)=false:=fA i1;have kc:decide ((r:Int)≥(n:Int))=false:=fA i2;have hfit:fitsB n (nrm Z)=true:=by rw[hN.self];exact fits_iff.2 hin
 have HSZ:=zh (exF_sz hOk hz hN (r:Int));obtain⟨zz,HZZ⟩:∃zz,Hid ((pget (exF C n Z) (r:Int)).num.sign=zz):=⟨_,zh rfl⟩;have hP0:pget (exF C n Z) (r:Int)≠0:=fun h0=>by
  have h9:=piv_none hOk.len hOk.fac hr h0;rw[Option.isNone_iff_eq_none.1 h9] at hs;cases hs
 have HP0:=zh hP0;have z0:¬zz=0:=by rw[←HZZ.out];exact fun h0=>hP0 (Rat.num_eq_zero.1 (vF.1 h0))
 have z1:(zz==0)=false:=beq_eq_false_iff_ne.2 z0;have HRS:=zh (right_set (r:=r) h4 hN hin);have HPS:=zh hs;have HOL:=zh hOk.len;have HOF:=zh hOk.fac;have HSE:Hid (Sl EtM.cs 2 w H E.length E.length E):=zh h1.et.cap;obtain⟨CL,hcs,hcl,hce⟩:=h1.cm;have hcz:A=none→c=0:=fun h0=>by rw[h0] at hcs;have h9:=hcs.none_len;omega
 have HCS:=zh hcs;have HCL:=zh hcl;have HCE:=zh hce;obtain⟨y0,hy0⟩:∃y,CL[r]?=some y:=⟨CL[r]'(by rw[hcs.1];exact hr),cA _⟩;have HV0:=zh hy0;have hn1:0<n:=zo;have hM:facM 4 n≤3600000012:=wA (facM_mono 4 hn) zd;clear hcs hcl hce hy0 hs hP0;have i3:¬(E.length:Int)+1<(most:Int):=zo;have HBB:=zh h1.bx;have HX:=h1.bx;have hB:=Below.refl w.heap.size w;have Bz:=zr w;go_enter Tryz.func31,Tryz.ntmps31
 go_wp2_with fail
 with_reducible refine(none_not (HX.below (bT hB (bT (b:=w) Bz)))).mono ?_
 rintro e w1 ⟨rfl,q⟩;replace q:=zq (a:=w) q;replace Bz:=bT Bz q;clear q;have p90_1:=(HBB.out.below Bz).cell 1 (.int .i64 (n:Int)) rfl;go_wp2_with fail
 with_reducible refine(rightS (hz.below (bT hB (bT (b:=w1) Bz))) zo zo hN hin (zt hT hB Bz)).mono ?_
 rintro e w2 ⟨rfl,q⟩;replace q:=zq (a:=w1) q;replace Bz:=bT Bz q;clear q;clear p90_1;go_wp2_with fail
 with_reducible refine(bokX (hOk.below (bT hB (bT (b:=w2) Bz))) (hz.below (bT hB (bT (b:=w2) Bz))) hN zo hfit (zt hT hB Bz)).mono ?_
 rintro e w3 ⟨A3,n3,c3,rfl,h3,l3,q⟩;replace q:=zq (a:=w2) q;replace Bz:=bT Bz q;clear q;have HVL:Hid (n3≤14):=zh l3;clear l3;go_wp2_with fail
 with_reducible refine(getV_q (r:Int) ((NV.below h3).gv (exF_nrm C n Z).rise) zo (zi HVL.out) (zt hT hB Bz)).mono ?_
 rintro e w4 ⟨s4,A4,c4,l4,s4r,A4r,c4r,l4r,rfl,h4,q⟩;replace q:=zq (a:=w3) q;replace h3:=h3.below q;replace Bz:=bT Bz q;clear q;go_wp2_with fail
 with_reducible refine(sign_q (R.below h4.r) (wA HSZ.out zo) zz HZZ).mono ?_
 rintro e w5 ⟨rfl,q⟩;replace q:=zq (a:=w4) q;replace h3:=h3.below q;replace Bz:=bT Bz q;clear q;have HNV:=zh h3;clear h3;replace hB:=bT hB Bz;have hzw:=hB.size;clear Bz;have Bz:=zr w5;have hBv:=Bz;replace HBB:=zh (HX.below hB);have p90_0:=(HBB.out.below Bz).cell 0 (.slice A n c) rfl;go_wp2_with fail
 have hz1:w5.heap.size≤w5.heap.size:=zj hBv.size Bz.size;with_reducible refine(clone_v (HCS.out.below (bT hB (bT (b:=w5) Bz))) hcz zo).mono ?_
 rintro e w6 ⟨Hv,cv,rfl,ho6,q⟩;replace q:=zq (a:=w5) q;replace Bz:=bT Bz q;clear q;obtain⟨g,rfl⟩:=OwnR.some ho6 hn1;replace ho6:=ho6.rebase hz1;clear hz1;clear p90_0;go_wp2_with fail
 have HGL:Hid (g<w6.heap.size):=zh (OwnR.lt ho6 g rfl);with_reducible refine(normO_q ((hz.gv hN.rise).below (bT hB (bT (b:=w6) Bz))) zo zo (zt hT hB Bz)).mono ?_
 rintro e w7 ⟨A7,n7,c7,T,rfl,ht7,hn7,hq7,q⟩;replace q:=zq (a:=w6) q;replace ho6:=ho6.below q;replace Bz:=bT Bz q;clear q;have HTP:=zh (hq7.trans hN.self);clear hq7;have pE0:=vc_cell ho6 HV0.out;have fE0:=ho6.frozen r;have y54:=ho6.blk.1;go_upto_region 12 with(fail)
 have hcn:=own_cnb ht7 hn7;obtain⟨V1,hV,ho2,hg2⟩:=vc_store ho6 HV0.out ⟨A7,n7,c7,T⟩;rw[←hV];clear hV;have HCN:CN V1 ⟨A7,n7,c7,T⟩ 5:=hcn.1.grown (g:=g) hg2 rfl (fun a ha=>by have h1:=(hcn.2 a ha).2;have h2:=HGL.out;omega);have HOB:=OwnR.base ho6 g rfl;replace hB:=(bT hB Bz).trans (hg2.below (zi (zww hB Bz)) (fun g' hg'=>by cases hg';show _≤g;omega));replace hBv:=(bT hBv Bz).trans (hg2.below (zj hBv.size Bz.size) (fun g' hg'=>by cases hg';show _≤g;omega));replace HBB:=zh (HX.below hB);clear ho6 ht7 hn7;clear hg2 Bz hcn;have Bz:=zr V1;clear pE0 fE0 y54;have HCW:CM V1 (some ⟨g,0,none⟩) n cv (C.set r Z) 4:=set_cm ho2 (fun v hv=>(HCL.out v hv).below hB) HCE.out HCN HTP.out (nv_szs hz);have p90_1:=(HBB.out.below Bz).cell 1 (.int .i64 (n:Int)) rfl;have p90_2:=(HBB.out.below Bz).cell 2 (.int .i64 (most:Int)) rfl;have p90_4:=(HBB.out.below Bz).cell 4 (.slice H E.length hc) rfl;go_wp2_with fail
 have wr1:IntKind.i64.wrap ((E.length:Int)+1)=(E.length:Int)+1:=IntWalk.i64_in _ zo;(try simp only[vA,vBa,vC])
 refine zl (zza [0,1,2,3,4,5,6,7,8,9,10] .done) [] (zsa p90_2 (zIa p90_4)) ?_;iterate 11 (refine zUa ?_;try simp only[uW,uX,uY,uZ])
 refine zAa ?_;go_wp2_with fail
 with_reducible refine(factorOk (CM.below HCW (bT Bz)) (right_lens HRS.out hn) zo hM HRS.out HPS.out _ rfl (zt hT hB Bz)).mono ?_
 rintro e w8 ⟨fb',rfl,hlu8,q⟩;replace q:=zq (a:=V1) q;replace HCW:=HCW.below q;replace ho2:=ho2.below q;replace HCN:=HCN.below q;replace Bz:=bT Bz q;clear q;clear p90_1 p90_2 p90_4;have p90_0:=(HBB.out.below Bz).cell 0 (.slice A n c) rfl;have p90_3:=(HBB.out.below Bz).cell 3 (.pointer (some ⟨fb,0,none⟩)) rfl;have p90_4:=(HBB.out.below Bz).cell 4 (.slice H E.length hc) rfl;have f90_0:=(HBB.out.below Bz).frozen 0;have f90_3:=(HBB.out.below Bz).frozen 3;have f90_4:=(HBB.out.below Bz).frozen 4;have y90:=(HBB.out.below Bz).lt;go_wp2_with fail
 obtain⟨W,hW⟩:∃x:World,x=((w8.setCell ⟨bb,0,none⟩ (.slice (some ⟨g,0,none⟩) n cv)).setCell ⟨bb,3,none⟩ (.pointer (some ⟨fb',0,none⟩))).setCell ⟨bb,4,none⟩ ((Value.slice none 0 0)):=⟨_,rfl⟩;rw[←hW];go_wp2_with fail
 go_wp2_with fail
 go_ret
 obtain⟨q1,q2⟩:=BsAt.fac h1 (bT hB Bz) ho2 HCW hlu8 (show w.heap.size≤g by omega) hW;exact⟨rfl,some ⟨g,0,none⟩,⟨⟨C.set r Z,[],none,cv,0,fb',q1,rfl,(fun x hx=>⟨(rightC_iff.1 HRS.out x hx).1.rise,CM.szs HCW x hx⟩),fun e he=>absurd he fG⟩,HRS.out,hn,zo,fun a ha=>by obtain rfl:=Option.some.inj ha;have:=HX.lt;have:=OwnR.lt ho2 g rfl;exact⟨show g≠bb by omega,dB (OwnR.lt ho2 g rfl) (set_size3 hW)⟩⟩,(fun a ha=>by obtain rfl:=Option.some.inj ha;show w.heap.size≤g;omega),q2⟩
end Go.Proofs.YteggjbgbknkoiaaGreatDoor
