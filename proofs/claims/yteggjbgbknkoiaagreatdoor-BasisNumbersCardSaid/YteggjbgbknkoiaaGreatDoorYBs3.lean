import Derived.Test.YteggjbgbknkoiaaGreatDoorYCp
import Derived.Laws.EntriesVeiled
set_option maxHeartbeats 4000000
set_option maxRecDepth 100000
namespace Go.Proofs.YteggjbgbknkoiaaGreatDoor
open Go.RowKit Tw
theorem elt_eta:Elt EtM.cs 2 106 112:=Elt.of (.agg #[.nilFunc,.nilFunc]) 16 Tryz.underlying106 (by kernel_rfl) zo (by kernel_rfl) (nou_list (by kernel_rfl)) EtM.cs_len (fun x u hu=>by simp[EtM.cs] at hu;rcases hu with rfl | rfl<;>rfl) (fun x u hu n=>by simp[EtM.cs] at hu;rcases hu with rfl | rfl<;>simp)
theorem bsize_q {w:World} {bb n most m M K c hc fb:Nat} {C0 C:List (List (Int×Rat))} {E:List EtM} {A H:Option Addr} (h:BsAt w bb n most m M K C0 C E A H c hc fb):Calls Tryz.prog 30 #[.pointer (some ⟨bb,0,none⟩)] w fun e w'=>e=.returned (.int .i64 (n:Int))∧Below w.heap.size w w':=by
 have HBB:=zh h.bx;have hB:=Below.refl w.heap.size w;have Bz:=zr w;go_enter Tryz.func30,Tryz.ntmps30
 go_wp2_with fail
 with_reducible refine(none_not (h.bx.below (bT hB (bT (b:=w) Bz)))).mono ?_
 rintro e w1 ⟨rfl,q⟩;replace q:=zq (a:=w) q;replace Bz:=bT Bz q;clear q;have p90_1:=(HBB.out.below Bz).cell 1 (.int .i64 (n:Int)) rfl;go_wp2_with fail
 go_ret
 have hF:=bT (c:=w1) hB Bz;exact⟨rfl,bT hF⟩
theorem betas_q {w:World} {bb n most m M K c hc fb:Nat} {C0 C:List (List (Int×Rat))} {E:List EtM} {A H:Option Addr} (h:BsAt w bb n most m M K C0 C E A H c hc fb):Calls Tryz.prog 35 #[.pointer (some ⟨bb,0,none⟩)] w fun e w'=>e=.returned (.int .i64 (E.length:Int))∧Below w.heap.size w w':=by
 have HBB:=zh h.bx;have hB:=Below.refl w.heap.size w;have Bz:=zr w;go_enter Tryz.func35,Tryz.ntmps35
 go_wp2_with fail
 with_reducible refine(none_not (h.bx.below (bT hB (bT (b:=w) Bz)))).mono ?_
 rintro e w1 ⟨rfl,q⟩;replace q:=zq (a:=w) q;replace Bz:=bT Bz q;clear q;have p90_4:=(HBB.out.below Bz).cell 4 (.slice H E.length hc) rfl;go_wp2_with fail
 go_ret
 have hF:=bT (c:=w1) hB Bz;exact⟨rfl,bT hF⟩
theorem bcolsO_q {w:World} {bb n most m M K c hc fb:Nat} {C0 C:List (List (Int×Rat))} {E:List EtM} {A H:Option Addr} (h:BsAt w bb n most m M K C0 C E A H c hc fb) (hr:∀x∈C,Rise x) (hC:∀x∈C,x.length≤1000) (hM:M≤18000000000) (hn:n≤256) (hT:Hid (Tab w)):Calls Tryz.prog 36 #[.pointer (some ⟨bb,0,none⟩)] w fun e w'=>∃g V,e=.returned (.slice (some ⟨g,0,none⟩) n n)∧OwnR w' w.heap.size 35 1 (.slice (some ⟨g,0,none⟩) n n) n (flat Vc.cs V)∧CVs w' (.slice (some ⟨g,0,none⟩) n n) (M+1) V∧V.map (fun v=>prs v.L)=C.map nrm∧Below w.heap.size w w':=by
 have HBB:=zh h.bx;have hB:=Below.refl w.heap.size w;have Bz:=zr w;go_enter Tryz.func36,Tryz.ntmps36
 go_wp2_with fail
 with_reducible refine(none_not (h.bx.below (bT hB (bT (b:=w) Bz)))).mono ?_
 rintro e w1 ⟨rfl,q⟩;replace q:=zq (a:=w) q;replace Bz:=bT Bz q;clear q;have p90_0:=(HBB.out.below Bz).cell 0 (.slice A n c) rfl;go_wp2_with fail
 have hz1:w.heap.size≤w1.heap.size:=zi (zww hB Bz);with_reducible refine(copiedO_q (M:=M+1) (CM.cw (h.cm.below (bT hB (bT (b:=w1) Bz))) hr) (zh hC) zo zo (zt hT hB Bz)).mono ?_
 rintro e w2 ⟨g1,V,rfl,_,ho2,hc2,hm2,q⟩;replace q:=zq (a:=w1) q;replace Bz:=bT Bz q;clear q;have HMP:=zh hm2;clear hm2;replace ho2:=ho2.rebase hz1;clear p90_0;go_wp2_with fail
 go_ret
 have hF:=bT (c:=w2) hB Bz;exact⟨_,V,rfl,OwnR.below ho2,CVs.below hc2,HMP.out,bT hF⟩
theorem exchange_q {w:World} {X:Option Addr} {n cx M nn r:Nat} {P:List (Int×Rat)} (hx:GV w X n cx P M) (hM:M≤17000000000) (hn:n≤900) (hP:∀t∈P,0≤t.1∧t.1<(nn:Int)) (hr:r<nn) (hT:Hid (Tab w)) :
  Calls Tryz.prog 76 #[.int .i64 (r:Int),.slice X n cx] w fun e w'=>∃t:EtM,e=.returned (.agg t.cs.toArray)∧EtOk w' nn (M+1+2) t∧t.f=etaOf (r:Int) P∧w.heap.size≤t.sb∧Below w.heap.size w w':=by
 obtain⟨W,hW,x0,x1,hB⟩:=boxes2 w #[.int .i64 (r:Int)] 3 #[.nilFunc,.nilFunc] 112;have HX0:=zh x0;have HX1:=zh x1;clear x0 x1;have Bz:=zr W;have pa0:=(zx HX0 Bz).cell 0 (.int .i64 (r:Int)) rfl;go_enter Tryz.func76,Tryz.ntmps76
 go_wp2_with fail
 rw[←hW];clear hW;with_reducible refine(getV_q (r:Int) (hx.below (bT hB (bT (b:=W) Bz))) zo zo (zt hT hB Bz)).mono ?_
 rintro e w1 ⟨s1,A1,c1,l1,s1r,A1r,c1r,l1r,rfl,h1,q⟩;replace q:=zq (a:=W) q;replace Bz:=bT Bz q;clear q;clear pa0;go_upto_region 2 with(fail)
 obtain⟨V1,hW,x2,hN⟩:=zAc w1 #[.bool s1,.slice A1 l1 c1,.bool s1r,.slice A1r l1r c1r] 30;rw[←hW];clear hW;obtain⟨v2,hb2⟩:=ze w1.heap.size;rw[←hb2] at x2 ⊢;have o1_2:w.heap.size+1<v2:=zi (zx HX1 Bz).lt;have ow_2:w.heap.size≤v2:=zi (zww hB Bz);replace h1:=h1.below hN;replace hB:=bT (bT hB Bz) hN;replace HX0:=zba HX0 Bz hN;replace HX1:=zba HX1 Bz hN;have HX2:=zh x2;clear x2 hN Bz hb2;have Bz:=zr V1;have pa0:=(zx HX0 Bz).cell 0 (.int .i64 (r:Int)) rfl;go_wp2_with fail
 have hzz:w.heap.size+1<V1.heap.size:=(zx HX1 Bz).lt;with_reducible refine(putO_q (hx.below (bT hB (bT (b:=V1) Bz))) (r:Int) ((RN.zero _).r' sz_zero) zo zo (zt hT hB Bz)).mono ?_
 rintro e w2 ⟨A2,n2,c2,T,rfl,ht2,hn2,hq2,q⟩;replace q:=zq (a:=V1) q;replace h1:=h1.below q;replace Bz:=bT Bz q;clear q;have HTP:=zh hq2;clear hq2;clear pa0;go_upto_region 3 with(fail)
 obtain⟨V2,hW,x3,hN⟩:=zAc w2 #[.slice A2 n2 c2] 35;rw[←hW];clear hW;obtain⟨v3,hb3⟩:=ze w2.heap.size;rw[←hb3] at x3 ⊢;have o1_3:w.heap.size+1<v3:=zi (zx HX1 Bz).lt;have ow_3:w.heap.size≤v3:=zi (zww hB Bz);replace h1:=h1.below hN;replace hn2:=hn2.below hN;replace ht2:=ht2.below hN;replace hB:=bT (bT hB Bz) hN;replace HX0:=zba HX0 Bz hN;replace HX1:=zba HX1 Bz hN;replace HX2:=zba HX2 Bz hN;have HX3:=zh x3;clear x3 hN Bz hb3;have Bz:=zr V2;obtain⟨pb0,pb1,-⟩:=(zx HX1 Bz).cz;obtain⟨y1,fb0,fb1,-⟩:=(zx HX1 Bz).fz;go_wp2_with fail
 obtain⟨V3,hW,x,kk,far,bel⟩:=store2 (.func (.func 111) #[] #[.pointer (some ⟨w.heap.size,0,none⟩),.pointer (some ⟨v2,0,none⟩),.pointer (some ⟨v3,0,none⟩)]) (.func (.func 112) #[] #[.pointer (some ⟨v3,0,none⟩),.pointer (some ⟨w.heap.size,0,none⟩),.pointer (some ⟨v2,0,none⟩)]) (zx HX1 Bz) nofun nofun;rw[←hW];clear hW;replace h1:=h1.k kk;replace hn2:=hn2.k kk;replace ht2:=ht2.far far zo;replace hB:=bel w.heap.size w zo (bT hB Bz);replace HX0:=zf far HX0 Bz;replace HX2:=zf far HX2 Bz;replace HX3:=zf far HX3 Bz;replace HX1:=zh x;clear x kk far bel Bz;have Bz:=zr V3;clear pb0 pb1 fb0 fb1 y1;go_wp2_with fail
 obtain⟨pb0,pb1,-⟩:=(zx HX1 Bz).cz;obtain⟨y1,fb0,fb1,-⟩:=(zx HX1 Bz).fz;(try simp only[Exit.inBlock,Exit.then])
 refine bodyPost_ret (by simp[results,Tryz.results76,go_sem,pb0,pb1];try rfl) rfl ?_;have hcn:=own_cnb ht2 hn2;have hpq:prs T=restF P (r:Int):=HTP.out;have hrx:Rise (prs T)∧(∀t∈prs T,0≤t.1∧t.1<(nn:Int)):=by rw[hpq];exact⟨(rest_nrm P (r:Int)).rise,(rest_nrm P (r:Int)).place (p:=fun a=>0≤a∧a<(nn:Int)) fun a ha=>by
  rw[rest_get] at ha;split at ha
  ·exact absurd rfl ha
  ·obtain⟨u,hu,rfl⟩:=pget_mem ha;exact hP u hu⟩
 exact⟨⟨w.heap.size,v2,v3,r,⟨s1,A1,c1,l1,s1r,A1r,c1r,l1r,pget P (r:Int),true⟩,⟨A2,n2,c2,T⟩⟩,rfl,⟨HX0.out.below Bz,HX2.out.below Bz,HX3.out.below Bz,h1,by have:=hx.getsz (r:Int);show sz (pget P (r:Int))+1≤_;omega,hcn.1,fun a ha=>(hcn.2 a ha).1,by rw[hpq];exact rest_nrm P _,hrx.2,by rw[hpq,rest_get,zA rfl],hr,by have h1:=hcn.1.1.1;have h2:=congrArg List.length hpq;have h3:=nrm_len (P.filter (fun x=>decide (x.1≠(r:Int)))++[((r:Int),(0:Rat))]);have h4:=List.length_filter_le (fun x:Int×Rat=>decide (x.1≠(r:Int))) P;have h5:=hx.len;unfold restF at h2;rw[prs_len] at h2;rw[jC] at h3;simp only[eD,List.length_nil] at h3;simp only at h1 ⊢;omega⟩,by unfold EtM.f etaOf;rw[hpq],(by show w.heap.size≤v3;omega),bT hB Bz⟩
end Go.Proofs.YteggjbgbknkoiaaGreatDoor
