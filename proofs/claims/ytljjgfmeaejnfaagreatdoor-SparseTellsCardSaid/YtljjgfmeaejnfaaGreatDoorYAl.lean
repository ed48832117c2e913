/-
  tripwireref05.Axpy, Norm, Add, Scale, Same, Dot, Put, Dense. Written by wip/gen/al.py.
-/
import Derived.Test.YtljjgfmeaejnfaaGreatDoorYPg
import Derived.Test.YtljjgfmeaejnfaaGreatDoorYSo7
set_option maxHeartbeats 8000000
set_option maxRecDepth 100000
namespace Go.Proofs.YtljjgfmeaejnfaaGreatDoor
open Go.RowKit Tw
theorem sl_box {α:Type} {f:α→List Value} {k:Nat} {w:World} {b n:Nat} {cs:Array Value} {te:TypeId} {L:List α} (hk:∀x,(f x).length=k) (h:Bx w b cs te) (hcs:cs.toList=flat f L) (hl:L.length=n):Sl f k w (some ⟨b,0,none⟩) n n L:=by
 subst hl
 refine⟨rfl,by rw[flat_len hk],_,_,rfl,(fun h=>(by cases h)),fun a ha j u hu=>?_⟩
 cases ha
 rw[add_off,Nat.zero_add]
 refine h.cell j u ?_
 rw[←hcs] at hu
 simpa using hu
theorem gv_sz {w:World} {A:Option Addr} {n c M:Nat} {P:List (Int×Rat)} (h:GV w A n c P M) (a:Int):sz (pget P a)≤M+1:=by
 obtain⟨L,_,h2,rfl,h4,_⟩:=h
 exact Nat.le_trans (get_sz h2 a) (Nat.add_le_add_right (h4 a) 1)
theorem gv_rows {w:World} {A:Option Addr} {n c M:Nat} {P:List (Int×Rat)} (h:GV w A n c P M):∃L:List Tm,Sl Tm.cs 5 w A n c L∧prs L=P:=by
 obtain⟨L,h1,_,h3,_⟩:=h
 exact⟨L,h1,h3⟩
theorem at_prs (L:List Tm):(L.map fun t=>t.at_)=(prs L).map fun x=>x.1:=by
 unfold prs
 rw[List.map_map]
 rfl
def axP (q:Rat) (P Q:List (Int×Rat)):List (Int×Rat):=P++Q.map fun x=>(x.1,q*x.2)
theorem axP_get (q:Rat) (P Q:List (Int×Rat)) (a:Int):pget (axP q P Q) a=pget P a+q*pget Q a:=by unfold axP;rw[pget_append,pget_scale]
def AX1 (w W:World) (cs:Array Value) (Z:List (Int×Rat)) (k0 MM gk:Nat) (s7 s9:Value) (wr:World):Prop :=
 ∃(i k:Nat) (H:Option Addr) (hc:Nat) (O:List Tm),s7=.slice H k hc∧s9=.int .i64 (i:Int)∧i≤k0∧k0-i=gk∧OwnR wr W.heap.size 114 5 (.slice H k hc) k (flat Tm.cs O)∧prs O=(Z.take i).filter (fun x=>decide (x.2≠0))∧OnT wr O (fun _=>MM)∧Bx wr w.heap.size cs 50∧Below w.heap.size w wr∧Below W.heap.size W wr
theorem sl_two {w:World} {u v:Vc} (h1:Sl Tm.cs 5 w u.A u.n u.c u.L) (h2:Sl Tm.cs 5 w v.A v.n v.c v.L):∀x∈[u,v],Sl Tm.cs 5 w x.A x.n x.c x.L:=fun x hx=>by
 rcases List.mem_cons.1 hx with rfl | hx
 ·exact h1
 ·rcases List.mem_cons.1 hx with rfl | hx
  ·exact h2
  ·cases hx
theorem ax_mem {LX LY:List Tm} {q:Rat} {u v:Vc} (hu:u.L=LX) (hv:v.L=LY):∀x∈axP q (prs LY) (prs LX),x.1∈plcs [u,v]:=fun x hx=>by
 unfold plcs
 rw[List.flatMap_cons,List.flatMap_cons,List.flatMap_nil,List.append_nil,hu,hv,at_prs,at_prs]
 rcases List.mem_append.1 hx with h | h
 ·exact List.mem_append_right _ (List.mem_map_of_mem (f:=fun x:Int×Rat=>x.1) h)
 ·obtain⟨y,hy,rfl⟩:=List.mem_map.1 h
  exact List.mem_append_left _ (List.mem_map.2 ⟨y,hy,rfl⟩)
theorem axpyR_q {w:World} {s s':Bool} {A A':Option Addr} {l c l' c':Nat} {q:Rat} {mq:Nat} {X Y:Option Addr} {n cx m cy M M':Nat} {P Q:List (Int×Rat)} (hy0:GV w Y m cy P M') (ha:R w s A c l s' A' c' l' q mq) (h:GV w X n cx Q M) (hM:M+M'+mq≤880) (hn:n≤100000) (hm:m≤100000) (hT:Hid (Tab w)) :
  Calls Tryz.prog 29 #[.slice Y m cy,.agg #[.bool s,.slice A l c,.bool s',.slice A' l' c'],.slice X n cx] w (TellsV w (nrm (axP q P Q)) (M+M'+mq+5)):=by
 have HGX:=zh h
 have HGY:=zh hy0
 have HRA:=zh ha
 have HZX:=zh (gv_sz h)
 have HZY:=zh (gv_sz hy0)
 have hsq:sz q≤mq+1:=by have:=ha.sz;omega
 obtain⟨LX,hx1,hx2⟩:=gv_rows h
 obtain⟨LY,hy1,hy2⟩:=gv_rows hy0
 have HSX:=zh hx1
 have HSY:=zh hy1
 have HPX:=zh hx2
 have HPY:=zh hy2
 obtain⟨SS,hSS⟩:∃SS,SS=plcs [⟨X,n,cx,LX⟩,⟨Y,m,cy,LY⟩]:=⟨_,rfl⟩
 have hsl:SS.length=n+m:=by
  rw[hSS]
  unfold plcs
  rw[List.flatMap_cons,List.flatMap_cons,List.flatMap_nil,List.append_nil,List.length_append,List.length_map,List.length_map]
  show LX.length+LY.length=n+m
  rw[hx1.1,hy1.1]
 have HPN:Hid ((plcs [⟨X,n,cx,LX⟩,⟨Y,m,cy,LY⟩]).length≤1000000):=zh (by rw[←hSS,hsl];omega)
 obtain⟨MM,hMM0⟩:∃MM,MM=M+M'+mq+5:=⟨_,rfl⟩
 have HRW:Hid (∀x∈axP q P Q,x.1∈plcs [⟨X,n,cx,LX⟩,⟨Y,m,cy,LY⟩]):=zh (by rw[←hx2,←hy2];exact ax_mem rfl rfl)
 have HSS:=zh hSS
 have HPL:Hid ((plcs [⟨X,n,cx,LX⟩,⟨Y,m,cy,LY⟩]).length=n+m):=zh (by rw[←hSS];exact hsl)
 rw[←hMM0]
 clear h hy0 ha hx1 hx2 hy1 hy2 hSS hsl SS HSS
 obtain⟨W,hW,x0,hB⟩:=zAe w #[.bool s,.slice A l c,.bool s',.slice A' l' c'] 50
 have HX0:=zh x0
 clear x0
 have Bz:=Below.refl W.heap.size W
 go_enter Tryz.func29,Tryz.ntmps29
 go_upto_region 2 with(fail)
 rw[←hW]
 clear hW
 go_wp2_with fail
 obtain⟨V1,hW,x1,hN⟩:=zAe W #[.slice X n cx,.slice Y m cy] 45
 rw[←hW]
 clear hW
 obtain⟨v1,hb1⟩:∃b,b=W.heap.size:=⟨_,rfl⟩
 rw[←hb1] at x1 ⊢
 have o0_1:w.heap.size<v1:=by have:=(zxb HX0 Bz).lt;omega
 have ow_1:w.heap.size≤v1:=by have:=zw hB Bz;omega
 replace hB:=zAa (zAa hB Bz) hN
 replace HX0:=zh ((zxb HX0 Bz).below hN)
 have HX1:=zh x1
 clear x1 hN Bz hb1
 have Bz:=Below.refl V1.heap.size V1
 with_reducible refine(places_q (sl_box (n:=2) (L:=[⟨X,n,cx,LX⟩,⟨Y,m,cy,LY⟩]) Vc.cs_len (HX1.out.below (zAa Bz (by go_grown))) rfl rfl) (zh (sl_two (HSX.out.below (zAa hB (zAa (b:=V1) Bz (by go_grown)))) (HSY.out.below (zAa hB (zAa (b:=V1) Bz (by go_grown)))))) (by omega) HPN).mono ?_
 rintro e w1 ⟨PA0,k0,cp,LP,rfl,h1,hps1,hpk1,hpa1,b1⟩
 replace b1:=zAa (a:=V1) (by go_grown) b1
 replace Bz:=zAa Bz b1
 clear b1
 have HPS:=zh hps1
 have hk0:=hpk1
 have HPA:=zh hpa1
 clear hps1 hpk1 hpa1
 go_wp2_with fail
 have HB1:=zh (zAa hB Bz)
 have HA1:=zh (zxb HX0 Bz)
 have HSP:=zh (Sl.below h1 (Below.refl _ _))
 have HPLN:=zh (h1).1
 have HWS:Hid (w.heap.size<w1.heap.size):=zh (by have:=(zxb HX0 Bz).lt;omega)
 have hk1:k0≤200000:=by have:=HPL.out;omega
 clear hB Bz HX0 h1 HX1 hk0
 go_loopg [7,9] k0 (fun gk s7 s9 wr=>AX1 w w1 #[.bool s,.slice A l c,.bool s',.slice A' l' c'] (atP LP (axP q P Q)) k0 MM gk s7 s9 wr)
 case atStart=>exact⟨0,0,none,0,[],rfl,by go_num,Nat.zero_le _,rfl,OwnR.nil _ _ _ _,rfl,OnT.nil _ _,HA1.out.below (by go_grown),zAa HB1.out (by go_grown),Below.refl _ _⟩
 case round =>
  clear HA1
  have hWs:w.heap.size<w1.heap.size:=HWS.out
  clear HB1
  obtain⟨i,k,H,hc,O,rfl,rfl,hi,hgk,ho,hp,hon,hx0,hB,hBW⟩:=hrel
  have HGK:=zh hgk
  have HP:=zh hp
  have HX0:=zh hx0
  have hki:k≤i:=by
   have h1:=congrArg List.length hp
   rw[prs_len,ho.eltn elt_vec (by omega)] at h1
   have h2:=List.length_filter_le (fun x:Int×Rat=>decide (x.2≠0)) ((atP LP (axP q P Q)).take i)
   rw[List.length_take] at h2
   omega
  clear hgk hp hx0
  by_cases hlt:i<k0
  ·obtain⟨bp,op_,rfl,hel⟩:=HSP.out.at ics_len (by omega) (by omega)
   obtain⟨a,ha⟩:∃a,LP[i]?=some a:=⟨LP[i]'(by rw[HPLN.out];exact hlt),List.getElem?_eq_getElem _⟩
   have hnd:ElA w1 bp (op_+i) (ics a):=by have:=hel i a ha;rwa [Nat.mul_one] at this
   have HFS:Hid (((atP LP (axP q P Q)).take i).filter (fun x=>decide (x.2≠0))++(if pget P a+q*pget Q a=0 then [] else [(a,pget P a+q*pget Q a)])=((atP LP (axP q P Q)).take (i+1)).filter (fun x=>decide (x.2≠0))):=zh (by rw[filt_snoc (atP_at ha (axP q P Q)),axP_get])
   have hgx:=HGX.out.below hB
   have hgy:=HGY.out.below hB
   have hra:=HRA.out.below hB
   have i1:(i:Int)<(k0:Int):=by omega
   have i2:(0:Int)≤(i:Int):=by omega
   clear hel ha
   have Bz:=Below.refl wr.heap.size wr
   obtain⟨p0_0,p0_1,p0_2,p0_3,-⟩:=(zxb HX0 Bz).cz
   have p50_0:=(hnd.below (zAa hBW Bz)).c0 (u:=.int .i64 a) rfl
   go_wp2_with fail
   (try simp only[List.append_eq,List.cons_append,List.nil_append])
   refine zAb (.take 0 (.take 1 (.take 2 (.take 3 (.take 4 (.take 5 (.take 6 (.take 7 (.take 8 (.take 9 (.take 11 (.take 12 (.take 13 (.take 14 (.take 15 (.take 16 (.only 10 (.only 17 (.only 18 (.only 19 (.only 20 (.take 21 .done)))))))))))))))))))))) [] (fun w'=>w'.cell? ⟨w.heap.size,0,none⟩=some (.bool s)∧w'.cell? ⟨w.heap.size,1,none⟩=some (.slice A l c)∧w'.cell? ⟨w.heap.size,2,none⟩=some (.bool s')∧w'.cell? ⟨w.heap.size,3,none⟩=some (.slice A' l' c')∧w'.cell? ⟨bp,op_+i,none⟩=some (.int .i64 a)) (by kernel_rfl) (by kernel_rfl) ⟨p0_0,p0_1,p0_2,p0_3,p50_0⟩ ?_
   iterate 16 (refine zT rfl rfl (fun w' ⟨p0_0,p0_1,p0_2,p0_3,p50_0⟩=>by go_simp<;>with_reducible rfl) ?_;try simp only[uW,uX,uY,uZ])
   refine zC 30 rfl rfl (fun K hK=>?_)
   go_simp
   with_reducible refine(getR_q a (GV.below hgy (by go_grown)) (by omega) (by omega)).mono ?_
   rintro e w11 ⟨s11,A11,c11,l11,s11r,A11r,c11r,l11r,rfl,h11,b11⟩
   replace b11:=zAa (a:=wr) (by go_grown) b11
   replace hgx:=hgx.below b11
   replace hon:=hon.below b11
   replace ho:=ho.below b11
   replace hra:=hra.below b11
   replace Bz:=zAa Bz b11
   clear b11
   have z11:=HZY.out a
   clear p0_0 p0_1 p0_2 p0_3 p50_0
   obtain⟨p0_0,p0_1,p0_2,p0_3,-⟩:=(zxb HX0 Bz).cz
   have p50_0:=(hnd.below (zAa hBW Bz)).c0 (u:=.int .i64 a) rfl
   refine hK.out _ _ ⟨p0_0,p0_1,p0_2,p0_3,p50_0⟩ (fun _=>?_)
   try simp only[uW,uX,uY,uZ]
   clear hK K
   refine zC 37 rfl rfl (fun K hK=>?_)
   go_simp
   with_reducible refine(getR_q a (GV.below hgx (by go_grown)) (by omega) (by omega)).mono ?_
   rintro e w12 ⟨s12,A12,c12,l12,s12r,A12r,c12r,l12r,rfl,h12,b12⟩
   replace b12:=zAa (a:=w11) (by go_grown) b12
   replace h11:=h11.below b12
   replace hon:=hon.below b12
   replace ho:=ho.below b12
   replace hra:=hra.below b12
   replace Bz:=zAa Bz b12
   clear b12
   have z12:=HZX.out a
   clear p0_0 p0_1 p0_2 p0_3 p50_0
   obtain⟨p0_0,p0_1,p0_2,p0_3,-⟩:=(zxb HX0 Bz).cz
   have p50_0:=(hnd.below (zAa hBW Bz)).c0 (u:=.int .i64 a) rfl
   refine hK.out _ _ ⟨p0_0,p0_1,p0_2,p0_3,p50_0⟩ (fun _=>?_)
   try simp only[uW,uX,uY,uZ]
   clear hK K
   refine zC 38 rfl rfl (fun K hK=>?_)
   go_simp
   with_reducible refine(mul_r4 (R.below hra (by go_grown)) (R.below h12.r (by go_grown)) (by omega)).mono ?_
   rintro e w13 ⟨s13,A13,c13,l13,s13r,A13r,c13r,l13r,rfl,h13,b13⟩
   replace b13:=zAa (a:=w12) (by go_grown) b13
   replace h11:=h11.below b13
   replace hon:=hon.below b13
   replace ho:=ho.below b13
   replace Bz:=zAa Bz b13
   clear b13
   have z13:=sz_mul hsq z12
   clear p0_0 p0_1 p0_2 p0_3 p50_0
   obtain⟨p0_0,p0_1,p0_2,p0_3,-⟩:=(zxb HX0 Bz).cz
   have p50_0:=(hnd.below (zAa hBW Bz)).c0 (u:=.int .i64 a) rfl
   refine hK.out _ _ ⟨p0_0,p0_1,p0_2,p0_3,p50_0⟩ (fun _=>?_)
   try simp only[uW,uX,uY,uZ]
   clear hK K
   refine zC 39 rfl rfl (fun K hK=>?_)
   go_simp
   with_reducible refine(add_r4 (R.below h11.r (by go_grown)) (R.below h13.r (by go_grown)) (by omega)).mono ?_
   rintro e w14 ⟨s14,A14,c14,l14,s14r,A14r,c14r,l14r,rfl,h14,b14⟩
   replace b14:=zAa (a:=w13) (by go_grown) b14
   replace hon:=hon.below b14
   replace ho:=ho.below b14
   replace Bz:=zAa Bz b14
   clear b14
   have z14:=sz_add z11 z13
   clear p0_0 p0_1 p0_2 p0_3 p50_0
   obtain⟨p0_0,p0_1,p0_2,p0_3,-⟩:=(zxb HX0 Bz).cz
   have p50_0:=(hnd.below (zAa hBW Bz)).c0 (u:=.int .i64 a) rfl
   refine hK.out _ _ ⟨p0_0,p0_1,p0_2,p0_3,p50_0⟩ (fun _=>?_)
   try simp only[uW,uX,uY,uZ]
   clear hK K
   refine zC 40 rfl rfl (fun K hK=>?_)
   go_simp
   have hlt0:=OwnR.lt ho
   have hMM:sz (pget P a+q*pget Q a)+1≤MM:=by omega
   with_reducible refine(put_q a (OwnR.below ho (by go_grown)) (by have:=hBW.size;have:=Bz.size;omega) (OnT.below hon (by go_grown)) (R.below h14.r (by go_grown)) (by omega) hMM (by omega) (zh (hT.out.below (zAa hB (zAa (b:=w14) Bz (by go_grown)))))).mono ?_
   rintro e w15 ⟨H15,k15,c15,O15,rfl,ho15,hp15,hon15,hg15⟩
   replace hg15:=Grew.after (w:=w14) hg15 (by go_grown) hlt0
   clear hlt0
   replace hB:=(zAa hB Bz).trans (hg15.below (by have:=hB.size;have:=Bz.size;have:=hB.size;omega) (fun g hg=>by have:=ho.base g hg;have:=hB.size;have:=Bz.size;omega))
   replace hBW:=(zAa hBW Bz).trans (hg15.below (by have:=hB.size;have:=Bz.size;have:=hBW.size;omega) (fun g hg=>by have:=ho.base g hg;have:=hB.size;have:=Bz.size;omega))
   replace HX0:=zh (hg15.bx (zxb HX0 Bz) (ho.off (by omega)))
   clear hg15 Bz
   have Bz:=Below.refl w15.heap.size w15
   clear p0_0 p0_1 p0_2 p0_3 p50_0
   obtain⟨p0_0,p0_1,p0_2,p0_3,-⟩:=(zxb HX0 Bz).cz
   have p50_0:=(hnd.below (zAa hBW Bz)).c0 (u:=.int .i64 a) rfl
   refine hK.out _ _ ⟨p0_0,p0_1,p0_2,p0_3,p50_0⟩ (fun _=>?_)
   try simp only[uW,uX,uY,uZ]
   clear hK K
   refine zT rfl rfl (fun w' ⟨p0_0,p0_1,p0_2,p0_3,p50_0⟩=>by go_simp<;>with_reducible rfl) ?_
   try simp only[uW,uX,uY,uZ]
   refine zAc ?_
   go_wp2_with fail
   go_roundg (k0-(i+1))
   case measure=>have:=HGK.out;omega
   case rel=>exact⟨i+1,k15,H15,c15,O15,rfl,by go_num,by omega,rfl,OwnR.below ho15 (by go_grown),by rw[hp15,HP.out,HFS.out],OnT.below hon15 (by go_grown),HX0.out.below (zAa Bz (by go_grown)),zAa (zAa hB Bz) (by go_grown),zAa (zAa hBW Bz) (by go_grown)⟩
  ·obtain rfl:i=k0:=by omega
   have i1:¬(i:Int)<(i:Int):=by omega
   have HNV:Hid (NV wr H k hc (nrm (axP q P Q)) MM):=zh ⟨O,ho.sl' elt_vec (ho.eltn elt_vec (by omega)),hon,by
    rw[HP.out,List.take_of_length_le (by rw[atP_len,HPLN.out];exact Nat.le_refl _),atP_nrm HPS.out HRW.out],fun e=>by
    obtain⟨_,_,e9,h9,_⟩:=ho.slice
    cases e9
    exact(h9 e).2⟩
   clear ho hon HX0
   go_wp2_with fail
   go_ret
   exact⟨H,k,hc,rfl,by rw[←hMM0];exact HNV.out,hB⟩
theorem gv_none (w:World) (M:Nat):GV w none 0 0 [] M:=⟨[],Sl.nil _,(fun t ht=>by cases ht),rfl,fun _=>Nat.zero_le _,fun _=>rfl⟩
theorem r_none (w:World):R w false none 0 0 false none 0 0 0 1:=(RN.zero w).r' sz_zero
theorem ax_nil (P:List (Int×Rat)):nrm (axP 0 P [])=nrm P:=by unfold axP;rw[List.map_nil,List.append_nil]
theorem one_q:qof 1 1=1:=by decide +kernel
theorem ax_one (P Q:List (Int×Rat)):nrm (axP (qof 1 1) P Q)=nrm (P++Q):=nrm_ext fun a=>by rw[axP_get,pget_append,one_q];grind
theorem ax_scale (q:Rat) (Q:List (Int×Rat)):nrm (axP q [] Q)=nrm (Q.map fun x=>(x.1,q*x.2)):=rfl
theorem ax_same (P Q:List (Int×Rat)):nrm (axP (qof (-1) 1) P Q)=[]↔nrm P=nrm Q:=by
 constructor
 ·intro h
  refine nrm_ext fun a=>?_
  have h1:=congrArg (fun l=>pget l a) h
  simp only[nrm_get,axP_get,neg_one,pget_nil] at h1
  grind
 ·intro h
  have h1:∀a,pget P a=pget Q a:=fun a=>by rw[←nrm_get P,←nrm_get Q,h]
  refine nrm_eq ⟨List.Pairwise.nil,fun x hx=>by cases hx⟩ fun a=>?_
  rw[axP_get,h1,neg_one,pget_nil]
  grind
theorem normR_q {w:World} {X:Option Addr} {n cx M:Nat} {P:List (Int×Rat)} (hx:GV w X n cx P M) (hM:M≤870) (hn:n≤100000) (hT:Hid (Tab w)) :
  Calls Tryz.prog 25 #[.slice X n cx] w (TellsV w (nrm P) (M+6)):=by
 have hB:=Below.refl w.heap.size w
 have Bz:=Below.refl w.heap.size w
 go_enter Tryz.func25,Tryz.ntmps25
 go_wp2_with fail
 with_reducible refine(axpyR_q (GV.below hx (by go_grown)) (r_none _) (gv_none _ 0) (by omega) (by omega) hn (zh (Tab.below hT.out (zAa hB (zAa (b:=w) Bz (by go_grown)))))).mono ?_
 rintro e w1 ⟨A1,n1,c1,rfl,h1,b1⟩
 replace b1:=zAa (a:=w) (by go_grown) b1
 replace Bz:=zAa Bz b1
 clear b1
 go_wp2_with fail
 go_ret
 have hF:=zAa (c:=w1) hB Bz
 exact⟨_,_,_,rfl,by rw[←ax_nil];exact(NV.below h1 (by go_grown)).mono (by omega),zAa hF (by go_grown)⟩
theorem addR_q {w:World} {X Y:Option Addr} {n cx m cy M M':Nat} {P Q:List (Int×Rat)} (hx:GV w X n cx P M) (hy:GV w Y m cy Q M') (hM:M+M'≤870) (hn:n≤100000) (hm:m≤100000) (hT:Hid (Tab w)) :
  Calls Tryz.prog 27 #[.slice X n cx,.slice Y m cy] w (TellsV w (nrm (P++Q)) (M+M'+6)):=by
 have hB:=Below.refl w.heap.size w
 have Bz:=Below.refl w.heap.size w
 go_enter Tryz.func27,Tryz.ntmps27
 go_wp2_with fail
 with_reducible refine(of_r4 (1) 1 (zh (by omega)) (zh (by omega)) (by omega)).mono ?_
 rintro e w1 ⟨s1,A1,c1,l1,s1r,A1r,c1r,l1r,rfl,h1,b1⟩
 replace b1:=zAa (a:=w) (by go_grown) b1
 replace hx:=hx.below b1
 replace hy:=hy.below b1
 replace Bz:=zAa Bz b1
 clear b1
 have z1:sz (qof (1) 1)≤1:=sz_one (by decide) (by decide) (by decide)
 go_wp2_with fail
 with_reducible refine(axpyR_q (GV.below hx (by go_grown)) (R.mono (R.below h1.r (by go_grown)) z1) (GV.below hy (by go_grown)) (by omega) (by omega) (by omega) (zh (Tab.below hT.out (zAa hB (zAa (b:=w1) Bz (by go_grown)))))).mono ?_
 rintro e w2 ⟨A2,n2,c2,rfl,h2,b2⟩
 replace b2:=zAa (a:=w1) (by go_grown) b2
 replace Bz:=zAa Bz b2
 clear b2
 go_wp2_with fail
 go_ret
 have hF:=zAa (c:=w2) hB Bz
 exact⟨_,_,_,rfl,by rw[←ax_one];exact(NV.below h2 (by go_grown)).mono (by omega),zAa hF (by go_grown)⟩
theorem scaleR_q {w:World} {s s':Bool} {A A':Option Addr} {l c l' c':Nat} {q:Rat} {mq:Nat} {X:Option Addr} {n cx M:Nat} {P:List (Int×Rat)} (ha:R w s A c l s' A' c' l' q mq) (hx:GV w X n cx P M) (hM:M+mq≤870) (hn:n≤100000) (hT:Hid (Tab w)) :
  Calls Tryz.prog 31 #[.agg #[.bool s,.slice A l c,.bool s',.slice A' l' c'],.slice X n cx] w (TellsV w (nrm (P.map fun x=>(x.1,q*x.2))) (M+mq+5)):=by
 obtain⟨W,hW,x0,hB⟩:=zAe w #[.bool s,.slice A l c,.bool s',.slice A' l' c'] 50
 replace hx:=hx.below hB
 replace ha:=ha.below hB
 have HX0:=zh x0
 clear x0
 have Bz:=Below.refl W.heap.size W
 obtain⟨p0_0,p0_1,p0_2,p0_3,-⟩:=(zxb HX0 Bz).cz
 go_enter Tryz.func31,Tryz.ntmps31
 go_wp2_with fail
 rw[←hW]
 clear hW
 go_wp2_with fail
 with_reducible refine(axpyR_q (gv_none _ 0) (R.below ha (by go_grown)) (GV.below hx (by go_grown)) (by omega) (by omega) (by omega) (zh (Tab.below hT.out (zAa hB (zAa (b:=W) Bz (by go_grown)))))).mono ?_
 rintro e w1 ⟨A1,n1,c1,rfl,h1,b1⟩
 replace b1:=zAa (a:=W) (by go_grown) b1
 replace Bz:=zAa Bz b1
 clear b1
 clear p0_0 p0_1 p0_2 p0_3
 go_wp2_with fail
 go_ret
 have hF:=zAa (c:=w1) hB Bz
 exact⟨_,_,_,rfl,by rw[←ax_scale];exact(NV.below h1 (by go_grown)).mono (by omega),zAa hF (by go_grown)⟩
theorem ax_len {P Q:List (Int×Rat)} {n:Nat} {r:Bool} (h:(nrm (axP (qof (-1) 1) P Q)).length=n) (hr:decide (nrm P=nrm Q)=r):((n:Int)==0)=r:=by
 rw[←hr]
 by_cases e:nrm P=nrm Q
 ·rw[decide_eq_true e,←h,(ax_same P Q).2 e]
  rfl
 ·rw[decide_eq_false e]
  have h1:n≠0:=fun h0=>e ((ax_same P Q).1 (List.eq_nil_of_length_eq_zero (h.trans h0)))
  have h2:(n:Int)≠0:=by omega
  simpa using h2
theorem sameR_q {w:World} {X Y:Option Addr} {n cx m cy M M':Nat} {P Q:List (Int×Rat)} (hx:GV w X n cx P M) (hy:GV w Y m cy Q M') (hM:M+M'≤870) (hn:n≤100000) (hm:m≤100000) (hT:Hid (Tab w)) (r:Bool) (hr:Hid (decide (nrm P=nrm Q)=r)) :
  Calls Tryz.prog 40 #[.slice X n cx,.slice Y m cy] w fun e w'=>e=.returned (.bool r)∧Below w.heap.size w w':=by
 have hB:=Below.refl w.heap.size w
 have Bz:=Below.refl w.heap.size w
 go_enter Tryz.func40,Tryz.ntmps40
 go_wp2_with fail
 with_reducible refine(of_r4 (-1) 1 (zh (by omega)) (zh (by omega)) (by omega)).mono ?_
 rintro e w1 ⟨s1,A1,c1,l1,s1r,A1r,c1r,l1r,rfl,h1,b1⟩
 replace b1:=zAa (a:=w) (by go_grown) b1
 replace hx:=hx.below b1
 replace hy:=hy.below b1
 replace Bz:=zAa Bz b1
 clear b1
 have z1:sz (qof (-1) 1)≤1:=sz_one (by decide) (by decide) (by decide)
 go_wp2_with fail
 with_reducible refine(axpyR_q (GV.below hx (by go_grown)) (R.mono (R.below h1.r (by go_grown)) z1) (GV.below hy (by go_grown)) (by omega) (by omega) (by omega) (zh (Tab.below hT.out (zAa hB (zAa (b:=w1) Bz (by go_grown)))))).mono ?_
 rintro e w2 ⟨A2,n2,c2,rfl,h2,b2⟩
 replace b2:=zAa (a:=w1) (by go_grown) b2
 replace Bz:=zAa Bz b2
 clear b2
 have gr:((n2:Int)==0)=r:=ax_len (NV.len h2) hr.out
 go_wp2_with fail
 go_ret
 have hF:=zAa (c:=w2) hB Bz
 exact⟨rfl,zAa hF (by go_grown)⟩
theorem sl_one {w:World} {u:Vc} (h1:Sl Tm.cs 5 w u.A u.n u.c u.L):∀x∈[u],Sl Tm.cs 5 w x.A x.n x.c x.L:=fun x hx=>by
 rcases List.mem_cons.1 hx with rfl | hx
 ·exact h1
 ·cases hx
theorem atP_off {L:List Int} {y:Int×Rat} {Q:List (Int×Rat)} (h:y.1∉L):atP L (y :: Q)=atP L Q:=by
 unfold atP
 refine List.map_congr_left fun a ha=>?_
 rw[zAi,if_neg (by rintro rfl;exact h ha)]
theorem atP_step {y:Int×Rat} {Q:List (Int×Rat)}:∀{L:List Int},L.Nodup→wtot (atP L (y :: Q))≤wtot (atP L Q)+(sz y.2+1)
 | [],_=>Nat.zero_le _
 | a :: L,hn=>by
  have h1:=List.nodup_cons.1 hn
  show sz (pget (y :: Q) a)+1+wtot (atP L (y :: Q))≤sz (pget Q a)+1+wtot (atP L Q)+(sz y.2+1)
  by_cases e:y.1=a
  ·subst e
   rw[atP_off h1.1,zAi,if_pos rfl]
   have:=sz_add (Nat.le_refl (sz y.2)) (Nat.le_refl (sz (pget Q y.1)))
   omega
  ·have:=atP_step (y:=y) (Q:=Q) h1.2
   rw[zAi,if_neg e]
   omega
theorem atP_zero:∀L:List Int,wtot (atP L [])≤2*L.length
 | []=>Nat.le_refl _
 | a :: L=>by
  have h1:=atP_zero L
  have h2:=sz_zero
  show sz 0+1+wtot (atP L [])≤2*(L.length+1)
  omega
theorem atP_tot {L:List Int} (hn:L.Nodup):∀Q:List (Int×Rat),wtot (atP L Q)≤wtot Q+2*L.length
 | []=>by have:=atP_zero L;show _≤0+_;omega
 | y :: Q=>by
  have h1:=atP_tot hn Q
  have h2:=atP_step (y:=y) (Q:=Q) hn
  show _≤sz y.2+1+wtot Q+_
  omega
theorem wtot_take_le (L:List (Int×Rat)) (i:Nat):wtot (L.take i)≤wtot L:=by
 have h:wtot L=wtot (L.take i)+wtot (L.drop i):=by rw[←wtot_append,List.take_append_drop]
 omega
theorem atP_snoc {L:List Int} {i:Nat} {a:Int} (h:L[i]?=some a) (P:List (Int×Rat)):(atP L P).take (i+1)=(atP L P).take i++[(a,pget P a)]:=by rw[List.take_add_one,atP_at h];rfl
theorem wtot_snoc {L:List Int} {i:Nat} {a:Int} (h:L[i]?=some a) (P:List (Int×Rat)):wtot ((atP L P).take (i+1))=wtot ((atP L P).take i)+(sz (pget P a)+1):=by
 rw[atP_snoc h,wtot_append]
 rfl
def DT2 (w:World) (PA0:Option Addr) (cp:Nat) (LP:List Int) (P Q:List (Int×Rat)) (k0 gk:Nat) (s:Value) (wr:World):Prop :=
 ∃(i:Nat) (sS:Bool) (sA:Option Addr) (sc sl:Nat) (sS':Bool) (sA':Option Addr) (sc' sl':Nat),i≤k0∧k0-i=gk∧s=.int .i64 (i:Int)∧RN wr sS sA sc sl sS' sA' sc' sl' (pdot ((atP LP P).take i) Q)∧sz (pdot ((atP LP P).take i) Q)≤1+wtot ((atP LP P).take i)+wtot ((atP LP Q).take i)∧
  Bx wr w.heap.size #[.bool false,.slice none 0 0,.bool false,.slice none 0 0] 50∧Bx wr (w.heap.size+1) #[.bool sS,.slice sA sl sc,.bool sS',.slice sA' sl' sc'] 50∧Below w.heap.size w wr∧Sl ics 1 wr PA0 k0 cp LP
theorem dotR_q {w:World} {X Y:Option Addr} {n cx m cy M M':Nat} {P Q:List (Int×Rat)} (h:GV w X n cx P M) (hy0:GV w Y m cy Q M') (hM:M≤880) (hM':M'≤880) (_hMM:M+M'≤880) (hW:wtot P+wtot Q+4*n≤880) (hm:m≤100000) :
  Calls Tryz.prog 36 #[.slice X n cx,.slice Y m cy] w (TellsR w (pdot P Q)):=by
 have HGX:=zh h
 have HGY:=zh hy0
 have HZX:=zh (gv_sz h)
 have HZY:=zh (gv_sz hy0)
 have hn:n≤1000:=by omega
 obtain⟨LX,hx1,hx2⟩:=gv_rows h
 have HSX:=zh hx1
 have hsl:(plcs [⟨X,n,cx,LX⟩]).length=n:=by
  unfold plcs
  rw[List.flatMap_cons,List.flatMap_nil,List.append_nil,List.length_map]
  exact hx1.1
 have HPN:Hid ((plcs [⟨X,n,cx,LX⟩]).length≤1000000):=zh (by rw[hsl];omega)
 have HRW:Hid (∀x∈P,x.1∈plcs [⟨X,n,cx,LX⟩]):=zh (fun x hx=>by
  unfold plcs
  rw[List.flatMap_cons,List.flatMap_nil,List.append_nil,at_prs,hx2]
  exact List.mem_map_of_mem (f:=fun x:Int×Rat=>x.1) hx)
 have HPL:=zh hsl
 clear h hy0 hx1 hx2 hsl
 obtain⟨W,hW,x0,x1,hB⟩:=boxes2 w #[.bool false,.slice none 0 0,.bool false,.slice none 0 0] 50 #[.bool false,.slice none 0 0,.bool false,.slice none 0 0] 50
 have HX0:=zh x0
 have HX1:=zh x1
 clear x0 x1
 have Bz:=Below.refl W.heap.size W
 go_enter Tryz.func36,Tryz.ntmps36
 go_upto_region 2 with(fail)
 rw[←hW]
 clear hW
 go_wp2_with fail
 obtain⟨V1,hW,x2,hN⟩:=zAe W #[.slice X n cx] 45
 rw[←hW]
 clear hW
 obtain⟨v2,hb2⟩:∃b,b=W.heap.size:=⟨_,rfl⟩
 rw[←hb2] at x2 ⊢
 have o0_2:w.heap.size<v2:=by have:=(zxb HX0 Bz).lt;omega
 have o1_2:w.heap.size+1<v2:=by have:=(zxb HX1 Bz).lt;omega
 have ow_2:w.heap.size≤v2:=by have:=zw hB Bz;omega
 replace hB:=zAa (zAa hB Bz) hN
 replace HX0:=zh ((zxb HX0 Bz).below hN)
 replace HX1:=zh ((zxb HX1 Bz).below hN)
 have HX2:=zh x2
 clear x2 hN Bz hb2
 have Bz:=Below.refl V1.heap.size V1
 have HLW:Hid (w.heap.size+1<V1.heap.size):=zh (by have:=(zxb HX1 Bz).lt;omega)
 with_reducible refine(places_q (sl_box (n:=1) (L:=[⟨X,n,cx,LX⟩]) Vc.cs_len (HX2.out.below (zAa Bz (by go_grown))) rfl rfl) (zh (sl_one (HSX.out.below (zAa hB (zAa (b:=V1) Bz (by go_grown)))))) (by omega) HPN).mono ?_
 rintro e w1 ⟨PA0,k0,cp,LP,rfl,h1,hps1,hpk1,hpa1,b1⟩
 replace b1:=zAa (a:=V1) (by go_grown) b1
 replace Bz:=zAa Bz b1
 clear b1
 have HPS:=zh hps1
 have hk0:=hpk1
 have HPA:=zh hpa1
 clear hps1 hpk1 hpa1
 go_wp2_with fail
 have HB1:=zh (zAa hB Bz)
 have XX0:=zh (zxb HX0 Bz)
 have XX1:=zh (zxb HX1 Bz)
 have HSP:=zh (Sl.below h1 (Below.refl _ _))
 have HPLN:=zh (h1).1
 have HAO:Hid (∀a,PA0=some a→a.block≠w.heap.size+1):=zh (fun a ha=>by have h1:=HPA.out a ha;have h2:=HLW.out;omega)
 have hk1:k0≤n:=by have:=HPL.out;omega
 have HTP:Hid (1+wtot (atP LP P)+wtot (atP LP Q)≤890):=zh (by
  have hnd:LP.Nodup:=HPS.out.asc.imp fun e=>by omega
  have h1:=atP_tot hnd P
  have h2:=atP_tot hnd Q
  rw[HPLN.out] at h1 h2
  omega)
 clear hB Bz HX0 HX1 HX2 h1 hk0
 go_loopg [7] k0 (fun gk s wr=>DT2 w PA0 cp LP P Q k0 gk s wr)
 case atStart=>exact⟨0,_,_,_,_,_,_,_,_,Nat.zero_le _,rfl,by go_num,RN.zero _,Nat.le_trans sz_zero (by omega),XX0.out.below (by go_grown),XX1.out.below (by go_grown),zAa HB1.out (by go_grown),HSP.out.below (by go_grown)⟩
 case round =>
  clear HB1 XX0 XX1
  obtain⟨i,sS,sA,sc,sl,sS',sA',sc',sl',hi,hgk,rfl,hs,hss,hx0,hx1,hB,hpl⟩:=hrel
  have HGK:=zh hgk
  have HX0:=zh hx0
  have HX1:=zh hx1
  clear hgk hx0 hx1
  by_cases hlt:i<k0
  ·obtain⟨bp,op_,rfl,hel⟩:=hpl.at ics_len (by omega) (by omega)
   obtain⟨a,ha⟩:∃a,LP[i]?=some a:=⟨LP[i]'(by rw[HPLN.out];exact hlt),List.getElem?_eq_getElem _⟩
   have hnd:ElA wr bp (op_+i) (ics a):=by have:=hel i a ha;rwa [Nat.mul_one] at this
   have HSM:Hid (pdot ((atP LP P).take i) Q+pget P a*pget Q a=pdot ((atP LP P).take (i+1)) Q):=zh (by rw[atP_snoc ha,pdot_snoc])
   have HWX:=zh (wtot_snoc ha P)
   have HWY:=zh (wtot_snoc ha Q)
   have hgx:=HGX.out.below hB
   have hgy:=HGY.out.below hB
   have hb1:=HTP.out
   have hb2:=wtot_take_le (atP LP P) (i+1)
   have hb3:=wtot_take_le (atP LP Q) (i+1)
   rw[HWX.out] at hb2
   rw[HWY.out] at hb3
   have i1:(i:Int)<(k0:Int):=by omega
   have i2:(0:Int)≤(i:Int):=by omega
   clear hel ha
   have Bz:=Below.refl wr.heap.size wr
   obtain⟨p1_0,p1_1,p1_2,p1_3,-⟩:=(zxb HX1 Bz).cz
   have f1_0:=(zxb HX1 Bz).frozen 0
   have f1_1:=(zxb HX1 Bz).frozen 1
   have f1_2:=(zxb HX1 Bz).frozen 2
   have f1_3:=(zxb HX1 Bz).frozen 3
   have y1:=(zxb HX1 Bz).lt
   have p50_0:=(hnd.below Bz).c0 (u:=.int .i64 a) rfl
   go_wp2_with fail
   (try simp only[List.append_eq,List.cons_append,List.nil_append])
   refine zAb (.take 0 (.pure 1 (.pure 2 (.pure 3 (.pure 4 (.take 5 (.pure 7 (.pure 8 (.pure 9 (.pure 10 (.take 11 (.only 6 (.only 12 (.only 13 (.only 14 (.only 15 .done)))))))))))))))) [15] (fun w'=>w'.cell? ⟨(w.heap.size+1),0,none⟩=some (.bool sS)∧w'.cell? ⟨(w.heap.size+1),1,none⟩=some (.slice sA sl sc)∧w'.cell? ⟨(w.heap.size+1),2,none⟩=some (.bool sS')∧w'.cell? ⟨(w.heap.size+1),3,none⟩=some (.slice sA' sl' sc')∧w'.cell? ⟨bp,op_+i,none⟩=some (.int .i64 a)) (by kernel_rfl) (by kernel_rfl) ⟨p1_0,p1_1,p1_2,p1_3,p50_0⟩ ?_
   refine zT rfl rfl (fun w' ⟨p1_0,p1_1,p1_2,p1_3,p50_0⟩=>by go_simp<;>with_reducible rfl) ?_
   try simp only[uW,uX,uY,uZ]
   iterate 4 (refine zP rfl rfl (fun w'=>by go_simp<;>with_reducible rfl) ?_;try simp only[uW,uX,uY,uZ])
   refine zT rfl rfl (fun w' ⟨p1_0,p1_1,p1_2,p1_3,p50_0⟩=>by go_simp<;>with_reducible rfl) ?_
   try simp only[uW,uX,uY,uZ]
   iterate 4 (refine zP rfl rfl (fun w'=>by go_simp<;>with_reducible rfl) ?_;try simp only[uW,uX,uY,uZ])
   refine zT rfl rfl (fun w' ⟨p1_0,p1_1,p1_2,p1_3,p50_0⟩=>by go_simp<;>with_reducible rfl) ?_
   try simp only[uW,uX,uY,uZ]
   refine zC 23 rfl rfl (fun K hK=>?_)
   go_simp
   with_reducible refine(getR_q a (GV.below hgx (by go_grown)) (by omega) (by omega)).mono ?_
   rintro e w11 ⟨s11,A11,c11,l11,s11r,A11r,c11r,l11r,rfl,h11,b11⟩
   replace b11:=zAa (a:=wr) (by go_grown) b11
   replace hgy:=hgy.below b11
   replace hpl:=hpl.below b11
   replace hs:=hs.below b11
   replace Bz:=zAa Bz b11
   clear b11
   have z11:=HZX.out a
   clear p1_0 p1_1 p1_2 p1_3 f1_0 f1_1 f1_2 f1_3 y1 p50_0
   obtain⟨p1_0,p1_1,p1_2,p1_3,-⟩:=(zxb HX1 Bz).cz
   have f1_0:=(zxb HX1 Bz).frozen 0
   have f1_1:=(zxb HX1 Bz).frozen 1
   have f1_2:=(zxb HX1 Bz).frozen 2
   have f1_3:=(zxb HX1 Bz).frozen 3
   have y1:=(zxb HX1 Bz).lt
   have p50_0:=(hnd.below Bz).c0 (u:=.int .i64 a) rfl
   refine hK.out _ _ ⟨p1_0,p1_1,p1_2,p1_3,p50_0⟩ (fun _=>?_)
   try simp only[uW,uX,uY,uZ]
   clear hK K
   refine zC 29 rfl rfl (fun K hK=>?_)
   go_simp
   with_reducible refine(getR_q a (GV.below hgy (by go_grown)) (by omega) (by omega)).mono ?_
   rintro e w12 ⟨s12,A12,c12,l12,s12r,A12r,c12r,l12r,rfl,h12,b12⟩
   replace b12:=zAa (a:=w11) (by go_grown) b12
   replace h11:=h11.below b12
   replace hpl:=hpl.below b12
   replace hs:=hs.below b12
   replace Bz:=zAa Bz b12
   clear b12
   have z12:=HZY.out a
   clear p1_0 p1_1 p1_2 p1_3 f1_0 f1_1 f1_2 f1_3 y1 p50_0
   obtain⟨p1_0,p1_1,p1_2,p1_3,-⟩:=(zxb HX1 Bz).cz
   have f1_0:=(zxb HX1 Bz).frozen 0
   have f1_1:=(zxb HX1 Bz).frozen 1
   have f1_2:=(zxb HX1 Bz).frozen 2
   have f1_3:=(zxb HX1 Bz).frozen 3
   have y1:=(zxb HX1 Bz).lt
   have p50_0:=(hnd.below Bz).c0 (u:=.int .i64 a) rfl
   refine hK.out _ _ ⟨p1_0,p1_1,p1_2,p1_3,p50_0⟩ (fun _=>?_)
   try simp only[uW,uX,uY,uZ]
   clear hK K
   refine zC 30 rfl rfl (fun K hK=>?_)
   go_simp
   with_reducible refine(mul_r4 (R.below h11.r (by go_grown)) (R.below h12.r (by go_grown)) (by omega)).mono ?_
   rintro e w13 ⟨s13,A13,c13,l13,s13r,A13r,c13r,l13r,rfl,h13,b13⟩
   replace b13:=zAa (a:=w12) (by go_grown) b13
   replace hpl:=hpl.below b13
   replace hs:=hs.below b13
   replace Bz:=zAa Bz b13
   clear b13
   have z13:=sz_mul (Nat.le_refl (sz (pget P a))) (Nat.le_refl (sz (pget Q a)))
   clear p1_0 p1_1 p1_2 p1_3 f1_0 f1_1 f1_2 f1_3 y1 p50_0
   obtain⟨p1_0,p1_1,p1_2,p1_3,-⟩:=(zxb HX1 Bz).cz
   have f1_0:=(zxb HX1 Bz).frozen 0
   have f1_1:=(zxb HX1 Bz).frozen 1
   have f1_2:=(zxb HX1 Bz).frozen 2
   have f1_3:=(zxb HX1 Bz).frozen 3
   have y1:=(zxb HX1 Bz).lt
   have p50_0:=(hnd.below Bz).c0 (u:=.int .i64 a) rfl
   refine hK.out _ _ ⟨p1_0,p1_1,p1_2,p1_3,p50_0⟩ (fun _=>?_)
   try simp only[uW,uX,uY,uZ]
   clear hK K
   refine zC 31 rfl rfl (fun K hK=>?_)
   go_simp
   with_reducible refine(add_r4 (R.below hs.r (by go_grown)) (R.below h13.r (by go_grown)) (by omega)).mono ?_
   rintro e w14 ⟨s14,A14,c14,l14,s14r,A14r,c14r,l14r,rfl,h14,b14⟩
   replace b14:=zAa (a:=w13) (by go_grown) b14
   replace hpl:=hpl.below b14
   replace Bz:=zAa Bz b14
   clear b14
   have z14:=sz_add hss z13
   clear p1_0 p1_1 p1_2 p1_3 f1_0 f1_1 f1_2 f1_3 y1 p50_0
   obtain⟨p1_0,p1_1,p1_2,p1_3,-⟩:=(zxb HX1 Bz).cz
   have f1_0:=(zxb HX1 Bz).frozen 0
   have f1_1:=(zxb HX1 Bz).frozen 1
   have f1_2:=(zxb HX1 Bz).frozen 2
   have f1_3:=(zxb HX1 Bz).frozen 3
   have y1:=(zxb HX1 Bz).lt
   have p50_0:=(hnd.below Bz).c0 (u:=.int .i64 a) rfl
   refine hK.out _ _ ⟨p1_0,p1_1,p1_2,p1_3,p50_0⟩ (fun _=>?_)
   try simp only[uW,uX,uY,uZ]
   clear hK K
   refine zAf (o:=⟨none,_,_,_,_,_⟩) rfl rfl (by decide) (fun K hK=>?_)
   go_simp
   refine hK.out _ _ ?_
   try simp only[Act.put,uX,uY,uZ]
   clear hK K
   refine zAc ?_
   obtain⟨V11,hW,x,kk,far,bel⟩:=store4 (.bool s14) (.slice A14 l14 c14) (.bool s14r) (.slice A14r l14r c14r) (zxb HX1 Bz) nofun nofun nofun nofun
   have hoff:∀(k j:Nat),k≠(w.heap.size+1)→V11.cell? ⟨k,j,none⟩=w14.cell? ⟨k,j,none⟩:=fun k j hk=>by rw[hW];exact cell_off4 (Ne.symm hk)
   rw[←hW]
   clear hW
   replace h14:=h14.k kk
   replace hpl:=hpl.off hoff HAO.out
   replace hB:=bel w.heap.size w (by omega) (zAa hB Bz)
   replace HX0:=zh (far _ _ _ (by omega) (zxb HX0 Bz))
   replace HX1:=zh x
   clear x kk far bel Bz hoff
   have Bz:=Below.refl V11.heap.size V11
   clear p1_0 p1_1 p1_2 p1_3 f1_0 f1_1 f1_2 f1_3 y1 p50_0
   go_wp2_with fail
   go_roundg (k0-(i+1))
   case measure=>have:=HGK.out;omega
   case rel=>exact⟨i+1,_,_,_,_,_,_,_,_,by omega,rfl,by go_num,by rw[←HSM.out];exact RN.below h14 (by go_grown),by rw[←HSM.out,HWX.out,HWY.out];omega,HX0.out.below (zAa Bz (by go_grown)),HX1.out.below (zAa Bz (by go_grown)),zAa (zAa hB Bz) (by go_grown),Sl.below hpl (by go_grown)⟩
  ·obtain rfl:i=k0:=by omega
   have i1:¬(i:Int)<(i:Int):=by omega
   have HEND:Hid (pdot ((atP LP P).take i) Q=pdot P Q):=zh (by rw[List.take_of_length_le (by rw[atP_len,HPLN.out];exact Nat.le_refl _),atP_dot HPS.out HRW.out])
   have Bz:=Below.refl wr.heap.size wr
   obtain⟨p0_0,p0_1,p0_2,p0_3,-⟩:=(zxb HX0 Bz).cz
   have f0_0:=(zxb HX0 Bz).frozen 0
   have f0_1:=(zxb HX0 Bz).frozen 1
   have f0_2:=(zxb HX0 Bz).frozen 2
   have f0_3:=(zxb HX0 Bz).frozen 3
   have y0:=(zxb HX0 Bz).lt
   obtain⟨p1_0,p1_1,p1_2,p1_3,-⟩:=(zxb HX1 Bz).cz
   go_wp2_with fail
   (try simp only[Exit.inBlock,Exit.then])
   refine bodyPost_ret (by simp[results,Tryz.results36,go_sem,p0_0,p0_1,p0_2,p0_3];try rfl) rfl ?_
   obtain⟨V11,hW,x,kk,far,bel⟩:=store4 (.bool sS) (.slice sA sl sc) (.bool sS') (.slice sA' sl' sc') (zxb HX0 Bz) nofun nofun nofun nofun
   rw[←hW]
   clear hW
   replace hs:=hs.k kk
   replace hB:=bel w.heap.size w (by omega) (zAa hB Bz)
   replace HX1:=zh (far _ _ _ (by omega) (zxb HX1 Bz))
   replace HX0:=zh x
   clear x kk far bel Bz
   have Bz:=Below.refl V11.heap.size V11
   have hF:=zAa (c:=V11) hB Bz
   exact⟨_,_,_,_,_,_,_,_,rfl,by rw[←HEND.out];exact RN.below hs (by go_grown),zAa hF (by go_grown)⟩
open Go.RowKit Tw
theorem elt_frs:Elt Fr.cs 4 25 50:=Elt.of (.agg #[.bool false,.slice none 0 0,.bool false,.slice none 0 0]) 64 Tryz.underlying25 (by kernel_rfl) (by omega) (by kernel_rfl) (nou_list (by kernel_rfl)) Fr.cs_len
 (fun x u hu=>by simp[Fr.cs] at hu;rcases hu with rfl | rfl | rfl | rfl<;>rfl) (fun x u hu n=>by simp[Fr.cs] at hu;rcases hu with rfl | rfl | rfl | rfl<;>simp)
theorem fr_zero {i:TypeInfo} {z:Value} (h:Tryz.prog.info? 50=some i) (hz:i.zero=some z):z.cells.toList=Fr.cs zFr:=by
 have h1:(Tryz.prog.info? 50).map (fun i=>i.zero)=some (some (.agg #[.bool false,.slice none 0 0,.bool false,.slice none 0 0])):=by kernel_rfl
 rw[h,Option.map_some,hz] at h1
 obtain rfl:z=.agg #[.bool false,.slice none 0 0,.bool false,.slice none 0 0]:=by simpa using h1
 rfl
theorem fr_store {w:World} {B g n cap i:Nat} {L:List Fr} (h:OwnR w B 50 4 (.slice (some ⟨g,0,none⟩) n cap) n (flat Fr.cs L)) {y:Fr} (hy:L[i]?=some y) (x:Fr) :
  ∃V,V=(((w.setCell ⟨g,i*4,none⟩ (.bool x.s)).setCell ⟨g,i*4+1,none⟩ (.slice x.A x.l x.c)).setCell ⟨g,i*4+2,none⟩ (.bool x.s')).setCell ⟨g,i*4+3,none⟩ (.slice x.A' x.l' x.c')∧
   OwnR V B 50 4 (.slice (some ⟨g,0,none⟩) n cap) n (flat Fr.cs (L.set i x))∧Grew w V (.slice (some ⟨g,0,none⟩) n cap) (.slice (some ⟨g,0,none⟩) n cap):=by
 have:=elt_frs.sets h hy (y:=x) [(0,.bool x.s),(1,.slice x.A x.l x.c),(2,.bool x.s'),(3,.slice x.A' x.l' x.c')] (fun p hp=>by simp at hp;rcases hp with rfl | rfl | rfl | rfl<;>exact⟨by simp,by simp⟩) rfl
 exact⟨_,rfl,this⟩
theorem fr_0 {w:World} {B g n cap i:Nat} {L:List Fr} (h:OwnR w B 50 4 (.slice (some ⟨g,0,none⟩) n cap) n (flat Fr.cs L)) {y:Fr} (hy:L[i]?=some y):w.cell? ⟨g,i*4,none⟩=some (.bool y.s) :=
 elt_frs.cell h hy (j:=0) (u:=.bool y.s) (by omega) rfl
def AllFr (w:World) (K:Nat) (L:List Fr):Prop:=∀x∈L,FrOk w K x
theorem AllFr.below {w w':World} {K:Nat} {L:List Fr} (h:AllFr w K L) (hb:Below w.heap.size w w'):AllFr w' K L:=fun x hx=>(h x hx).below hb
theorem AllFr.k {w w':World} {K:Nat} {L:List Fr} (h:AllFr w K L) (hb:K64 w w'):AllFr w' K L:=fun x hx=>(h x hx).k hb
theorem AllFr.set {w:World} {K:Nat} {L:List Fr} (h:AllFr w K L) (i:Nat) {x:Fr} (hx:FrOk w K x):AllFr w K (L.set i x):=fun y hy=>by
 rcases List.mem_or_eq_of_mem_set hy with hy | rfl
 ·exact h y hy
 ·exact hx
open Go.RowKit Tw
def AllRn (w:World) (K:Nat) (L:List Fr):Prop:=∀x∈L,RN w x.s x.A x.c x.l x.s' x.A' x.c' x.l' x.q∧x.ex=true∧sz x.q+1≤K
theorem AllRn.below {w w':World} {K:Nat} {L:List Fr} (h:AllRn w K L) (hb:Below w.heap.size w w'):AllRn w' K L:=fun x hx=>⟨(h x hx).1.below hb,(h x hx).2⟩
theorem AllRn.k {w w':World} {K:Nat} {L:List Fr} (h:AllRn w K L) (hb:K64 w w'):AllRn w' K L:=fun x hx=>⟨(h x hx).1.k hb,(h x hx).2⟩
theorem AllRn.set {w:World} {K:Nat} {L:List Fr} (h:AllRn w K L) (i:Nat) {x:Fr} (hx:RN w x.s x.A x.c x.l x.s' x.A' x.c' x.l' x.q∧x.ex=true∧sz x.q+1≤K):AllRn w K (L.set i x):=fun y hy=>by
 rcases List.mem_or_eq_of_mem_set hy with hy | rfl
 ·exact h y hy
 ·exact hx
theorem AllRn.put {w:World} {K:Nat} {s s':Bool} {A A':Option Addr} {c l c' l':Nat} {q:Rat} (h:RN w s A c l s' A' c' l' q) (hs:sz q+1≤K):RN w s A c l s' A' c' l' q∧true=true∧sz q+1≤K:=⟨h,rfl,hs⟩
theorem AllRn.zeros (w:World) (m:Nat) {K:Nat} (hK:2≤K):AllRn w K (List.replicate m zFr):=fun x hx=>by
 rw[List.eq_of_mem_replicate hx]
 refine⟨(zFr_ok w (m:=1) (by omega)).rn.1 rfl,rfl,?_⟩
 have:=sz_zero
 show sz 0+1≤K
 omega
def denseF (P:List (Int×Rat)) (m:Nat):List Rat:=(List.range m).map fun(i:Nat)=>pget P (i:Int)
def DnsE (D:List Fr) (T:List Tm):Prop:=∀(i:Nat) y,D[i]?=some y→y.q=pget (prs T) (i:Int)
theorem DnsE.start (m:Nat):DnsE (List.replicate m zFr) []:=fun i y hy=>by rw[List.eq_of_mem_replicate (List.mem_of_getElem? hy)];rfl
theorem dns_get {T:List Tm} {j:Nat} {x:Tm} (hx:T[j]?=some x) (a:Int):pget (prs (T.take (j+1))) a=pget (prs (T.take j)) a+if x.at_=a then x.x.q else 0:=by
 rw[take_snoc hx,prs_append,pget_append]
 congr 1
 exact pget_one (x.at_,x.x.q) a
theorem DnsE.skip {D:List Fr} {T:List Tm} {j:Nat} {x:Tm} (h:DnsE D (T.take j)) (hx:T[j]?=some x) (ho:x.at_<0∨(D.length:Int)≤x.at_):DnsE D (T.take (j+1)):=fun i y hy=>by
 have hi:=(List.getElem?_eq_some_iff.1 hy).1
 rw[dns_get hx,if_neg (by omega),Rat.add_zero]
 exact h i y hy
theorem DnsE.step {D:List Fr} {T:List Tm} {j a:Nat} {x:Tm} {y:Fr} (h:DnsE D (T.take j)) (hr:Rise (prs T)) (hx:T[j]?=some x) (ha:x.at_=(a:Int)) (hy:D[a]?=some y) (r:Fr) (hq:r.q=x.x.q):DnsE (D.set a r) (T.take (j+1)):=fun i z hz=>by
 have hal:=(List.getElem?_eq_some_iff.1 hy).1
 by_cases e:i=a
 ·subst e
  rw[List.getElem?_set_self hal,Option.some.injEq] at hz
  subst hz
  have h2:Rise (prs (T.take (j+1))):=by rw[←prs_take];exact List.Pairwise.sublist (List.take_sublist _ _) hr
  have h3:(x.at_,x.x.q)∈prs (T.take (j+1)):=by rw[take_snoc hx,prs_append];exact List.mem_append_right _ (List.mem_singleton.2 rfl)
  rw[←ha,h2.get h3,hq]
 ·rw[List.getElem?_set_ne (fun e2=>e e2.symm)] at hz
  rw[dns_get hx,if_neg (by omega),Rat.add_zero]
  exact h i z hz
theorem DnsE.done {D:List Fr} {T:List Tm} {m:Nat} (h:DnsE D T) (hl:D.length=m):D.map (fun x=>x.q)=denseF (prs T) m:=by
 apply List.ext_getElem?
 intro i
 unfold denseF
 rw[List.getElem?_map,List.getElem?_map]
 by_cases hi:i<m
 ·rw[List.getElem?_range hi,List.getElem?_eq_getElem (by omega)]
  simp only[Option.map_some]
  rw[h i _ (List.getElem?_eq_getElem (by omega))]
 ·rw[List.getElem?_eq_none (by omega),List.getElem?_eq_none (by rw[List.length_range];omega)]
  rfl
theorem denseF_nrm (P:List (Int×Rat)) (m:Nat):denseF (nrm P) m=denseF P m:=by
 unfold denseF
 exact List.map_congr_left fun i _=>nrm_get P i
def TellsFs (w:World) (l:List Rat) (K:Nat) (e:Ending) (w':World):Prop:=∃A n c L,e=.returned (.slice A n c)∧Sl Fr.cs 4 w' A n c L∧AllRn w' K L∧L.map (fun x=>x.q)=l∧Below w.heap.size w w'
def DS1 (w:World) (g m M nm:Nat) (X:Value) (T:List Tm) (gk:Nat) (s:Value) (wr:World):Prop :=
 ∃(j:Nat) (D:List Fr),j≤nm∧nm-j=gk∧s=.int .i64 (j:Int)∧OwnR wr w.heap.size 50 4 (.slice (some ⟨g,0,none⟩) m m) m (flat Fr.cs D)∧OwnR wr w.heap.size 114 5 X nm (flat Tm.cs T)∧AllRn wr M D∧DnsE D (T.take j)∧OnT wr T (fun _=>M)∧Below w.heap.size w wr
theorem dense_no {w:World} {X:Option Addr} {nx cx:Nat} (k:Int) (g1:k<1):Calls Tryz.prog 44 #[.slice X nx cx,.int .i64 k] w fun e w'=>e=.returned (.slice none 0 0)∧Below w.heap.size w w':=by
 go_enter Tryz.func44,Tryz.ntmps44
 go_wp2_with fail
 go_ret
 exact⟨rfl,Below.refl _ _⟩
theorem denseV_q {w:World} {X:Option Addr} {nx cx m M:Nat} {P:List (Int×Rat)} (h:GV w X nx cx P M) (hM:M≤18000) (hM2:2≤M) (hnx:nx≤1000000) (hm1:1≤m) (hm:m≤65536) (hT:Hid (Tab w)) :
  Calls Tryz.prog 44 #[.slice X nx cx,.int .i64 (m:Int)] w (TellsFs w (denseF P m) M):=by
 have HX:=zh h
 have HPL:=zh h.len
 have g1:¬(m:Int)<1:=by omega
 have g2:(m:Int)≤65536:=by omega
 clear h
 go_enter Tryz.func44,Tryz.ntmps44
 go_wp2_with (at_make;refine And.left (b:=True) ?_)
 refine⟨?_,trivial⟩
 refine Elt.makeN elt_frs zFr (fun i z h1 h2=>fr_zero h1 h2) rfl _ _ rfl .i64 .i64 m (by rw[show min (m:Int) 65536=(m:Int) by omega];rfl) (by rw[show min (m:Int) 65536=(m:Int) by omega];rfl) (by omega) w.heap.size (Nat.le_refl _) ?_
 intro g w1 ho1 b1
 have HO1:=zh ho1
 have hnq:=normO_q (HX.out.below b1) (by omega) hnx (zh (hT.out.below b1))
 have HB1:=zh b1
 clear ho1 b1
 go_wp2_with fail
 with_reducible refine hnq.mono ?_
 rintro e w2 ⟨Am,nm,cm,T,rfl,ho2,on2,ep,b2⟩
 have HAP:Ap (.slice Am nm cm) (.slice (some ⟨g,0,none⟩) m m):=by
  cases e:(Value.slice Am nm cm).ownBlock with
  | none=>exact .inl e
  | some b =>
   refine .inr fun e2=>?_
   rw[e] at e2
   have h1:=ho2.base b e
   have h2:=HO1.out.lt b e2.symm
   omega
 have HO2:=zh (ho2.rebase HB1.out.size)
 have HO3:=zh (HO1.out.below b2)
 have HN2:=zh on2
 have HEP:=zh ep
 have HRI:Hid (Rise (prs T)):=zh (by rw[ep];exact(nrm_nrm P).rise)
 have HTL:=zh (ho2.eltn elt_vec (by omega))
 have HB2:=zh (zAa HB1.out b2)
 have hnm:nm≤1000000:=by
  have h1:=nrm_len P
  rw[←ep,prs_len,ho2.eltn elt_vec (by omega)] at h1
  have:=HPL.out
  omega
 clear hnq ho2 on2 ep b2 HO1 HB1
 go_wp2_with fail
 go_loopg [16] nm (fun gk s wr=>DS1 w g m M nm (.slice Am nm cm) T gk s wr)
 case atStart=>exact⟨0,_,Nat.zero_le _,rfl,rfl,HO3.out,HO2.out,AllRn.zeros _ _ hM2,by rw[List.take_zero];exact DnsE.start m,HN2.out,HB2.out⟩
 case round =>
  clear HO2 HO3 HN2 HB2
  obtain⟨j,D0,hj,hgj,rfl,ho,ht,hfr,hd,hon,hB⟩:=hrel
  have HGJ:=zh hgj
  have HD:=zh hd
  have HDL:=zh (ho.eltn elt_frs (by omega))
  clear hgj hd
  by_cases hlj:j<nm
  ·obtain⟨eb,offe,rfl,hel⟩:=(ht.sl' elt_vec HTL.out).at Tm.cs_len (by omega) (by omega)
   obtain⟨x,hx⟩:∃x,T[j]?=some x:=⟨T[j]'(by rw[HTL.out];exact hlj),List.getElem?_eq_getElem _⟩
   have hnd:=hel j x hx
   have HXI:=zh hx
   have HXN:=zh (hon x (List.mem_of_getElem? hx))
   have apT:=HAP
   have j1:(j:Int)<(nm:Int):=by omega
   have j2:(0:Int)≤(j:Int):=by omega
   clear hel hx
   by_cases k1:x.at_<0
   ·have HD2:=zh (HD.out.skip HXI.out (.inl k1))
    have g3:¬0≤x.at_:=by omega
    have Bz:=Below.refl wr.heap.size wr
    obtain⟨p50_0,p50_1,p50_2,p50_3,p50_4,-⟩:=(hnd.below Bz).ez
    go_upto_region 7 with(fail)
    obtain⟨V11,hW,x0,hN⟩:=zAe wr #[.int .i64 x.at_,.bool x.x.s,.slice x.x.A x.x.l x.x.c,.bool x.x.s',.slice x.x.A' x.x.l' x.x.c'] 114
    rw[←hW]
    clear hW
    obtain⟨v0,hb0⟩:∃b,b=wr.heap.size:=⟨_,rfl⟩
    rw[←hb0] at x0 ⊢
    have ow_0:w.heap.size≤v0:=by have:=zw hB Bz;omega
    replace hfr:=hfr.below hN
    replace hon:=hon.below hN
    replace ho:=ho.below hN
    replace ht:=ht.below hN
    replace hB:=zAa (zAa hB Bz) hN
    have HX0:=zh x0
    clear x0 hN Bz hb0
    have Bz:=Below.refl V11.heap.size V11
    clear p50_0 p50_1 p50_2 p50_3 p50_4
    have p0_0:=(zxb HX0 Bz).cell 0 (.int .i64 x.at_) rfl
    go_wp2_with fail
    go_roundg (nm-(j+1))
    case measure=>have:=HGJ.out;omega
    case rel=>exact⟨j+1,_,by omega,rfl,by go_num,OwnR.below ho (by go_grown),OwnR.below ht (by go_grown),AllRn.below hfr (by go_grown),HD2.out,OnT.below hon (by go_grown),zAa (zAa hB Bz) (by go_grown)⟩
   ·by_cases k2:(m:Int)≤x.at_
    ·have HD2:=zh (HD.out.skip HXI.out (.inr (by rw[HDL.out];exact k2)))
     have g3:0≤x.at_:=by omega
     have g4:¬x.at_<(m:Int):=by omega
     have Bz:=Below.refl wr.heap.size wr
     obtain⟨p50_0,p50_1,p50_2,p50_3,p50_4,-⟩:=(hnd.below Bz).ez
     go_upto_region 7 with(fail)
     obtain⟨V11,hW,x0,hN⟩:=zAe wr #[.int .i64 x.at_,.bool x.x.s,.slice x.x.A x.x.l x.x.c,.bool x.x.s',.slice x.x.A' x.x.l' x.x.c'] 114
     rw[←hW]
     clear hW
     obtain⟨v0,hb0⟩:∃b,b=wr.heap.size:=⟨_,rfl⟩
     rw[←hb0] at x0 ⊢
     have ow_0:w.heap.size≤v0:=by have:=zw hB Bz;omega
     replace hfr:=hfr.below hN
     replace hon:=hon.below hN
     replace ho:=ho.below hN
     replace ht:=ht.below hN
     replace hB:=zAa (zAa hB Bz) hN
     have HX0:=zh x0
     clear x0 hN Bz hb0
     have Bz:=Below.refl V11.heap.size V11
     clear p50_0 p50_1 p50_2 p50_3 p50_4
     have p0_0:=(zxb HX0 Bz).cell 0 (.int .i64 x.at_) rfl
     go_wp2_with fail
     go_roundg (nm-(j+1))
     case measure=>have:=HGJ.out;omega
     case rel=>exact⟨j+1,_,by omega,rfl,by go_num,OwnR.below ho (by go_grown),OwnR.below ht (by go_grown),AllRn.below hfr (by go_grown),HD2.out,OnT.below hon (by go_grown),zAa (zAa hB Bz) (by go_grown)⟩
    ·have g3:0≤x.at_:=by omega
     have g4:x.at_<(m:Int):=by omega
     obtain⟨y,hy⟩:∃y,D0[x.at_.toNat]?=some y:=⟨D0[x.at_.toNat]'(by rw[HDL.out];omega),List.getElem?_eq_getElem _⟩
     have HY:=zh hy
     have HD2:Hid (∀r:Fr,r.q=x.x.q→DnsE (D0.set x.at_.toNat r) (T.take (j+1))):=zh (fun r hr=>HD.out.step HRI.out HXI.out (by omega) HY.out r hr)
     have hxr:=HXN.out.1
     clear hy
     have Bz:=Below.refl wr.heap.size wr
     obtain⟨p50_0,p50_1,p50_2,p50_3,p50_4,-⟩:=(hnd.below Bz).ez
     go_upto_region 7 with(fail)
     obtain⟨V11,hW,x0,hN⟩:=zAe wr #[.int .i64 x.at_,.bool x.x.s,.slice x.x.A x.x.l x.x.c,.bool x.x.s',.slice x.x.A' x.x.l' x.x.c'] 114
     rw[←hW]
     clear hW
     obtain⟨v0,hb0⟩:∃b,b=wr.heap.size:=⟨_,rfl⟩
     rw[←hb0] at x0 ⊢
     have ow_0:w.heap.size≤v0:=by have:=zw hB Bz;omega
     replace hfr:=hfr.below hN
     replace hon:=hon.below hN
     replace ho:=ho.below hN
     replace ht:=ht.below hN
     replace hxr:=hxr.below hN
     replace hB:=zAa (zAa hB Bz) hN
     have HX0:=zh x0
     clear x0 hN Bz hb0
     have Bz:=Below.refl V11.heap.size V11
     clear p50_0 p50_1 p50_2 p50_3 p50_4
     obtain⟨p0_0,p0_1,p0_2,p0_3,p0_4,-⟩:=(zxb HX0 Bz).cz
     have p51_0:=fr_0 ho HY.out
     have p51_1:=elt_frs.cell ho HY.out (j:=1) (u:=.slice y.A y.l y.c) (by omega) rfl
     have p51_2:=elt_frs.cell ho HY.out (j:=2) (u:=.bool y.s') (by omega) rfl
     have p51_3:=elt_frs.cell ho HY.out (j:=3) (u:=.slice y.A' y.l' y.c') (by omega) rfl
     have f51_0:=ho.frozen (x.at_.toNat*4)
     have f51_1:=ho.frozen (x.at_.toNat*4+1)
     have f51_2:=ho.frozen (x.at_.toNat*4+2)
     have f51_3:=ho.frozen (x.at_.toNat*4+3)
     have y51:=ho.blk.1
     go_upto_region 9 with(fail)
     obtain⟨V12,hV,ho2,hg2⟩:=fr_store ho HY.out ⟨x.x.s,x.x.A,x.x.c,x.x.l,x.x.s',x.x.A',x.x.c',x.x.l',x.x.q,true⟩
     rw[←hV]
     clear hV
     replace hB:=(zAa hB Bz).trans (hg2.below (by have:=zw hB Bz;omega) (fun g' hg'=>by have:=ho.base g' hg';omega))
     have ht2:=ht.grown hg2 apT
     replace hfr:=AllRn.set hfr x.at_.toNat (x:=⟨x.x.s,x.x.A,x.x.c,x.x.l,x.x.s',x.x.A',x.x.c',x.x.l',x.x.q,true⟩) (AllRn.put (RN.below hxr (by go_grown)) HXN.out.2.2)
     clear HX0
     replace hfr:=hfr.k hg2.k
     replace hon:=hon.k hg2.k
     clear ho ht
     have ho:=ho2
     have ht:=ht2
     clear ho2 hg2 ht2 Bz
     have Bz:=Below.refl V12.heap.size V12
     clear p0_0 p0_1 p0_2 p0_3 p0_4 p51_0 p51_1 p51_2 p51_3 f51_0 f51_1 f51_2 f51_3 y51
     go_wp2_with fail
     go_roundg (nm-(j+1))
     case measure=>have:=HGJ.out;omega
     case rel=>exact⟨j+1,_,by omega,rfl,by go_num,OwnR.below ho (by go_grown),OwnR.below ht (by go_grown),AllRn.below hfr (by go_grown),HD2.out _ rfl,OnT.below hon (by go_grown),zAa (zAa hB Bz) (by go_grown)⟩
  ·obtain rfl:j=nm:=by omega
   have j1:¬(j:Int)<(j:Int):=by omega
   have HDN:Hid (D0.map (fun x=>x.q)=denseF P m):=zh (by
    have h9:=HD.out
    rw[List.take_of_length_le (by rw[HTL.out];exact Nat.le_refl _)] at h9
    rw[h9.done HDL.out,HEP.out,denseF_nrm])
   have HSL:=zh (ho.sl' elt_frs HDL.out)
   have HFR:=zh hfr
   clear ho ht hfr hon
   go_wp2_with fail
   go_ret
   exact⟨_,_,_,D0,rfl,HSL.out,HFR.out,HDN.out,hB⟩
end Go.Proofs.YtljjgfmeaejnfaaGreatDoor
