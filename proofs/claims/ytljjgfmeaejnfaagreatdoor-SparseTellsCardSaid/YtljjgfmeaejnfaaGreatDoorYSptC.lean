/-
  Spt: the card. Written by wip/gen/splitcard.py.
-/
import Derived.Test.YtljjgfmeaejnfaaGreatDoorYRv5
import Derived.Test.YtljjgfmeaejnfaaGreatDoorYRdT
set_option maxHeartbeats 16000000
set_option maxRecDepth 100000
namespace Go.Proofs.YtljjgfmeaejnfaaGreatDoor
open Go.RowKit Tw
theorem normRW {w:World} {X:Option Addr} {n cx:Nat} {P:List (Int×Rat)} (M N:Nat) (h:GV w X n cx P M) (hn:n≤N) (hM:M≤870) (hN:N≤1000) (hT:Hid (Tab w)):Calls Tryz.prog 25 #[.slice X n cx] w (TellsW w (nrm P) (M+6) N) :=
 (normR_q h hM (by omega) hT).mono fun _ _ k=>k.w (Nat.le_refl _) (Nat.le_trans (nrm_len _) (h.size hn))
theorem addRW {w:World} {X Y:Option Addr} {n cx m cy:Nat} {P Q:List (Int×Rat)} (M M' N N':Nat) (h:GV w X n cx P M) (h':GV w Y m cy Q M') (hn:n≤N) (hm:m≤N') (hM:M+M'≤870) (hN:N+N'≤1000) (hT:Hid (Tab w)):Calls Tryz.prog 27 #[.slice X n cx,.slice Y m cy] w (TellsW w (nrm (P++Q)) (M+M'+6) (N+N')) :=
 (addR_q h h' hM (by omega) (by omega) hT).mono fun _ _ k=>k.w (Nat.le_refl _) (Nat.le_trans (nrm_len _) (by have:=h.size hn;have:=h'.size hm;rw[List.length_append];omega))
theorem scaleRW {w:World} {X:Option Addr} {n cx:Nat} {P:List (Int×Rat)} {s s':Bool} {A A':Option Addr} {l c l' c':Nat} {q:Rat} (mq M N:Nat) (ha:R w s A c l s' A' c' l' q mq) (h:GV w X n cx P M) (hn:n≤N) (hM:M+mq≤870) (hN:N≤1000) (hT:Hid (Tab w)):Calls Tryz.prog 31 #[.agg #[.bool s,.slice A l c,.bool s',.slice A' l' c'],.slice X n cx] w (TellsW w (nrm (P.map fun x=>(x.1,q*x.2))) (M+mq+5) N) :=
 (scaleR_q ha h hM (by omega) hT).mono fun _ _ k=>k.w (Nat.le_refl _) (Nat.le_trans (nrm_len _) (by have:=h.size hn;rw[List.length_map];omega))
theorem axpyRW {w:World} {X Y:Option Addr} {n cx m cy:Nat} {P Q:List (Int×Rat)} {s s':Bool} {A A':Option Addr} {l c l' c':Nat} {q:Rat} (mq M M' N N':Nat) (h':GV w Y m cy Q M') (ha:R w s A c l s' A' c' l' q mq) (h:GV w X n cx P M) (hm:m≤N') (hn:n≤N) (hM:M+M'+mq≤880) (hN:N'+N≤1000) (hT:Hid (Tab w)):Calls Tryz.prog 29 #[.slice Y m cy,.agg #[.bool s,.slice A l c,.bool s',.slice A' l' c'],.slice X n cx] w (TellsW w (nrm (Q++P.map fun x=>(x.1,q*x.2))) (M+M'+mq+5) (N'+N)) :=
 (axpyR_q h' ha h hM (by omega) (by omega) hT).mono fun _ _ k=>TellsV.w (P:=nrm (Q++P.map fun x=>(x.1,q*x.2))) k (Nat.le_refl _) (Nat.le_trans (nrm_len _) (by have:=h.size hn;have:=h'.size hm;rw[List.length_append,List.length_map];omega))
theorem putRW {w:World} {X:Option Addr} {n cx:Nat} {P:List (Int×Rat)} {s s':Bool} {A A':Option Addr} {l c l' c':Nat} {q:Rat} (mq M N:Nat) (h:GV w X n cx P M) (at_:Int) (ha:R w s A c l s' A' c' l' q mq) (hn:n≤N) (hM:M+mq≤860) (hN:N≤999) (hT:Hid (Tab w)):Calls Tryz.prog 33 #[.slice X n cx,.int .i64 at_,.agg #[.bool s,.slice A l c,.bool s',.slice A' l' c']] w (TellsW w (nrm (putF P at_ q)) (M+mq+8) (N+1)) :=
 (putR_q h at_ ha hM (by omega) hT).mono fun _ _ k=>k.w (Nat.le_refl _) (Nat.le_trans (nrm_len _) (by have:=h.size hn;unfold putF;rw[List.length_append];have:=List.length_filter_le (fun x:Int×Rat=>decide (x.1≠at_)) P;simp only[List.length_cons,List.length_nil];omega))
def TellsDn (w:World) (P:List (Int×Rat)) (m K:Nat) (e:Ending) (w':World):Prop:=∃A c L,e=.returned (.slice A m c)∧Sl Fr.cs 4 w' A m c L∧AllRn w' K L∧L.map (fun x=>x.q)=denseF P m∧Below w.heap.size w w'
theorem TellsFs.d {w w':World} {P:List (Int×Rat)} {m K:Nat} {e:Ending} (h:TellsFs w (denseF P m) K e w'):TellsDn w P m K e w':=by
 obtain⟨A,n,c,L,rfl,h1,h2,h3,h4⟩:=h
 have h5:=congrArg List.length h3
 unfold denseF at h5
 rw[List.length_map,List.length_map,List.length_range,h1.1] at h5
 subst h5
 exact⟨A,c,L,rfl,h1,h2,h3,h4⟩
theorem denseI {w:World} {X:Option Addr} {nx cx M:Nat} {P:List (Int×Rat)} (kn:Int) (m:Nat) (h:GV w X nx cx P M) (hM:M≤18000) (hM2:2≤M) (hnx:nx≤1000000) (hk:kn.toNat=m) (hm:m≤65536) (hT:Hid (Tab w)) :
  Calls Tryz.prog 44 #[.slice X nx cx,.int .i64 kn] w (TellsDn w P m M):=by
 by_cases hm1:kn<1
 ·obtain rfl:m=0:=by omega
  exact(dense_no kn hm1).mono fun e w' k=>⟨none,0,[],k.1,Sl.nil _,(fun x hx=>by cases hx),rfl,k.2⟩
 ·obtain rfl:kn=(m:Int):=by omega
  exact(denseV_q h hM hM2 hnx (by omega) hm hT).mono fun e w' k=>k.d
theorem same_frs {L M:List Fr} (h:L.map (fun x=>x.q)=M.map fun x=>x.q):sameFrs L M=true:=by
 have hl:=congrArg List.length h
 rw[List.length_map,List.length_map] at hl
 unfold sameFrs
 rw[decide_eq_true hl,Bool.true_and,List.all_eq_true]
 intro p hp
 obtain⟨i,hi⟩:=List.getElem?_of_mem hp
 rw[List.getElem?_zip_eq_some] at hi
 have h1:=congrArg (fun l:List Rat=>l[i]?) h
 simp only[List.getElem?_map,hi.1,hi.2,Option.map_some,Option.some.injEq] at h1
 exact decide_eq_true h1
theorem AllRn.ones {w:World} {K:Nat} {L:List Fr} (h:AllRn w K L) (hK:K≤800000):Ones w L:=fun x hx=>by
 have h1:=h x hx
 have h2:=h1.1.len
 exact⟨h1.1,by omega,by omega⟩
theorem short_le {cnt most:Nat} {v:Vc} (hs:shortVc (cnt:Int) (most:Int) v=true):v.n≤cnt∧∀t∈v.L,t.x.l≤most∧t.x.l'≤most:=by
 unfold shortVc at hs
 simp only[Bool.and_eq_true,decide_eq_true_eq,List.all_eq_true] at hs
 refine⟨by omega,fun t ht=>?_⟩
 have:=hs.2 t ht
 unfold shortFr at this
 simp only[Bool.and_eq_true,decide_eq_true_eq] at this
 omega
theorem in_ok {w:World} {L:List Tm} {most m:Nat} (hi:∀t∈L,TmIn w t) (hs:∀t∈L,t.x.l≤most∧t.x.l'≤most) (hm:most≤m):∀t∈L,FrOk w m t.x:=fun t ht=>(hi t ht).1.2.2 m (by have:=hs t ht;omega) (by have:=hs t ht;omega)
theorem in_vcd {w:World} {A:Option Addr} {n c most:Nat} {L:List Tm} (h:Sl Tm.cs 5 w A n c L) (hi:∀t∈L,TmIn w t) (hs:∀t∈L,t.x.l≤most∧t.x.l'≤most) (hm:most≤800000):∃D,VcD w A n c D:=vcd_of (m:=most) h hm fun t ht=>⟨in_ok hi hs (Nat.le_refl _) t ht,hs t ht⟩
theorem tells5_0 {w:World} {X Y:Option Addr} {nx cx ny cy:Nat} {LX LY:List Tm} {a:Fr} {at_ kn:Int} (hx:Sl Tm.cs 5 w X nx cx LX) (xi:Hid (∀t∈LX,TmIn w t)) (hlx:nx≤9223372036854775807) (_hy:Sl Tm.cs 5 w Y ny cy LY) (_yi:Hid (∀t∈LY,TmIn w t)) (_hly:ny≤9223372036854775807) (_ai:FrIn w a) (S0:Hid (shortVc 12 3 ⟨X,nx,cx,LX⟩=false)) (hT:Hid (Tab w)) :
  Calls Tryz.prog 4 #[.slice X nx cx,.slice Y ny cy,.int .i64 at_,.agg #[.bool a.s,.slice a.A a.l a.c,.bool a.s',.slice a.A' a.l' a.c'],.int .i64 kn] w (Yes w):=by
 obtain⟨W,hW,x0,hB⟩:=zAe w #[.bool a.s,.slice a.A a.l a.c,.bool a.s',.slice a.A' a.l' a.c'] 50
 have HX0:=zh x0
 clear x0
 have Bz:=Below.refl W.heap.size W
 go_enter Tryz.func4,Tryz.ntmps4
 go_wp2_with fail
 rw[←hW]
 clear hW
 go_wp2_with fail
 with_reducible refine(shortVec_q (hx.below (zAa hB (zAa (b:=W) Bz (by go_grown)))) (zh fun t ht=>tm_lens (xi.out t ht)) hlx 12 3 false S0).mono ?_
 rintro e w1 ⟨rfl,b1⟩
 replace b1:=zAa (a:=W) (by go_grown) b1
 replace Bz:=zAa Bz b1
 clear b1
 go_wp2_with fail
 with_reducible refine(awake5_q (zh (Tab.below hT.out (zAa hB (zAa (b:=w1) Bz (by go_grown)))))).mono ?_
 rintro e w2 ⟨rfl,b2⟩
 replace b2:=zAa (a:=w1) (by go_grown) b2
 replace Bz:=zAa Bz b2
 clear b2
 go_wp2_with fail
 go_ret
 have hF:=zAa (c:=w2) hB Bz
 exact⟨rfl,zAa hF (by go_grown)⟩
theorem tells5_1 {w:World} {X Y:Option Addr} {nx cx ny cy:Nat} {LX LY:List Tm} {a:Fr} {at_ kn:Int} (hx:Sl Tm.cs 5 w X nx cx LX) (xi:Hid (∀t∈LX,TmIn w t)) (hlx:nx≤9223372036854775807) (hy:Sl Tm.cs 5 w Y ny cy LY) (yi:Hid (∀t∈LY,TmIn w t)) (hly:ny≤9223372036854775807) (_ai:FrIn w a) (S0:Hid (shortVc 12 3 ⟨X,nx,cx,LX⟩=true)) (S1:Hid (shortVc 12 3 ⟨Y,ny,cy,LY⟩=false)) (hT:Hid (Tab w)) :
  Calls Tryz.prog 4 #[.slice X nx cx,.slice Y ny cy,.int .i64 at_,.agg #[.bool a.s,.slice a.A a.l a.c,.bool a.s',.slice a.A' a.l' a.c'],.int .i64 kn] w (Yes w):=by
 obtain⟨W,hW,x0,hB⟩:=zAe w #[.bool a.s,.slice a.A a.l a.c,.bool a.s',.slice a.A' a.l' a.c'] 50
 have HX0:=zh x0
 clear x0
 have Bz:=Below.refl W.heap.size W
 go_enter Tryz.func4,Tryz.ntmps4
 go_wp2_with fail
 rw[←hW]
 clear hW
 go_wp2_with fail
 with_reducible refine(shortVec_q (hx.below (zAa hB (zAa (b:=W) Bz (by go_grown)))) (zh fun t ht=>tm_lens (xi.out t ht)) hlx 12 3 true S0).mono ?_
 rintro e w1 ⟨rfl,b1⟩
 replace b1:=zAa (a:=W) (by go_grown) b1
 replace Bz:=zAa Bz b1
 clear b1
 go_wp2_with fail
 with_reducible refine(shortVec_q (hy.below (zAa hB (zAa (b:=w1) Bz (by go_grown)))) (zh fun t ht=>tm_lens (yi.out t ht)) hly 12 3 false S1).mono ?_
 rintro e w2 ⟨rfl,b2⟩
 replace b2:=zAa (a:=w1) (by go_grown) b2
 replace Bz:=zAa Bz b2
 clear b2
 go_wp2_with fail
 with_reducible refine(awake5_q (zh (Tab.below hT.out (zAa hB (zAa (b:=w2) Bz (by go_grown)))))).mono ?_
 rintro e w3 ⟨rfl,b3⟩
 replace b3:=zAa (a:=w2) (by go_grown) b3
 replace Bz:=zAa Bz b3
 clear b3
 go_wp2_with fail
 go_ret
 have hF:=zAa (c:=w3) hB Bz
 exact⟨rfl,zAa hF (by go_grown)⟩
theorem tells5_2 {w:World} {X Y:Option Addr} {nx cx ny cy:Nat} {LX LY:List Tm} {a:Fr} {at_ kn:Int} (hx:Sl Tm.cs 5 w X nx cx LX) (xi:Hid (∀t∈LX,TmIn w t)) (hlx:nx≤9223372036854775807) (hy:Sl Tm.cs 5 w Y ny cy LY) (yi:Hid (∀t∈LY,TmIn w t)) (hly:ny≤9223372036854775807) (ai:FrIn w a) (S0:Hid (shortVc 12 3 ⟨X,nx,cx,LX⟩=true)) (S1:Hid (shortVc 12 3 ⟨Y,ny,cy,LY⟩=true)) (S2:Hid (shortFr 3 a=false)) (hT:Hid (Tab w)) :
  Calls Tryz.prog 4 #[.slice X nx cx,.slice Y ny cy,.int .i64 at_,.agg #[.bool a.s,.slice a.A a.l a.c,.bool a.s',.slice a.A' a.l' a.c'],.int .i64 kn] w (Yes w):=by
 obtain⟨W,hW,x0,hB⟩:=zAe w #[.bool a.s,.slice a.A a.l a.c,.bool a.s',.slice a.A' a.l' a.c'] 50
 have HX0:=zh x0
 clear x0
 have Bz:=Below.refl W.heap.size W
 go_enter Tryz.func4,Tryz.ntmps4
 go_wp2_with fail
 rw[←hW]
 clear hW
 go_wp2_with fail
 with_reducible refine(shortVec_q (hx.below (zAa hB (zAa (b:=W) Bz (by go_grown)))) (zh fun t ht=>tm_lens (xi.out t ht)) hlx 12 3 true S0).mono ?_
 rintro e w1 ⟨rfl,b1⟩
 replace b1:=zAa (a:=W) (by go_grown) b1
 replace Bz:=zAa Bz b1
 clear b1
 go_wp2_with fail
 with_reducible refine(shortVec_q (hy.below (zAa hB (zAa (b:=w1) Bz (by go_grown)))) (zh fun t ht=>tm_lens (yi.out t ht)) hly 12 3 true S1).mono ?_
 rintro e w2 ⟨rfl,b2⟩
 replace b2:=zAa (a:=w1) (by go_grown) b2
 replace Bz:=zAa Bz b2
 clear b2
 obtain⟨p0_0,p0_1,p0_2,p0_3,-⟩:=(zxb HX0 Bz).cz
 go_wp2_with fail
 with_reducible refine(shortRat_q a 3 (fr_lens ai) false S2).mono ?_
 rintro e w3 ⟨rfl,b3⟩
 replace b3:=zAa (a:=w2) (by go_grown) b3
 replace Bz:=zAa Bz b3
 clear b3
 clear p0_0 p0_1 p0_2 p0_3
 go_wp2_with fail
 with_reducible refine(awake5_q (zh (Tab.below hT.out (zAa hB (zAa (b:=w3) Bz (by go_grown)))))).mono ?_
 rintro e w4 ⟨rfl,b4⟩
 replace b4:=zAa (a:=w3) (by go_grown) b4
 replace Bz:=zAa Bz b4
 clear b4
 go_wp2_with fail
 go_ret
 have hF:=zAa (c:=w4) hB Bz
 exact⟨rfl,zAa hF (by go_grown)⟩
theorem tells5_3 {w:World} {X Y:Option Addr} {nx cx ny cy:Nat} {LX LY:List Tm} {a:Fr} {at_ kn:Int} (hx:Sl Tm.cs 5 w X nx cx LX) (xi:Hid (∀t∈LX,TmIn w t)) (hlx:nx≤9223372036854775807) (hy:Sl Tm.cs 5 w Y ny cy LY) (yi:Hid (∀t∈LY,TmIn w t)) (hly:ny≤9223372036854775807) (ai:FrIn w a) (S0:Hid (shortVc 12 3 ⟨X,nx,cx,LX⟩=true)) (S1:Hid (shortVc 12 3 ⟨Y,ny,cy,LY⟩=true)) (S2:Hid (shortFr 3 a=true)) (g1:(300:Int)<kn) (g2:kn<1099511627776) (hT:Hid (Tab w)) :
  Calls Tryz.prog 4 #[.slice X nx cx,.slice Y ny cy,.int .i64 at_,.agg #[.bool a.s,.slice a.A a.l a.c,.bool a.s',.slice a.A' a.l' a.c'],.int .i64 kn] w (Yes w):=by
 obtain⟨W,hW,x0,hB⟩:=zAe w #[.bool a.s,.slice a.A a.l a.c,.bool a.s',.slice a.A' a.l' a.c'] 50
 have HX0:=zh x0
 clear x0
 have Bz:=Below.refl W.heap.size W
 go_enter Tryz.func4,Tryz.ntmps4
 go_wp2_with fail
 rw[←hW]
 clear hW
 go_wp2_with fail
 with_reducible refine(shortVec_q (hx.below (zAa hB (zAa (b:=W) Bz (by go_grown)))) (zh fun t ht=>tm_lens (xi.out t ht)) hlx 12 3 true S0).mono ?_
 rintro e w1 ⟨rfl,b1⟩
 replace b1:=zAa (a:=W) (by go_grown) b1
 replace Bz:=zAa Bz b1
 clear b1
 go_wp2_with fail
 with_reducible refine(shortVec_q (hy.below (zAa hB (zAa (b:=w1) Bz (by go_grown)))) (zh fun t ht=>tm_lens (yi.out t ht)) hly 12 3 true S1).mono ?_
 rintro e w2 ⟨rfl,b2⟩
 replace b2:=zAa (a:=w1) (by go_grown) b2
 replace Bz:=zAa Bz b2
 clear b2
 obtain⟨p0_0,p0_1,p0_2,p0_3,-⟩:=(zxb HX0 Bz).cz
 go_wp2_with fail
 with_reducible refine(shortRat_q a 3 (fr_lens ai) true S2).mono ?_
 rintro e w3 ⟨rfl,b3⟩
 replace b3:=zAa (a:=w2) (by go_grown) b3
 replace Bz:=zAa Bz b3
 clear b3
 clear p0_0 p0_1 p0_2 p0_3
 go_wp2_with fail
 with_reducible refine(awake5_q (zh (Tab.below hT.out (zAa hB (zAa (b:=w3) Bz (by go_grown)))))).mono ?_
 rintro e w4 ⟨rfl,b4⟩
 replace b4:=zAa (a:=w3) (by go_grown) b4
 replace Bz:=zAa Bz b4
 clear b4
 go_wp2_with fail
 go_ret
 have hF:=zAa (c:=w4) hB Bz
 exact⟨rfl,zAa hF (by go_grown)⟩
theorem tells5_ok {w:World} {X Y:Option Addr} {nx cx ny cy:Nat} {LX LY:List Tm} {a:Fr} {at_ kn:Int} (hx:Sl Tm.cs 5 w X nx cx LX) (xi:Hid (∀t∈LX,TmIn w t)) (hlx:nx≤9223372036854775807) (hy:Sl Tm.cs 5 w Y ny cy LY) (yi:Hid (∀t∈LY,TmIn w t)) (hly:ny≤9223372036854775807) (ai:FrIn w a) (S0:Hid (shortVc 12 3 ⟨X,nx,cx,LX⟩=true)) (S1:Hid (shortVc 12 3 ⟨Y,ny,cy,LY⟩=true)) (S2:Hid (shortFr 3 a=true)) (xc:X=none→cx=0) (yc:Y=none→cy=0) (k2:Int) (hk2:k2=if(300:Int)<kn then 300 else kn) (m:Nat) (hkn:k2.toNat=m) (g2:¬((300:Int)<kn∧kn<1099511627776)) (hT:Hid (Tab w)) :
  Calls Tryz.prog 4 #[.slice X nx cx,.slice Y ny cy,.int .i64 at_,.agg #[.bool a.s,.slice a.A a.l a.c,.bool a.s',.slice a.A' a.l' a.c'],.int .i64 kn] w (Yes w):=by
 obtain⟨gx0,hnx⟩:=gv_small (cnt:=12) (most:=3) hx xi.out xc S0.out
 obtain⟨gy0,hny⟩:=gv_small (cnt:=12) (most:=3) hy yi.out yc S1.out
 have hs1:=short_le (cnt:=12) (most:=3) S0.out
 have hs2:=short_le (cnt:=12) (most:=3) S1.out
 have HFX:=zh (in_ok xi.out hs1.2 (Nat.le_refl 3))
 have HFY:=zh (in_ok (m:=800000) xi.out hs1.2 (by decide))
 obtain⟨DX,dx0⟩:=in_vcd hx xi.out hs1.2 (by decide)
 obtain⟨DY,dy0⟩:=in_vcd hy yi.out hs2.2 (by decide)
 have ha0:=r_small (most:=3) ai S2.out
 have hwx:wtot (prs LX)≤60:=Nat.le_trans (wtot_le (m:=5) (sz_small (cnt:=12) (most:=3) xi.out S0.out)) (by have:=gx0.len;omega)
 have hwy:wtot (prs LY)≤60:=Nat.le_trans (wtot_le (m:=5) (sz_small (cnt:=12) (most:=3) yi.out S1.out)) (by have:=gy0.len;omega)
 obtain⟨r,HR⟩:∃r,Hid (decide (nrm (prs LX)=nrm (prs LY))=r):=⟨_,zh rfl⟩
 obtain⟨r2,HR2⟩:∃r,Hid (rightB LX k2=r):=⟨_,zh rfl⟩
 have grr:(r==r)=true:=by simp
 have grr2:(r2==r2)=true:=by simp
 have hm:m≤300:=by
  have h1:k2≤300:=by rw[hk2];split<;>omega
  omega
 have HK2:=zh hk2
 have HGX:=zh gx0
 have HGY:=zh gy0
 have HDX:=zh dx0
 have HDY:=zh dy0
 have HRA:=zh ha0
 clear hs1 hs2 gx0 gy0 dx0 dy0 ha0 hk2
 obtain⟨W,hW,x0,hB⟩:=zAe w #[.bool a.s,.slice a.A a.l a.c,.bool a.s',.slice a.A' a.l' a.c'] 50
 have HX0:=zh x0
 clear x0
 have Bz:=Below.refl W.heap.size W
 go_enter Tryz.func4,Tryz.ntmps4
 go_upto_region 1 with(fail)
 rw[←hW]
 clear hW
 go_cut [36] (fun v wx=>v=.bool false∧Bx wx w.heap.size #[.bool a.s,.slice a.A a.l a.c,.bool a.s',.slice a.A' a.l' a.c'] 50∧Below w.heap.size w wx)
 case first =>
  by_cases h40:(300:Int)<kn
  ·have hB2:=hB
   have Bz:=Below.refl W.heap.size W
   go_wp2_with fail
   with_reducible refine(shortVec_q (hx.below (zAa hB (zAa (b:=W) Bz (by go_grown)))) (zh fun t ht=>tm_lens (xi.out t ht)) hlx 12 3 true S0).mono ?_
   rintro e w1 ⟨rfl,b1⟩
   replace b1:=zAa (a:=W) (by go_grown) b1
   replace Bz:=zAa Bz b1
   clear b1
   go_wp2_with fail
   with_reducible refine(shortVec_q (hy.below (zAa hB (zAa (b:=w1) Bz (by go_grown)))) (zh fun t ht=>tm_lens (yi.out t ht)) hly 12 3 true S1).mono ?_
   rintro e w2 ⟨rfl,b2⟩
   replace b2:=zAa (a:=w1) (by go_grown) b2
   replace Bz:=zAa Bz b2
   clear b2
   obtain⟨p0_0,p0_1,p0_2,p0_3,-⟩:=(zxb HX0 Bz).cz
   go_wp2_with fail
   with_reducible refine(shortRat_q a 3 (fr_lens ai) true S2).mono ?_
   rintro e w3 ⟨rfl,b3⟩
   replace b3:=zAa (a:=w2) (by go_grown) b3
   replace Bz:=zAa Bz b3
   clear b3
   clear p0_0 p0_1 p0_2 p0_3
   go_wp2_with fail
   go_meet
   case rel=>exact⟨by rw[decide_eq_false (p:=kn<1099511627776) (by omega)],HX0.out.below Bz,zAa hB Bz⟩
  ·have hB2:=hB
   have Bz:=Below.refl W.heap.size W
   go_wp2_with fail
   with_reducible refine(shortVec_q (hx.below (zAa hB (zAa (b:=W) Bz (by go_grown)))) (zh fun t ht=>tm_lens (xi.out t ht)) hlx 12 3 true S0).mono ?_
   rintro e w1 ⟨rfl,b1⟩
   replace b1:=zAa (a:=W) (by go_grown) b1
   replace Bz:=zAa Bz b1
   clear b1
   go_wp2_with fail
   with_reducible refine(shortVec_q (hy.below (zAa hB (zAa (b:=w1) Bz (by go_grown)))) (zh fun t ht=>tm_lens (yi.out t ht)) hly 12 3 true S1).mono ?_
   rintro e w2 ⟨rfl,b2⟩
   replace b2:=zAa (a:=w1) (by go_grown) b2
   replace Bz:=zAa Bz b2
   clear b2
   obtain⟨p0_0,p0_1,p0_2,p0_3,-⟩:=(zxb HX0 Bz).cz
   go_wp2_with fail
   with_reducible refine(shortRat_q a 3 (fr_lens ai) true S2).mono ?_
   rintro e w3 ⟨rfl,b3⟩
   replace b3:=zAa (a:=w2) (by go_grown) b3
   replace Bz:=zAa Bz b3
   clear b3
   clear p0_0 p0_1 p0_2 p0_3
   go_wp2_with fail
   go_meet
   case rel=>exact⟨by rfl,HX0.out.below Bz,zAa hB Bz⟩
 case rest =>
  obtain⟨rfl,hx1,hB0⟩:=hcut
  obtain⟨wx,rfl,hB1⟩:∃wx,wx=_∧Below w.heap.size w wx:=⟨_,rfl,hB0⟩
  replace HX0:=zh hx1
  clear hB hB0 hx1 Bz
  go_upto_if 39 with(fail)
  go_cut [4] (fun v wy=>v=.int .i64 k2∧wy=wx)
  case first =>
   by_cases h40:(300:Int)<kn
   ·obtain rfl:k2=300:=by rw[HK2.out,if_pos h40]
    go_wp2_with fail
    go_meet
    case rel=>exact⟨rfl,rfl⟩
   ·obtain rfl:k2=kn:=by rw[HK2.out,if_neg h40]
    go_wp2_with fail
    go_meet
    case rel=>exact⟨rfl,rfl⟩
  case rest =>
   obtain⟨rfl,rfl⟩:=hcut
   obtain⟨wx,rfl,hB⟩:∃wx,wx=_∧Below w.heap.size w wx:=⟨_,rfl,hB1⟩
   have gx:=HGX.out.below hB
   have gy:=HGY.out.below hB
   have dx:=HDX.out.below hB
   have dy:=HDY.out.below hB
   have ha:=HRA.out.below hB
   clear hB1 HGX HGY HDX HDY HRA
   have Bz:=Below.refl wx.heap.size wx
   go_wp2_with fail
   with_reducible refine(copyVec_q (VcD.below dx (by go_grown)) (by omega)).mono ?_
   rintro e w11 ⟨A11,c11,rfl,h11,b11⟩
   replace b11:=zAa (a:=wx) (by go_grown) b11
   replace dx:=dx.below b11
   replace dy:=dy.below b11
   replace ha:=ha.below b11
   replace gx:=gx.below b11
   replace gy:=gy.below b11
   replace Bz:=zAa Bz b11
   clear b11
   go_wp2_with fail
   with_reducible refine(copyVec_q (VcD.below dy (by go_grown)) (by omega)).mono ?_
   rintro e w12 ⟨A12,c12,rfl,h12,b12⟩
   replace b12:=zAa (a:=w11) (by go_grown) b12
   replace dx:=dx.below b12
   replace dy:=dy.below b12
   replace ha:=ha.below b12
   replace h11:=h11.below b12
   replace gx:=gx.below b12
   replace gy:=gy.below b12
   replace Bz:=zAa Bz b12
   clear b12
   obtain⟨p0_0,p0_1,p0_2,p0_3,-⟩:=(zxb HX0 Bz).cz
   go_wp2_with fail
   (try simp only[List.append_eq,List.cons_append,List.nil_append])
   refine zAb (.take 0 (.take 1 (.take 3 (.only 2 (.only 4 (.only 5 (.take 6 (.take 7 (.take 8 (.take 9 (.take 11 (.take 12 (.only 10 (.only 13 (.only 14 (.take 15 (.take 16 (.take 17 (.take 18 (.take 19 (.take 20 (.take 22 (.take 23 (.take 24 (.only 21 (.only 25 (.only 26 (.take 27 (.take 28 (.take 29 (.take 30 (.take 31 (.take 33 (.take 34 (.only 32 (.only 35 (.only 36 (.take 37 (.take 38 (.take 39 (.take 40 (.take 41 (.take 42 (.take 44 (.take 45 (.take 46 (.only 43 (.only 47 (.only 48 (.take 49 (.take 50 .done))))))))))))))))))))))))))))))))))))))))))))))))))) [] (fun w'=>w'.cell? ⟨w.heap.size,0,none⟩=some (.bool a.s)∧w'.cell? ⟨w.heap.size,1,none⟩=some (.slice a.A a.l a.c)∧w'.cell? ⟨w.heap.size,2,none⟩=some (.bool a.s')∧w'.cell? ⟨w.heap.size,3,none⟩=some (.slice a.A' a.l' a.c')) (by kernel_rfl) (by kernel_rfl) ⟨p0_0,p0_1,p0_2,p0_3⟩ ?_
   iterate 3 (refine zT rfl rfl (fun w' ⟨p0_0,p0_1,p0_2,p0_3⟩=>by go_simp<;>with_reducible rfl) ?_;try simp only[uW,uX,uY,uZ])
   refine zC 46 rfl rfl (fun K hK=>?_)
   go_simp
   with_reducible refine(normW 60 12 (GV.below gx (by go_grown)) hnx (by decide) (by decide) (zh (Tab.below hT.out (zAa hB (zAa (b:=w12) Bz (by go_grown)))))).mono ?_
   rintro e w13 ⟨A13,n13,c13,rfl,h13,l13,b13⟩
   replace b13:=zAa (a:=w12) (by go_grown) b13
   replace dx:=dx.below b13
   replace dy:=dy.below b13
   replace ha:=ha.below b13
   replace h11:=h11.below b13
   replace h12:=h12.below b13
   replace gx:=gx.below b13
   replace gy:=gy.below b13
   replace Bz:=zAa Bz b13
   clear b13
   clear p0_0 p0_1 p0_2 p0_3
   obtain⟨p0_0,p0_1,p0_2,p0_3,-⟩:=(zxb HX0 Bz).cz
   refine hK.out _ _ ⟨p0_0,p0_1,p0_2,p0_3⟩ (fun _=>?_)
   try simp only[uW,uX,uY,uZ]
   clear hK K
   refine zC 48 rfl rfl (fun K hK=>?_)
   go_simp
   with_reducible refine(normRW 60 12 (GV.below gx (by go_grown)) hnx (by decide) (by decide) (zh (Tab.below hT.out (zAa hB (zAa (b:=w13) Bz (by go_grown)))))).mono ?_
   rintro e w14 ⟨A14,n14,c14,rfl,h14,l14,b14⟩
   replace b14:=zAa (a:=w13) (by go_grown) b14
   replace dx:=dx.below b14
   replace dy:=dy.below b14
   replace ha:=ha.below b14
   replace h11:=h11.below b14
   replace h12:=h12.below b14
   replace h13:=h13.below b14
   replace gx:=gx.below b14
   replace gy:=gy.below b14
   replace Bz:=zAa Bz b14
   clear b14
   clear p0_0 p0_1 p0_2 p0_3
   obtain⟨p0_0,p0_1,p0_2,p0_3,-⟩:=(zxb HX0 Bz).cz
   refine hK.out _ _ ⟨p0_0,p0_1,p0_2,p0_3⟩ (fun _=>?_)
   try simp only[uW,uX,uY,uZ]
   clear hK K
   refine zC 49 rfl rfl (fun K hK=>?_)
   go_simp
   with_reducible refine(sameVec_q (NV.below h13 (by go_grown)) (NV.below h14 (by go_grown)) (by decide) (by decide) (by omega) (by omega) true (zh (decide_eq_true rfl))).mono ?_
   rintro e w15 ⟨rfl,b15⟩
   replace b15:=zAa (a:=w14) (by go_grown) b15
   replace dx:=dx.below b15
   replace dy:=dy.below b15
   replace ha:=ha.below b15
   replace h11:=h11.below b15
   replace h12:=h12.below b15
   replace gx:=gx.below b15
   replace gy:=gy.below b15
   replace Bz:=zAa Bz b15
   clear b15
   clear p0_0 p0_1 p0_2 p0_3
   obtain⟨p0_0,p0_1,p0_2,p0_3,-⟩:=(zxb HX0 Bz).cz
   refine hK.out _ _ ⟨p0_0,p0_1,p0_2,p0_3⟩ (fun _=>?_)
   try simp only[uW,uX,uY,uZ]
   clear hK K
   iterate 6 (refine zT rfl rfl (fun w' ⟨p0_0,p0_1,p0_2,p0_3⟩=>by go_simp<;>with_reducible rfl) ?_;try simp only[uW,uX,uY,uZ])
   refine zC 54 rfl rfl (fun K hK=>?_)
   go_simp
   with_reducible refine(addW 60 60 12 12 120 24 (GV.below gx (by go_grown)) (GV.below gy (by go_grown)) hnx hny (by decide) (by decide) (by decide) (by decide) (zh (Tab.below hT.out (zAa hB (zAa (b:=w15) Bz (by go_grown)))))).mono ?_
   rintro e w16 ⟨A16,n16,c16,rfl,h16,l16,b16⟩
   replace b16:=zAa (a:=w15) (by go_grown) b16
   replace dx:=dx.below b16
   replace dy:=dy.below b16
   replace ha:=ha.below b16
   replace h11:=h11.below b16
   replace h12:=h12.below b16
   replace gx:=gx.below b16
   replace gy:=gy.below b16
   replace Bz:=zAa Bz b16
   clear b16
   clear p0_0 p0_1 p0_2 p0_3
   obtain⟨p0_0,p0_1,p0_2,p0_3,-⟩:=(zxb HX0 Bz).cz
   refine hK.out _ _ ⟨p0_0,p0_1,p0_2,p0_3⟩ (fun _=>?_)
   try simp only[uW,uX,uY,uZ]
   clear hK K
   refine zC 57 rfl rfl (fun K hK=>?_)
   go_simp
   with_reducible refine(addRW 60 60 12 12 (GV.below gx (by go_grown)) (GV.below gy (by go_grown)) hnx hny (by decide) (by decide) (zh (Tab.below hT.out (zAa hB (zAa (b:=w16) Bz (by go_grown)))))).mono ?_
   rintro e w17 ⟨A17,n17,c17,rfl,h17,l17,b17⟩
   replace b17:=zAa (a:=w16) (by go_grown) b17
   replace dx:=dx.below b17
   replace dy:=dy.below b17
   replace ha:=ha.below b17
   replace h11:=h11.below b17
   replace h12:=h12.below b17
   replace h16:=h16.below b17
   replace gx:=gx.below b17
   replace gy:=gy.below b17
   replace Bz:=zAa Bz b17
   clear b17
   clear p0_0 p0_1 p0_2 p0_3
   obtain⟨p0_0,p0_1,p0_2,p0_3,-⟩:=(zxb HX0 Bz).cz
   refine hK.out _ _ ⟨p0_0,p0_1,p0_2,p0_3⟩ (fun _=>?_)
   try simp only[uW,uX,uY,uZ]
   clear hK K
   refine zC 58 rfl rfl (fun K hK=>?_)
   go_simp
   with_reducible refine(sameVec_q (NV.below h16 (by go_grown)) (NV.below h17 (by go_grown)) (by decide) (by decide) (by omega) (by omega) true (zh (decide_eq_true rfl))).mono ?_
   rintro e w18 ⟨rfl,b18⟩
   replace b18:=zAa (a:=w17) (by go_grown) b18
   replace dx:=dx.below b18
   replace dy:=dy.below b18
   replace ha:=ha.below b18
   replace h11:=h11.below b18
   replace h12:=h12.below b18
   replace gx:=gx.below b18
   replace gy:=gy.below b18
   replace Bz:=zAa Bz b18
   clear b18
   clear p0_0 p0_1 p0_2 p0_3
   obtain⟨p0_0,p0_1,p0_2,p0_3,-⟩:=(zxb HX0 Bz).cz
   refine hK.out _ _ ⟨p0_0,p0_1,p0_2,p0_3⟩ (fun _=>?_)
   try simp only[uW,uX,uY,uZ]
   clear hK K
   iterate 9 (refine zT rfl rfl (fun w' ⟨p0_0,p0_1,p0_2,p0_3⟩=>by go_simp<;>with_reducible rfl) ?_;try simp only[uW,uX,uY,uZ])
   refine zC 65 rfl rfl (fun K hK=>?_)
   go_simp
   with_reducible refine(axpyW 3 60 60 12 12 126 24 (GV.below gy (by go_grown)) (R.below ha (by go_grown)) (GV.below gx (by go_grown)) hny hnx (by decide) (by decide) (by decide) (by decide) (zh (Tab.below hT.out (zAa hB (zAa (b:=w18) Bz (by go_grown)))))).mono ?_
   rintro e w19 ⟨A19,n19,c19,rfl,h19,l19,b19⟩
   replace b19:=zAa (a:=w18) (by go_grown) b19
   replace dx:=dx.below b19
   replace dy:=dy.below b19
   replace ha:=ha.below b19
   replace h11:=h11.below b19
   replace h12:=h12.below b19
   replace gx:=gx.below b19
   replace gy:=gy.below b19
   replace Bz:=zAa Bz b19
   clear b19
   clear p0_0 p0_1 p0_2 p0_3
   obtain⟨p0_0,p0_1,p0_2,p0_3,-⟩:=(zxb HX0 Bz).cz
   refine hK.out _ _ ⟨p0_0,p0_1,p0_2,p0_3⟩ (fun _=>?_)
   try simp only[uW,uX,uY,uZ]
   clear hK K
   refine zC 69 rfl rfl (fun K hK=>?_)
   go_simp
   with_reducible refine(axpyRW 3 60 60 12 12 (GV.below gy (by go_grown)) (R.below ha (by go_grown)) (GV.below gx (by go_grown)) hny hnx (by decide) (by decide) (zh (Tab.below hT.out (zAa hB (zAa (b:=w19) Bz (by go_grown)))))).mono ?_
   rintro e w20 ⟨A20,n20,c20,rfl,h20,l20,b20⟩
   replace b20:=zAa (a:=w19) (by go_grown) b20
   replace dx:=dx.below b20
   replace dy:=dy.below b20
   replace ha:=ha.below b20
   replace h11:=h11.below b20
   replace h12:=h12.below b20
   replace h19:=h19.below b20
   replace gx:=gx.below b20
   replace gy:=gy.below b20
   replace Bz:=zAa Bz b20
   clear b20
   clear p0_0 p0_1 p0_2 p0_3
   obtain⟨p0_0,p0_1,p0_2,p0_3,-⟩:=(zxb HX0 Bz).cz
   refine hK.out _ _ ⟨p0_0,p0_1,p0_2,p0_3⟩ (fun _=>?_)
   try simp only[uW,uX,uY,uZ]
   clear hK K
   refine zC 70 rfl rfl (fun K hK=>?_)
   go_simp
   with_reducible refine(sameVec_q (NV.below h19 (by go_grown)) (NV.below h20 (by go_grown)) (by decide) (by decide) (by omega) (by omega) true (zh (decide_eq_true rfl))).mono ?_
   rintro e w21 ⟨rfl,b21⟩
   replace b21:=zAa (a:=w20) (by go_grown) b21
   replace dx:=dx.below b21
   replace dy:=dy.below b21
   replace ha:=ha.below b21
   replace h11:=h11.below b21
   replace h12:=h12.below b21
   replace gx:=gx.below b21
   replace gy:=gy.below b21
   replace Bz:=zAa Bz b21
   clear b21
   clear p0_0 p0_1 p0_2 p0_3
   obtain⟨p0_0,p0_1,p0_2,p0_3,-⟩:=(zxb HX0 Bz).cz
   refine hK.out _ _ ⟨p0_0,p0_1,p0_2,p0_3⟩ (fun _=>?_)
   try simp only[uW,uX,uY,uZ]
   clear hK K
   iterate 7 (refine zT rfl rfl (fun w' ⟨p0_0,p0_1,p0_2,p0_3⟩=>by go_simp<;>with_reducible rfl) ?_;try simp only[uW,uX,uY,uZ])
   refine zC 76 rfl rfl (fun K hK=>?_)
   go_simp
   with_reducible refine(scaleW 3 60 12 66 (R.below ha (by go_grown)) (GV.below gx (by go_grown)) hnx (by decide) (by decide) (by decide) (zh (Tab.below hT.out (zAa hB (zAa (b:=w21) Bz (by go_grown)))))).mono ?_
   rintro e w22 ⟨A22,n22,c22,rfl,h22,l22,b22⟩
   replace b22:=zAa (a:=w21) (by go_grown) b22
   replace dx:=dx.below b22
   replace dy:=dy.below b22
   replace ha:=ha.below b22
   replace h11:=h11.below b22
   replace h12:=h12.below b22
   replace gx:=gx.below b22
   replace gy:=gy.below b22
   replace Bz:=zAa Bz b22
   clear b22
   clear p0_0 p0_1 p0_2 p0_3
   obtain⟨p0_0,p0_1,p0_2,p0_3,-⟩:=(zxb HX0 Bz).cz
   refine hK.out _ _ ⟨p0_0,p0_1,p0_2,p0_3⟩ (fun _=>?_)
   try simp only[uW,uX,uY,uZ]
   clear hK K
   refine zC 79 rfl rfl (fun K hK=>?_)
   go_simp
   with_reducible refine(scaleRW 3 60 12 (R.below ha (by go_grown)) (GV.below gx (by go_grown)) hnx (by decide) (by decide) (zh (Tab.below hT.out (zAa hB (zAa (b:=w22) Bz (by go_grown)))))).mono ?_
   rintro e w23 ⟨A23,n23,c23,rfl,h23,l23,b23⟩
   replace b23:=zAa (a:=w22) (by go_grown) b23
   replace dx:=dx.below b23
   replace dy:=dy.below b23
   replace ha:=ha.below b23
   replace h11:=h11.below b23
   replace h12:=h12.below b23
   replace h22:=h22.below b23
   replace gx:=gx.below b23
   replace gy:=gy.below b23
   replace Bz:=zAa Bz b23
   clear b23
   clear p0_0 p0_1 p0_2 p0_3
   obtain⟨p0_0,p0_1,p0_2,p0_3,-⟩:=(zxb HX0 Bz).cz
   refine hK.out _ _ ⟨p0_0,p0_1,p0_2,p0_3⟩ (fun _=>?_)
   try simp only[uW,uX,uY,uZ]
   clear hK K
   refine zC 80 rfl rfl (fun K hK=>?_)
   go_simp
   with_reducible refine(sameVec_q (NV.below h22 (by go_grown)) (NV.below h23 (by go_grown)) (by decide) (by decide) (by omega) (by omega) true (zh (decide_eq_true rfl))).mono ?_
   rintro e w24 ⟨rfl,b24⟩
   replace b24:=zAa (a:=w23) (by go_grown) b24
   replace dx:=dx.below b24
   replace dy:=dy.below b24
   replace ha:=ha.below b24
   replace h11:=h11.below b24
   replace h12:=h12.below b24
   replace gx:=gx.below b24
   replace gy:=gy.below b24
   replace Bz:=zAa Bz b24
   clear b24
   clear p0_0 p0_1 p0_2 p0_3
   obtain⟨p0_0,p0_1,p0_2,p0_3,-⟩:=(zxb HX0 Bz).cz
   refine hK.out _ _ ⟨p0_0,p0_1,p0_2,p0_3⟩ (fun _=>?_)
   try simp only[uW,uX,uY,uZ]
   clear hK K
   iterate 9 (refine zT rfl rfl (fun w' ⟨p0_0,p0_1,p0_2,p0_3⟩=>by go_simp<;>with_reducible rfl) ?_;try simp only[uW,uX,uY,uZ])
   refine zC 87 rfl rfl (fun K hK=>?_)
   go_simp
   with_reducible refine(putW 3 60 12 65 (GV.below gx (by go_grown)) at_ (R.below ha (by go_grown)) hnx (by decide) (by decide) (by decide) (zh (Tab.below hT.out (zAa hB (zAa (b:=w24) Bz (by go_grown)))))).mono ?_
   rintro e w25 ⟨A25,n25,c25,rfl,h25,l25,b25⟩
   replace b25:=zAa (a:=w24) (by go_grown) b25
   replace dx:=dx.below b25
   replace dy:=dy.below b25
   replace ha:=ha.below b25
   replace h11:=h11.below b25
   replace h12:=h12.below b25
   replace gx:=gx.below b25
   replace gy:=gy.below b25
   replace Bz:=zAa Bz b25
   clear b25
   clear p0_0 p0_1 p0_2 p0_3
   obtain⟨p0_0,p0_1,p0_2,p0_3,-⟩:=(zxb HX0 Bz).cz
   refine hK.out _ _ ⟨p0_0,p0_1,p0_2,p0_3⟩ (fun _=>?_)
   try simp only[uW,uX,uY,uZ]
   clear hK K
   refine zC 91 rfl rfl (fun K hK=>?_)
   go_simp
   with_reducible refine(putRW 3 60 12 (GV.below gx (by go_grown)) at_ (R.below ha (by go_grown)) hnx (by decide) (by decide) (zh (Tab.below hT.out (zAa hB (zAa (b:=w25) Bz (by go_grown)))))).mono ?_
   rintro e w26 ⟨A26,n26,c26,rfl,h26,l26,b26⟩
   replace b26:=zAa (a:=w25) (by go_grown) b26
   replace dx:=dx.below b26
   replace dy:=dy.below b26
   replace h11:=h11.below b26
   replace h12:=h12.below b26
   replace h25:=h25.below b26
   replace gx:=gx.below b26
   replace gy:=gy.below b26
   replace Bz:=zAa Bz b26
   clear b26
   clear p0_0 p0_1 p0_2 p0_3
   obtain⟨p0_0,p0_1,p0_2,p0_3,-⟩:=(zxb HX0 Bz).cz
   refine hK.out _ _ ⟨p0_0,p0_1,p0_2,p0_3⟩ (fun _=>?_)
   try simp only[uW,uX,uY,uZ]
   clear hK K
   refine zC 92 rfl rfl (fun K hK=>?_)
   go_simp
   with_reducible refine(sameVec_q (NV.below h25 (by go_grown)) (NV.below h26 (by go_grown)) (by decide) (by decide) (by omega) (by omega) true (zh (decide_eq_true rfl))).mono ?_
   rintro e w27 ⟨rfl,b27⟩
   replace b27:=zAa (a:=w26) (by go_grown) b27
   replace dx:=dx.below b27
   replace dy:=dy.below b27
   replace h11:=h11.below b27
   replace h12:=h12.below b27
   replace gx:=gx.below b27
   replace gy:=gy.below b27
   replace Bz:=zAa Bz b27
   clear b27
   clear p0_0 p0_1 p0_2 p0_3
   obtain⟨p0_0,p0_1,p0_2,p0_3,-⟩:=(zxb HX0 Bz).cz
   refine hK.out _ _ ⟨p0_0,p0_1,p0_2,p0_3⟩ (fun _=>?_)
   try simp only[uW,uX,uY,uZ]
   clear hK K
   iterate 2 (refine zT rfl rfl (fun w' ⟨p0_0,p0_1,p0_2,p0_3⟩=>by go_simp<;>with_reducible rfl) ?_;try simp only[uW,uX,uY,uZ])
   refine zAc ?_
   go_wp2_with fail
   with_reducible refine(dotW 60 60 12 1477 (GV.below gx (by go_grown)) (GV.below gy (by go_grown)) hnx (by omega) (by decide) (by decide) (by decide) (by decide) (by decide) (zh (Tab.below hT.out (zAa hB (zAa (b:=w27) Bz (by go_grown)))))).mono ?_
   rintro e w28 ⟨s28,A28,c28,l28,s28r,A28r,c28r,l28r,rfl,h28,z28,b28⟩
   replace b28:=zAa (a:=w27) (by go_grown) b28
   replace dx:=dx.below b28
   replace dy:=dy.below b28
   replace h11:=h11.below b28
   replace h12:=h12.below b28
   replace gx:=gx.below b28
   replace gy:=gy.below b28
   replace Bz:=zAa Bz b28
   clear b28
   clear p0_0 p0_1 p0_2 p0_3
   go_wp2_with fail
   with_reducible refine(dotR_q (GV.below gx (by go_grown)) (GV.below gy (by go_grown)) (by decide) (by decide) (by decide) (by omega) (by omega)).mono ?_
   rintro e w29 ⟨s29,A29,c29,l29,s29r,A29r,c29r,l29r,rfl,h29,b29⟩
   replace b29:=zAa (a:=w28) (by go_grown) b29
   replace dx:=dx.below b29
   replace dy:=dy.below b29
   replace h28:=h28.below b29
   replace h11:=h11.below b29
   replace h12:=h12.below b29
   replace gx:=gx.below b29
   replace gy:=gy.below b29
   replace Bz:=zAa Bz b29
   clear b29
   go_wp2_with fail
   with_reducible refine(sameRat_rn (RN.below h28 (by go_grown)) (RN.below h29 (by go_grown)) (by have:=(h28).len;omega) (by have:=(h29).len;omega) true (zh (decide_eq_true rfl))).mono ?_
   rintro e w30 ⟨rfl,b30⟩
   replace b30:=zAa (a:=w29) (by go_grown) b30
   replace dx:=dx.below b30
   replace dy:=dy.below b30
   replace h11:=h11.below b30
   replace h12:=h12.below b30
   replace gx:=gx.below b30
   replace gy:=gy.below b30
   replace Bz:=zAa Bz b30
   clear b30
   go_wp2_with fail
   with_reducible refine(getW 60 12 61 at_ (GV.below gx (by go_grown)) hnx (by decide) (by decide) (by decide) (zh (Tab.below hT.out (zAa hB (zAa (b:=w30) Bz (by go_grown)))))).mono ?_
   rintro e w31 ⟨s31,A31,c31,l31,s31r,A31r,c31r,l31r,rfl,h31,z31,b31⟩
   replace b31:=zAa (a:=w30) (by go_grown) b31
   replace dx:=dx.below b31
   replace dy:=dy.below b31
   replace h11:=h11.below b31
   replace h12:=h12.below b31
   replace gx:=gx.below b31
   replace gy:=gy.below b31
   replace Bz:=zAa Bz b31
   clear b31
   go_wp2_with fail
   with_reducible refine(getR_q at_ (GV.below gx (by go_grown)) (by decide) (by omega)).mono ?_
   rintro e w32 ⟨s32,A32,c32,l32,s32r,A32r,c32r,l32r,rfl,h32,b32⟩
   replace b32:=zAa (a:=w31) (by go_grown) b32
   replace dx:=dx.below b32
   replace dy:=dy.below b32
   replace h31:=h31.below b32
   replace h11:=h11.below b32
   replace h12:=h12.below b32
   replace gx:=gx.below b32
   replace gy:=gy.below b32
   replace Bz:=zAa Bz b32
   clear b32
   go_wp2_with fail
   with_reducible refine(sameRat_rn (RN.below h31 (by go_grown)) (RN.below h32 (by go_grown)) (by have:=(h31).len;omega) (by have:=(h32).len;omega) true (zh (decide_eq_true rfl))).mono ?_
   rintro e w33 ⟨rfl,b33⟩
   replace b33:=zAa (a:=w32) (by go_grown) b33
   replace dx:=dx.below b33
   replace dy:=dy.below b33
   replace h11:=h11.below b33
   replace h12:=h12.below b33
   replace gx:=gx.below b33
   replace gy:=gy.below b33
   replace Bz:=zAa Bz b33
   clear b33
   go_wp2_with fail
   with_reducible refine(sameV_q (GV.below gx (by go_grown)) (GV.below gy (by go_grown)) (by decide) (by decide) (by omega) (by omega) (zh (Tab.below hT.out (zAa hB (zAa (b:=w33) Bz (by go_grown))))) r HR).mono ?_
   rintro e w34 ⟨rfl,b34⟩
   replace b34:=zAa (a:=w33) (by go_grown) b34
   replace dx:=dx.below b34
   replace dy:=dy.below b34
   replace h11:=h11.below b34
   replace h12:=h12.below b34
   replace gx:=gx.below b34
   replace gy:=gy.below b34
   replace Bz:=zAa Bz b34
   clear b34
   go_wp2_with fail
   with_reducible refine(sameR_q (GV.below gx (by go_grown)) (GV.below gy (by go_grown)) (by decide) (by omega) (by omega) (zh (Tab.below hT.out (zAa hB (zAa (b:=w34) Bz (by go_grown))))) r HR).mono ?_
   rintro e w35 ⟨rfl,b35⟩
   replace b35:=zAa (a:=w34) (by go_grown) b35
   replace dx:=dx.below b35
   replace dy:=dy.below b35
   replace h11:=h11.below b35
   replace h12:=h12.below b35
   replace gx:=gx.below b35
   replace Bz:=zAa Bz b35
   clear b35
   go_wp2_with fail
   with_reducible refine(right_q (m:=3) (hx.below (zAa hB (zAa (b:=w35) Bz (by go_grown)))) (fun t ht=>(HFX.out t ht).below (zAa hB (zAa (b:=w35) Bz (by go_grown)))) (by decide) (by omega) r2 HR2 (zh (Tab.below hT.out (zAa hB (zAa (b:=w35) Bz (by go_grown)))))).mono ?_
   rintro e w36 ⟨rfl,b36⟩
   replace b36:=zAa (a:=w35) (by go_grown) b36
   replace dx:=dx.below b36
   replace dy:=dy.below b36
   replace h11:=h11.below b36
   replace h12:=h12.below b36
   replace gx:=gx.below b36
   replace Bz:=zAa Bz b36
   clear b36
   go_wp2_with fail
   with_reducible refine(rightR_q (GV.below gx (by go_grown)) (hx.below (zAa hB (zAa (b:=w36) Bz (by go_grown)))) (zh fun t ht=>(HFY.out t ht).below (zAa hB (zAa (b:=w36) Bz (by go_grown)))) (by decide) (by omega) r2 HR2 (zh (Tab.below hT.out (zAa hB (zAa (b:=w36) Bz (by go_grown)))))).mono ?_
   rintro e w37 ⟨rfl,b37⟩
   replace b37:=zAa (a:=w36) (by go_grown) b37
   replace dx:=dx.below b37
   replace dy:=dy.below b37
   replace h11:=h11.below b37
   replace h12:=h12.below b37
   replace gx:=gx.below b37
   replace Bz:=zAa Bz b37
   clear b37
   go_wp2_with fail
   with_reducible refine(denseI k2 m (GV.below gx (by go_grown)) (by decide) (by decide) (by omega) hkn (by omega) (zh (Tab.below hT.out (zAa hB (zAa (b:=w37) Bz (by go_grown)))))).mono ?_
   rintro e w38 ⟨daA,dac,daD,rfl,h38,hr38,hq38,b38⟩
   replace b38:=zAa (a:=w37) (by go_grown) b38
   replace dx:=dx.below b38
   replace dy:=dy.below b38
   replace h11:=h11.below b38
   replace h12:=h12.below b38
   replace gx:=gx.below b38
   replace Bz:=zAa Bz b38
   clear b38
   have HQda:=zh hq38
   clear hq38
   go_wp2_with fail
   with_reducible refine((denseR_q k2 m (GV.below gx (by go_grown)) (by decide) (by omega) hkn (by omega)).mono (fun _ _ k=>k.d)).mono ?_
   rintro e w39 ⟨dbA,dbc,dbD,rfl,h39,hr39,hq39,b39⟩
   replace b39:=zAa (a:=w38) (by go_grown) b39
   replace hr38:=hr38.below b39
   replace h38:=h38.below b39
   replace dx:=dx.below b39
   replace dy:=dy.below b39
   replace h11:=h11.below b39
   replace h12:=h12.below b39
   replace Bz:=zAa Bz b39
   clear b39
   have HQdb:=zh hq39
   clear hq39
   go_wp2_with fail
   with_reducible refine(sameRats_rn (Sl.below h38 (by go_grown)) (Sl.below h39 (by go_grown)) (zh (AllRn.ones (AllRn.below hr38 (by go_grown)) (by decide))) (zh (AllRn.ones (AllRn.below hr39 (by go_grown)) (by decide))) (by omega) (by omega) true (zh (same_frs (HQda.out.trans HQdb.out.symm)))).mono ?_
   rintro e w40 ⟨rfl,b40⟩
   replace b40:=zAa (a:=w39) (by go_grown) b40
   replace dx:=dx.below b40
   replace dy:=dy.below b40
   replace h11:=h11.below b40
   replace h12:=h12.below b40
   replace Bz:=zAa Bz b40
   clear b40
   go_wp2_with fail
   with_reducible refine(sameVec_d (VcD.below h11 (by go_grown)) (VcD.below dx (by go_grown)) (by omega)).mono ?_
   rintro e w41 ⟨rfl,b41⟩
   replace b41:=zAa (a:=w40) (by go_grown) b41
   replace dy:=dy.below b41
   replace h12:=h12.below b41
   replace Bz:=zAa Bz b41
   clear b41
   go_wp2_with fail
   with_reducible refine(sameVec_d (VcD.below h12 (by go_grown)) (VcD.below dy (by go_grown)) (by omega)).mono ?_
   rintro e w42 ⟨rfl,b42⟩
   replace b42:=zAa (a:=w41) (by go_grown) b42
   replace Bz:=zAa Bz b42
   clear b42
   go_wp2_with fail
   with_reducible refine(awake5_q (zh (Tab.below hT.out (zAa hB (zAa (b:=w42) Bz (by go_grown)))))).mono ?_
   rintro e w43 ⟨rfl,b43⟩
   replace b43:=zAa (a:=w42) (by go_grown) b43
   replace Bz:=zAa Bz b43
   clear b43
   go_wp2_with fail
   go_ret
   have hF:=zAa (c:=w43) hB Bz
   exact⟨rfl,zAa hF (by go_grown)⟩
theorem tells5_q {w:World} {X Y:Option Addr} {nx cx ny cy:Nat} {LX LY:List Tm} {a:Fr} {at_ kn:Int} (hx:Sl Tm.cs 5 w X nx cx LX) (xi:Hid (∀t∈LX,TmIn w t)) (hlx:nx≤9223372036854775807) (hy:Sl Tm.cs 5 w Y ny cy LY) (yi:Hid (∀t∈LY,TmIn w t)) (hly:ny≤9223372036854775807) (ai:FrIn w a) (xc:X=none→cx=0) (yc:Y=none→cy=0) (hT:Hid (Tab w)) :
  Calls Tryz.prog 4 #[.slice X nx cx,.slice Y ny cy,.int .i64 at_,.agg #[.bool a.s,.slice a.A a.l a.c,.bool a.s',.slice a.A' a.l' a.c'],.int .i64 kn] w (Yes w):=by
 cases s0:shortVc 12 3 ⟨X,nx,cx,LX⟩
 ·exact tells5_0 hx xi hlx hy yi hly ai (zh s0) hT
 ·cases s1:shortVc 12 3 ⟨Y,ny,cy,LY⟩
  ·exact tells5_1 hx xi hlx hy yi hly ai (zh s0) (zh s1) hT
  ·cases s2:shortFr 3 a
   ·exact tells5_2 hx xi hlx hy yi hly ai (zh s0) (zh s1) (zh s2) hT
   ·by_cases g1:(300:Int)<kn
    ·by_cases g2:kn<1099511627776
     ·exact tells5_3 hx xi hlx hy yi hly ai (zh s0) (zh s1) (zh s2) g1 g2 hT
     ·exact tells5_ok hx xi hlx hy yi hly ai (zh s0) (zh s1) (zh s2) xc yc _ rfl _ rfl (fun h=>g2 h.2) hT
    ·exact tells5_ok hx xi hlx hy yi hly ai (zh s0) (zh s1) (zh s2) xc yc _ rfl _ rfl (fun h=>g1 h.1) hT
theorem tells5_any {w:World} {x y v:Value} {at_ kn:Int} (hx:TsIn w x) (hy:TsIn w y) (_:-9223372036854775808≤at_∧at_≤9223372036854775807) (ha:RtIn w v) (_:-9223372036854775808≤kn∧kn≤9223372036854775807) (hT:Tab w) :
  Calls Tryz.prog 4 #[x,y,.int .i64 at_,v,.int .i64 kn] w (Yes w):=by
 obtain⟨X,nx,cx,LX,rfl,x1,x2,x3,x4⟩:=hx
 obtain⟨Y,ny,cy,LY,rfl,y1,y2,y3,y4⟩:=hy
 obtain⟨a,rfl,ai⟩:=ha
 exact tells5_q (a:=a) x1 (zh x2) x3 y1 (zh y2) y3 ai x4 y4 (zh hT)
open Go.RowKit Tw
namespace sparseTells
open Go.ChangeShapes Go.WideShapes Go.ChangeAt Go.RowKit Tw
theorem contract (H:Type) (enc:TypeId×Value→H) (W:World) (base:Nat) (args:Array Value) (ds gs:List (DataW H)) (before:List MemPlace)
  (hval:∀(j:Nat) t v,Tryz.f4.params[j]?=some t→args[j]?=some v→Value.okWide Tryz.prog W .any base t v)
  (hW:DataW.Whole enc Tryz.prog Tryz.f4.params.toList Rows.sparseTellsSpec.vars false W args.toList ds gs before) (hL:laidMetH Tryz.prog Rows.sparseTellsRow.laid W) :
  Calls Tryz.prog 4 args W fun e W'=>∃v,e=.returned v∧Rows.sparseTellsSpec.post enc Tryz.prog Tryz.f4 false true false false W args v W':=by
 have hW':=hW
 obtain⟨p,q,hA0,hV,rfl,hfz,hnd⟩:=hW
 have hA:DataW.TrodAll enc Tryz.prog W 0 (fun _=>true) true Tryz.f4.params.toList args.toList ds p:=hA0
 rw[Tryz.params4] at hA hval
 obtain⟨v0,vs0,d0,ds0,p0,q0,hargs,rfl,rfl,h0,r0⟩:=trodAll_cons hA
 obtain⟨v1,vs1,d1,ds1,p1,q1,rfl,rfl,rfl,h1,r1⟩:=trodAll_cons r0
 obtain⟨v2,vs2,d2,ds2,p2,q2,rfl,rfl,rfl,h2,r2⟩:=trodAll_cons r1
 obtain⟨v3,vs3,d3,ds3,p3,q3,rfl,rfl,rfl,h3,r3⟩:=trodAll_cons r2
 obtain⟨v4,vs4,d4,ds4,p4,q4,rfl,rfl,rfl,h4,r4⟩:=trodAll_cons r3
 obtain⟨rfl,rfl,rfl⟩:=trodAll_nil r4
 obtain rfl:args=#[v0,v1,v2,v3,v4]:=by cases args;simp_all
 obtain⟨rfl,rfl⟩:=trodVars_none hV
 have lt0:∀x∈p0,x.block<W.heap.size:=by obtain⟨m,hm⟩:=h0;exact DataW.trod_lt m _ _ _ hm
 obtain⟨A0,l0,c0,rfl⟩:=okWide_slice Tryz.underlying45 (hval 0 45 v0 rfl rfl)
 have n0:=ts_of h0 ⟨_,_,_,rfl⟩
 have lt1:∀x∈p1,x.block<W.heap.size:=by obtain⟨m,hm⟩:=h1;exact DataW.trod_lt m _ _ _ hm
 obtain⟨A1,l1,c1,rfl⟩:=okWide_slice Tryz.underlying45 (hval 1 45 v1 rfl rfl)
 have n1:=ts_of h1 ⟨_,_,_,rfl⟩
 obtain⟨a2,rfl,rfl,rfl,w2⟩:=open_int Tryz.underlying3 (hval 2 3 v2 rfl rfl) h2
 have lt3:∀x∈p3,x.block<W.heap.size:=by obtain⟨m,hm⟩:=h3;exact DataW.trod_lt m _ _ _ hm
 have n3:=rt_of h3 (aggRat_of (hval 3 50 v3 rfl rfl))
 obtain⟨a4,rfl,rfl,rfl,w4⟩:=open_int Tryz.underlying3 (hval 4 3 v4 rfl rfl) h4
 refine(tells5_any n0 n1 (bounds_i64 w2) n3 (bounds_i64 w4) (tab_of hL)).mono fun e W' ⟨he,bel⟩=>?_
 subst he
 exact⟨_,rfl,_,_,_,[],_,[],hW',trodAll_mk1 (shut_bool Tryz.underlying4 _),(trodAll_cons_mk (Below.trod laidOut (by kernel_rfl) (of_decide_eq_true (by kernel_rfl)) h0 bel lt0) (trodAll_cons_mk (Below.trod laidOut (by kernel_rfl) (of_decide_eq_true (by kernel_rfl)) h1 bel lt1) (trodAll_cons_mk (shut_int Tryz.underlying3 w2) (trodAll_cons_mk (Below.trod laidOut (by kernel_rfl) (of_decide_eq_true (by kernel_rfl)) h3 bel lt3) (trodAll_cons_mk (shut_int Tryz.underlying3 w4) trodAll_mk0))))),rfl,bel.frame _,fun h=>by cases h⟩
theorem laid_met (os:Os):laidMet Tryz.prog Rows.sparseTellsRow.laid ((laidWorld os).forCall (fun _ _=>0) ⟨#[],#[.slice none 0 0,.slice none 0 0,.int .i64 0,.agg #[.bool false,.slice none 0 0,.bool false,.slice none 0 0],.int .i64 0],[]⟩).memory :=
 laidMet_of_run' 8 (by kernel_rfl) (by kernel_rfl)
theorem reads (os:Os) {H:Type} (enc:TypeId×Value→H):∃places,DataW.whole enc Tryz.prog ((laidWorld os).forCall (fun _ _=>0) ⟨#[],#[.slice none 0 0,.slice none 0 0,.int .i64 0,.agg #[.bool false,.slice none 0 0,.bool false,.slice none 0 0],.int .i64 0],[]⟩).memory Tryz.f4.params.toList Rows.sparseTellsSpec.vars false (#[.slice none 0 0,.slice none 0 0,.int .i64 0,.agg #[.bool false,.slice none 0 0,.bool false,.slice none 0 0],.int .i64 0]:Array Value).toList 8=some ([.nil,.nil,.lit (.int .i64 0),.agg [.agg [.lit (.bool false),.nil],.agg [.lit (.bool false),.nil]],.lit (.int .i64 0)],[],places) :=
 ⟨[],by kernel_rfl⟩
theorem lifted (os:Os) (started:os.Started) (H:Type) (enc:TypeId×Value→H) (F:Stop.Interp) :
  ReturnsInHanded {} Tryz.checked os 4 .any ((OpenSpec.ofChange Rows.sparseTellsSpec).preRow enc Tryz.prog Tryz.f4 Rows.sparseTellsRow.domain false Rows.sparseTellsRow.laid) (((OpenSpec.ofChange Rows.sparseTellsSpec).at F).post enc Tryz.prog Tryz.f4 false true false false):=by
 obtain⟨places,hx⟩:=reads os enc
 refine returnsInHanded_of_row (C:=Tryz.checked) (s:=OpenSpec.ofChange Rows.sparseTellsSpec) own started (by kernel_rfl) Tryz.func4
  (witness_row_at (enc:=enc) (C:=Tryz.checked) false (laidWorld os) #[.slice none 0 0,.slice none 0 0,.int .i64 0,.agg #[.bool false,.slice none 0 0,.bool false,.slice none 0 0],.int .i64 0] rfl (by kernel_rfl) (by kernel_rfl) (by kernel_rfl)
   (OpenSpec.preRow_of_cond 8 hx (by kernel_rfl) (fun k hk=>by cases hk) (by kernel_rfl) (laid_met os))) ?_
 intro W base args ds gs before hval hW _ _ _ hL _ _
 exact contract H enc W base args ds gs before hval hW hL
theorem joined:joinedFacts Tryz.pinned.checked.prog 4 Tryz.f4 (OpenSpec.ofChange Rows.sparseTellsSpec).bare Rows.sparseTellsRow=true:=by
 unfold joinedFacts
 repeat' with_reducible refine Bool.and_eq_true_iff.mpr ⟨?_,?_⟩
 all_goals decide +kernel
theorem said:Rows.SparseTellsSaid :=
 OpenClaim.holds_of_cond 4 Tryz.f4 rfl rfl rfl rfl rfl rfl rfl ⟨rfl,rfl,rfl,rfl,rfl⟩ rfl rfl rfl rfl rfl (by kernel_rfl) Tryz.func4 joined
  (of_decide_eq_true (by kernel_rfl)) (by unfold Func.isWrapper;first | (rw[if_pos (by decide +kernel)];kernel_rfl) | (rw[if_neg (by decide +kernel)];exact⟨rfl,rfl⟩))
  (fun os started H enc _ F=>by rw[OpenClaim.pre_eq_preRow];exact lifted os started H enc F)
theorem plain (f : FuncId) (fn : Func) (hf : Tryz.pinned.checked.prog.funcNamed "tripwire/tripwirelaw05.SparseTells" = some f) (hfn : Tryz.pinned.checked.prog.funcs[f]? = some fn) :
  false=Tryz.pinned.checked.prog.looks []∧∀(j:Nat) t,fn.params[j]?=some t→Tryz.pinned.checked.prog.wantsStandIn t=false:=by
 obtain rfl : f = 4 := Option.some.inj ((show Tryz.prog.funcNamed "tripwire/tripwirelaw05.SparseTells" = some 4 by kernel_rfl).symm.trans hf) |>.symm
 obtain rfl:fn=Tryz.f4:=(Option.some.inj (Tryz.func4.symm.trans hfn)).symm
 refine⟨by kernel_rfl,fun j t ht=>?_⟩
 rw[Tryz.params4] at ht
 have hm:=Array.mem_of_getElem? ht
 simp only[List.mem_toArray,List.mem_cons,List.not_mem_nil,or_false] at hm
 rcases hm with rfl | rfl | rfl | rfl | rfl
 ·exact(show Tryz.prog.wantsStandIn 45=false by kernel_rfl)
 ·exact(show Tryz.prog.wantsStandIn 45=false by kernel_rfl)
 ·exact(show Tryz.prog.wantsStandIn 3=false by kernel_rfl)
 ·exact(show Tryz.prog.wantsStandIn 50=false by kernel_rfl)
 ·exact(show Tryz.prog.wantsStandIn 3=false by kernel_rfl)
theorem card:Rows.SparseTellsCardSaid :=
 Claim7.holds_tied_plain_at .later [] _ _ _ _ said (fun _ h=>by cases h) (by kernel_rfl) (fun _ h=>by cases h) sparseTells_row_tie rfl ⟨rfl,rfl⟩ (by kernel_rfl) rfl plain (by kernel_rfl)
end sparseTells
end Go.Proofs.YtljjgfmeaejnfaaGreatDoor
