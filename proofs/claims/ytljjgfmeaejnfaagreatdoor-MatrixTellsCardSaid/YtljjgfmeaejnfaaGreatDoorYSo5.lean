/-
  sparse.ordered, sparse.join, sparse.Add. Written by wip/gen/so5.py.
-/
import Derived.Test.YtljjgfmeaejnfaaGreatDoorYSo4
import Derived.Test.YtljjgfmeaejnfaaGreatDoorYVj
set_option maxHeartbeats 8000000
set_option maxRecDepth 100000
namespace Go.Proofs.YtljjgfmeaejnfaaGreatDoor
open Go.RowKit Tw
def TellsO (w:World) (P:List (Int×Rat)) (M n:Nat) (e:Ending) (w':World):Prop :=
 ∃A' n' c' P',e=.returned (.slice A' n' c')∧GV w' A' n' c' P' (M+1)∧Rise P'∧(∀a,pget P' a=pget P a)∧n'≤n∧Below w.heap.size w w'
def OR1 (w:World) (L:List Tm) (n gk:Nat) (s:Value) (wr:World):Prop:=∃i:Nat,i≤n∧n-i=gk∧s=.int .i64 (i:Int)∧Below w.heap.size w wr∧Rise (prs (L.take i))
theorem rise_next {L:List Tm} {k:Nat} {x y:Tm} (h:Rise (prs (L.take (k+1)))) (hy:L[k]?=some y) (hx:L[k+1]?=some x) (hl:y.at_<x.at_):Rise (prs (L.take (k+1+1))):=by
 rw[zAk hx,prs_append];refine h.snoc fun z hz=>?_;rw[zAk hy,prs_append] at h hz;rcases List.mem_append.1 hz with hz | hz
 ·have:=(Rise.front (x:=(y.at_,y.x.q)) h).2 z hz;simp only at this ⊢
  omega
 ·obtain rfl:=List.mem_singleton.1 hz;exact hl
theorem ordered_q {w:World} {A:Option Addr} {n c M:Nat} {P:List (Int×Rat)} (h:GV w A n c P M) (hM:M≤19000) (hn:n≤1000000) (hT:Hid (Tab w)) :
  Calls Tryz.prog 99 #[.slice A n c] w (TellsO w P M n):=by
 have hg:=zh h;obtain⟨L,h1,h2,rfl,h4,h5⟩:=h;have HS:=zh h1;have HLN:=zh h1.1;clear h1 h2 h4 h5;go_enter Tryz.func99,Tryz.ntmps99
 go_wp2_with fail
 go_loopg [6] n (fun gk s wr=>OR1 w L n gk s wr)
 case atStart=>exact⟨0,Nat.zero_le _,rfl,rfl,Below.refl _ _,List.Pairwise.nil⟩
 case round =>
  obtain⟨i,hi,hgk,rfl,hB,hr⟩:=hrel;have HGK:=zh hgk;clear hgk;by_cases hlt:i<n
  ·obtain⟨b,off,rfl,hel⟩:=HS.out.at Tm.cs_len zo zo;obtain⟨x,hx⟩:∃x,L[i]?=some x:=⟨L[i]'(by rw[HLN.out];exact hlt),List.getElem?_eq_getElem _⟩;have hnd:=hel i x hx;cases i with
   | zero =>
    have HR2:Hid (Rise (prs (L.take (0+1)))):=zh (by rw[zAk hx];exact List.pairwise_singleton _ _);have i1:(0:Int)<(n:Int):=zo;clear hx hel hr;have Bz:=Below.refl wr.heap.size wr;go_wp2_with fail
    (try simp only[List.append_eq,List.cons_append,List.nil_append])
    refine zAb (.take 0 (.take 1 (.take 2 (.take 3 (.take 4 (.take 5 (.take 6 (.take 7 (.take 8 (.take 9 (.take 10 (.take 11 (.take 12 (.take 13 (.take 14 (.take 15 .done)))))))))))))))) [] (fun w'=>True) (by kernel_rfl) (by kernel_rfl) trivial ?_;iterate 3 (refine zT rfl rfl (fun w' _=>by go_simp<;>with_reducible rfl) ?_;try simp only[uW,uX,uY,uZ])
    iterate 12 (refine zN rfl rfl ?_;try simp only[uW,uX,uY,uZ])
    refine zT rfl rfl (fun w' _=>by go_simp<;>with_reducible rfl) ?_;try simp only[uW,uX,uY,uZ]
    refine zAc ?_;go_wp2_with fail
    go_roundg (n-(0+1))
    case measure=>have:=HGK.out;omega
    case rel=>exact⟨0+1,zo,rfl,by go_num,zAa (zAa hB Bz) (by go_grown),HR2.out⟩
   | succ k =>
    obtain⟨y,hy⟩:∃y,L[k]?=some y:=⟨L[k]'(by rw[HLN.out];omega),List.getElem?_eq_getElem _⟩;have hnd':=hel k y hy;have i1:(k:Int)+1<(n:Int):=zo;have i2:(0:Int)≤(k:Int)+1:=zo;have i3:(0:Int)≤(k:Int):=zo;have i4:(k:Int)<(n:Int):=zo;have i5:(0:Int)<(k:Int)+1:=zo;have w6:IntKind.i64.wrap ((k:Int)+1-1)=(k:Int):=by rw[IntWalk.i64_in _ zo];omega
    have w7:IntKind.i64.wrap (k:Int)=(k:Int):=IntWalk.i64_in _ zo;by_cases hl:y.at_<x.at_
    ·have HR2:=zh (rise_next hr hy hx hl);have g1:¬x.at_≤y.at_:=zo;clear hx hy hel hr hl;have Bz:=Below.refl wr.heap.size wr;have pA0:=(hnd.below (zAa hB Bz)).c0 (u:=.int .i64 x.at_) rfl;have pB0:=(hnd'.below (zAa hB Bz)).c0 (u:=.int .i64 y.at_) rfl;go_wp2_with fail
     (try simp only[List.append_eq,List.cons_append,List.nil_append])
     refine zAb (.take 0 (.take 1 (.take 2 (.take 3 (.take 4 (.take 5 (.take 6 (.take 7 (.take 8 (.take 9 (.take 10 (.take 11 (.take 12 (.take 13 (.take 14 (.take 15 .done)))))))))))))))) [] (fun w'=>w'.cell? ⟨b,off+(k+1)*5,none⟩=some (.int .i64 x.at_)∧w'.cell? ⟨b,off+k*5,none⟩=some (.int .i64 y.at_)) (by kernel_rfl) (by kernel_rfl) ⟨pA0,pB0⟩ ?_;iterate 16 (refine zT rfl rfl (fun w' ⟨pA0,pB0⟩=>by go_simp<;>with_reducible rfl) ?_;try simp only[uW,uX,uY,uZ])
     refine zAc ?_;go_wp2_with fail
     go_roundg (n-(k+1+1))
     case measure=>have:=HGK.out;omega
     case rel=>exact⟨k+1+1,zo,rfl,by go_num,zAa (zAa hB Bz) (by go_grown),HR2.out⟩
    ·have g1:x.at_≤y.at_:=zo;clear hx hy hel hr hl;have Bz:=Below.refl wr.heap.size wr;have pA0:=(hnd.below (zAa hB Bz)).c0 (u:=.int .i64 x.at_) rfl;have pB0:=(hnd'.below (zAa hB Bz)).c0 (u:=.int .i64 y.at_) rfl;go_wp2_with fail
     (try simp only[List.append_eq,List.cons_append,List.nil_append])
     refine zAb (.take 0 (.take 1 (.take 2 (.take 3 (.take 4 (.take 5 (.take 6 (.take 7 (.take 8 (.take 9 (.take 10 (.take 11 (.take 12 (.take 13 (.take 14 (.take 15 .done)))))))))))))))) [] (fun w'=>w'.cell? ⟨b,off+(k+1)*5,none⟩=some (.int .i64 x.at_)∧w'.cell? ⟨b,off+k*5,none⟩=some (.int .i64 y.at_)) (by kernel_rfl) (by kernel_rfl) ⟨pA0,pB0⟩ ?_;iterate 16 (refine zT rfl rfl (fun w' ⟨pA0,pB0⟩=>by go_simp<;>with_reducible rfl) ?_;try simp only[uW,uX,uY,uZ])
     refine zAc ?_;go_wp2_with fail
     with_reducible refine(normV_q (hg.out.below (zAa hB (zAa (b:=wr) Bz (by go_grown)))) hM hn (zh (Tab.below hT.out (zAa hB (zAa (b:=wr) Bz (by go_grown)))))).mono ?_
     rintro e w1 ⟨A1,n1,c1,rfl,h1,b1⟩;replace b1:=zAa (a:=wr) (by go_grown) b1;replace Bz:=zAa Bz b1;clear b1;clear pA0 pB0;go_wp2_with fail
     go_ret
     have hF:=zAa (c:=w1) hB Bz;have hF2:=h1.len;exact⟨A1,n1,c1,nrm (prs L),rfl,(NV.below h1 (by go_grown)).gv (nrm_nrm _).rise,(nrm_nrm _).rise,nrm_get _,by have:=nrm_len (prs L);have:=HLN.out;rw[prs_len] at *;omega,zAa (zAa hB Bz) (by go_grown)⟩
  ·obtain rfl:i=n:=zo;have i1:¬(i:Int)<(i:Int):=zo;rw[List.take_of_length_le (by rw[HLN.out];exact Nat.le_refl _)] at hr;have HR:=zh hr;clear hr;go_wp2_with fail
   go_ret
   exact⟨A,i,c,prs L,rfl,(hg.out.below hB).mono (Nat.le_succ _),HR.out,fun _=>rfl,Nat.le_refl _,hB⟩
open Go.RowKit Tw
def SC1 (w W:World) (cs:Array Value) (L:List Tm) (q:Rat) (n MM gk:Nat) (s5 s12:Value) (wr:World):Prop :=
 ∃(i k:Nat) (H:Option Addr) (hc:Nat) (O:List Tm),s5=.slice H k hc∧s12=.int .i64 (i:Int)∧i≤n∧n-i≤gk∧k≤i∧
  OwnR wr W.heap.size 114 5 (.slice H k hc) k (flat Tm.cs O)∧prs O=((prs (L.take i)).map fun x=>(x.1,q*x.2)).filter (fun x=>decide (x.2≠0))∧OnT wr O (fun _=>MM)∧Bx wr w.heap.size cs 50∧Below w.heap.size w wr∧Below W.heap.size W wr
theorem scale_snoc {L:List Tm} {i:Nat} {x:Tm} {q:Rat} (h:L[i]?=some x):((prs (L.take (i+1))).map fun x=>(x.1,q*x.2)).filter (fun x=>decide (x.2≠0))=((prs (L.take i)).map fun x=>(x.1,q*x.2)).filter (fun x=>decide (x.2≠0))++if q*x.x.q=0 then [] else [(x.at_,q*x.x.q)]:=by
 rw[zAk h,prs_append,List.map_append,List.filter_append];congr 1
 show([(x.at_,q*x.x.q)]:List (Int×Rat)).filter _=_
 by_cases e:q*x.x.q=0
 ·rw[if_pos e,List.filter_cons_of_neg (by simp[e])];rfl
 ·rw[if_neg e,List.filter_cons_of_pos (by simp[e])];rfl
theorem sign_zero {q:Rat} {z:Int} (h:q.num.sign=z):(z != 0)=decide (q≠0):=by
 have:=num_sign q;rw[h] at this;unfold bne
 rw[this];by_cases e:q=0<;>simp[e]
theorem scaleV_q {w:World} {s s':Bool} {A A':Option Addr} {l c l' c':Nat} {q:Rat} {mq:Nat} {X:Option Addr} {n cx M:Nat} {P:List (Int×Rat)} (ha:R w s A c l s' A' c' l' q mq) (h:GV w X n cx P M) (hM:M≤10000) (hmq:mq≤10000) (hn:n≤1000000) (hT:Hid (Tab w)) :
  Calls Tryz.prog 30 #[.agg #[.bool s,.slice A l c,.bool s',.slice A' l' c'],.slice X n cx] w (TellsV w (nrm (P.map fun x=>(x.1,q*x.2))) (mq+M+3)):=by
 have hx:=zh h;have hM:M≤19000:=zo;clear h;obtain⟨W,hW,x0,hB⟩:=zAf w #[.bool s,.slice A l c,.bool s',.slice A' l' c'] 50;replace ha:=ha.below hB;have HX0:=zh x0;clear x0;have Bz:=Below.refl W.heap.size W;go_enter Tryz.func30,Tryz.ntmps30
 go_wp2_with fail
 rw[←hW];clear hW;go_wp2_with fail
 with_reducible refine(ordered_q (hx.out.below (zAa hB (zAa (b:=W) Bz (by go_grown)))) hM hn (zh (Tab.below hT.out (zAa hB (zAa (b:=W) Bz (by go_grown)))))).mono ?_
 rintro e w1 ⟨A1,n1,c1,P1,rfl,h1,r1,e1,l1,b1⟩;replace b1:=zAa (a:=W) (by go_grown) b1;replace ha:=ha.below b1;replace Bz:=zAa Bz b1;clear b1;go_wp2_with fail
 obtain⟨L,x1,x2,rfl,x4,x5⟩:=h1;have HS:=zh x1;have HLN:=zh x1.1;have HOK:=zh x2;have HWS:=zh x4;have HRS:=zh r1;have HGT:=zh e1;have HB1:=zh (zAa hB Bz);have HA1:=zh ha;have XX0:=zh (zxb HX0 Bz);have HXB:=zh (zxb HX0 Bz).lt;clear x1 x2 x4 x5 r1 e1 hB Bz HX0 ha;go_loopg [5,12] n1 (fun gk s5 s12 wr=>SC1 w w1 #[.bool s,.slice A l c,.bool s',.slice A' l' c'] L q n1 (mq+M+3) gk s5 s12 wr)
 case atStart=>exact⟨0,0,_,_,[],rfl,rfl,Nat.zero_le _,Nat.le_refl _,Nat.le_refl _,OwnR.nil _ _ _ _,rfl,OnT.nil _ _,XX0.out,HB1.out,Below.refl _ _⟩
 case round =>
  clear XX0;have hWs:w.heap.size<w1.heap.size:=zia HXB.out;clear HB1;obtain⟨i,k,H,hc,O,rfl,rfl,hi,hgk,hk,ho,hp,hon,hx0,hB,hBW⟩:=hrel;have HP:=zh hp;have HX0:=zh hx0;clear hp hx0;by_cases hlt:i<n1
  ·obtain⟨b,off,rfl,hel⟩:=HS.out.at Tm.cs_len zo zo;obtain⟨x,hx'⟩:∃x,L[i]?=some x:=⟨L[i]'(by rw[HLN.out];exact hlt),List.getElem?_eq_getElem _⟩;have hnd:=hel i x hx';have hfx:=HOK.out x (List.mem_of_getElem? hx');have hrx:R wr x.x.s x.x.A x.x.c x.x.l x.x.s' x.x.A' x.x.c' x.x.l' x.x.q (dgT x):=(hfx.below hBW).r;have ha:=HA1.out.below hBW;have hdx:dgT x+2≤M+1:=Nat.le_trans (wsum_mem (List.mem_of_getElem? hx')) (HWS.out _);have hsq:=ha.sz;have hsx:=hfx.szd;have hsz:sz (q*x.x.q)≤(mq+1)+(dgT x+1):=sz_mul zo hsx;obtain⟨z,HZ⟩:∃z,Hid ((q*x.x.q).num.sign=z):=⟨_,zh rfl⟩;have hz0:=sign_zero HZ.out;have i1:(i:Int)<(n1:Int):=zo;have i2:(0:Int)≤(i:Int):=zo;have hsn:=scale_snoc (q:=q) hx';clear hel hx' hfx;by_cases hs0:q*x.x.q=0
   ·have g3:(z != 0)=false:=by rw[hz0,decide_eq_false (fun h=>h hs0)]
    have HP2:Hid (prs O=((prs (L.take (i+1))).map fun x=>(x.1,q*x.2)).filter (fun x=>decide (x.2≠0))):=zh (by rw[hsn,if_pos hs0,List.append_nil,HP.out]);have HS1:Hid (0≤M):=zh (Nat.zero_le _);clear hz0 hsn hs0;have Bz:=Below.refl wr.heap.size wr;obtain⟨pA0,pA1,pA2,pA3,pA4,-⟩:=(hnd.below (zAa hBW Bz)).ez;go_upto_region 5 with(fail)
    obtain⟨V11,hW,x1,hN⟩:=zAf wr #[.int .i64 x.at_,.bool x.x.s,.slice x.x.A x.x.l x.x.c,.bool x.x.s',.slice x.x.A' x.x.l' x.x.c'] 114;rw[←hW];clear hW;obtain⟨v1,hb1⟩:∃b,b=wr.heap.size:=⟨_,rfl⟩;rw[←hb1] at x1 ⊢;have o0_1:w.heap.size<v1:=zia (zxb HX0 Bz).lt;have ow_1:w.heap.size≤v1:=zia (zw hB Bz);have nv1_own:=OwnR.off' (b:=v1) ho zo;replace ha:=ha.below hN;replace hon:=hon.below hN;replace ho:=ho.below hN;replace hrx:=hrx.below hN;replace hB:=zAa (zAa hB Bz) hN;replace hBW:=zAa (zAa hBW Bz) hN;replace HX0:=zh ((zxb HX0 Bz).below hN);have HX1:=zh x1;clear x1 hN Bz hb1;have Bz:=Below.refl V11.heap.size V11;clear pA0 pA1 pA2 pA3 pA4;obtain⟨pa0,pa1,pa2,pa3,-⟩:=(zxb HX0 Bz).cz;obtain⟨-,pb1,pb2,pb3,pb4,-⟩:=(zxb HX1 Bz).cz;go_wp2_with fail
    with_reducible refine(mul_q (R.below ha (by go_grown)) (R.below hrx (by go_grown)) zo (zh (Tab.below hT.out (zAa hB (zAa (b:=V11) Bz (by go_grown)))))).mono ?_
    rintro e w11 ⟨s11,A11,c11,l11,s11r,A11r,c11r,l11r,rfl,h11,b11⟩;replace b11:=zAa (a:=V11) (by go_grown) b11;replace hon:=hon.below b11;replace ho:=ho.below b11;replace Bz:=zAa Bz b11;clear b11;clear pa0 pa1 pa2 pa3 pb1 pb2 pb3 pb4;go_upto_region 6 with(fail)
    obtain⟨V12,hW,x2,hN⟩:=zAf w11 #[.bool s11,.slice A11 l11 c11,.bool s11r,.slice A11r l11r c11r] 50;rw[←hW];clear hW;obtain⟨v2,hb2⟩:∃b,b=w11.heap.size:=⟨_,rfl⟩;rw[←hb2] at x2 ⊢;have o0_2:w.heap.size<v2:=zia (zxb HX0 Bz).lt;have o1_2:v1<v2:=zia (zxb HX1 Bz).lt;have ow_2:w.heap.size≤v2:=zia (zw hB Bz);have nv2_own:=OwnR.off' (b:=v2) ho zo;replace h11:=h11.below hN;replace hon:=hon.below hN;replace ho:=ho.below hN;replace hB:=zAa (zAa hB Bz) hN;replace hBW:=zAa (zAa hBW Bz) hN;replace HX0:=zh ((zxb HX0 Bz).below hN);replace HX1:=zh ((zxb HX1 Bz).below hN);have HX2:=zh x2;clear x2 hN Bz hb2;have Bz:=Below.refl V12.heap.size V12;obtain⟨pc0,pc1,pc2,pc3,-⟩:=(zxb HX2 Bz).cz;go_wp2_with fail
    with_reducible refine(sign_q (R.below h11.r (by go_grown)) zo z HZ).mono ?_
    rintro e w12 ⟨rfl,b12⟩;replace b12:=zAa (a:=V12) (by go_grown) b12;replace hon:=hon.below b12;replace ho:=ho.below b12;replace Bz:=zAa Bz b12;clear b12;clear pc0 pc1 pc2 pc3;go_wp2_with fail
    have hs1:=HS1.out;go_roundg (n1-(i+1))
    case measure=>omega
    case rel=>exact⟨i+1,k,_,_,_,rfl,by go_num,zo,Nat.le_refl _,zo,OwnR.below ho (by go_grown),HP2.out,OnT.below hon (by go_grown),HX0.out.below (zAa Bz (by go_grown)),zAa (zAa hB Bz) (by go_grown),zAa (zAa hBW Bz) (by go_grown)⟩
   ·have g3:(z != 0)=true:=by rw[hz0,decide_eq_true hs0]
    have HP2:Hid (∀r:Fr,r.q=q*x.x.q→prs (O++[⟨x.at_,r⟩])=((prs (L.take (i+1))).map fun x=>(x.1,q*x.2)).filter (fun x=>decide (x.2≠0))):=zh (fun r hr=>by rw[hsn,if_neg hs0,prs_append,HP.out,show prs [(⟨x.at_,r⟩:Tm)]=[(x.at_,q*x.x.q)] from by rw[←hr];rfl]);have HS1:Hid (sz (q*x.x.q)+1≤mq+M+3):=zh zo;clear hz0 hsn hs0;have Bz:=Below.refl wr.heap.size wr;obtain⟨pA0,pA1,pA2,pA3,pA4,-⟩:=(hnd.below (zAa hBW Bz)).ez;go_upto_region 5 with(fail)
    obtain⟨V11,hW,x1,hN⟩:=zAf wr #[.int .i64 x.at_,.bool x.x.s,.slice x.x.A x.x.l x.x.c,.bool x.x.s',.slice x.x.A' x.x.l' x.x.c'] 114;rw[←hW];clear hW;obtain⟨v1,hb1⟩:∃b,b=wr.heap.size:=⟨_,rfl⟩;rw[←hb1] at x1 ⊢;have o0_1:w.heap.size<v1:=zia (zxb HX0 Bz).lt;have ow_1:w.heap.size≤v1:=zia (zw hB Bz);have nv1_own:=OwnR.off' (b:=v1) ho zo;replace ha:=ha.below hN;replace hon:=hon.below hN;replace ho:=ho.below hN;replace hrx:=hrx.below hN;replace hB:=zAa (zAa hB Bz) hN;replace hBW:=zAa (zAa hBW Bz) hN;replace HX0:=zh ((zxb HX0 Bz).below hN);have HX1:=zh x1;clear x1 hN Bz hb1;have Bz:=Below.refl V11.heap.size V11;clear pA0 pA1 pA2 pA3 pA4;obtain⟨pa0,pa1,pa2,pa3,-⟩:=(zxb HX0 Bz).cz;obtain⟨-,pb1,pb2,pb3,pb4,-⟩:=(zxb HX1 Bz).cz;go_wp2_with fail
    with_reducible refine(mul_q (R.below ha (by go_grown)) (R.below hrx (by go_grown)) zo (zh (Tab.below hT.out (zAa hB (zAa (b:=V11) Bz (by go_grown)))))).mono ?_
    rintro e w11 ⟨s11,A11,c11,l11,s11r,A11r,c11r,l11r,rfl,h11,b11⟩;replace b11:=zAa (a:=V11) (by go_grown) b11;replace hon:=hon.below b11;replace ho:=ho.below b11;replace Bz:=zAa Bz b11;clear b11;clear pa0 pa1 pa2 pa3 pb1 pb2 pb3 pb4;go_upto_region 6 with(fail)
    obtain⟨V12,hW,x2,hN⟩:=zAf w11 #[.bool s11,.slice A11 l11 c11,.bool s11r,.slice A11r l11r c11r] 50;rw[←hW];clear hW;obtain⟨v2,hb2⟩:∃b,b=w11.heap.size:=⟨_,rfl⟩;rw[←hb2] at x2 ⊢;have o0_2:w.heap.size<v2:=zia (zxb HX0 Bz).lt;have o1_2:v1<v2:=zia (zxb HX1 Bz).lt;have ow_2:w.heap.size≤v2:=zia (zw hB Bz);have nv2_own:=OwnR.off' (b:=v2) ho zo;replace h11:=h11.below hN;replace hon:=hon.below hN;replace ho:=ho.below hN;replace hB:=zAa (zAa hB Bz) hN;replace hBW:=zAa (zAa hBW Bz) hN;replace HX0:=zh ((zxb HX0 Bz).below hN);replace HX1:=zh ((zxb HX1 Bz).below hN);have HX2:=zh x2;clear x2 hN Bz hb2;have Bz:=Below.refl V12.heap.size V12;obtain⟨pc0,pc1,pc2,pc3,-⟩:=(zxb HX2 Bz).cz;go_wp2_with fail
    with_reducible refine(sign_q (R.below h11.r (by go_grown)) zo z HZ).mono ?_
    rintro e w12 ⟨rfl,b12⟩;replace b12:=zAa (a:=V12) (by go_grown) b12;replace h11:=h11.below b12;replace hon:=hon.below b12;replace ho:=ho.below b12;replace Bz:=zAa Bz b12;clear b12;clear pc0 pc1 pc2 pc3;have pb0:=(zxb HX1 Bz).cell 0 (.int .i64 x.at_) rfl;obtain⟨pc0,pc1,pc2,pc3,-⟩:=(zxb HX2 Bz).cz;go_wp2_with (at_builtin;refine And.left (b:=True) ?_)
    refine⟨?_,trivial⟩;obtain⟨V13,hW,x3,hN⟩:=zAf w12 #[.int .i64 x.at_,.bool s11,.slice A11 l11 c11,.bool s11r,.slice A11r l11r c11r] 114;rw[←hW];clear hW;obtain⟨v3,hb3⟩:∃b,b=w12.heap.size:=⟨_,rfl⟩;rw[←hb3] at x3 ⊢;have o0_3:w.heap.size<v3:=zia (zxb HX0 Bz).lt;have o1_3:v1<v3:=zia (zxb HX1 Bz).lt;have o2_3:v2<v3:=zia (zxb HX2 Bz).lt;have ow_3:w.heap.size≤v3:=zia (zw hB Bz);have nv3_own:=OwnR.off' (b:=v3) ho zo;replace h11:=h11.below hN;replace hon:=hon.below hN;replace ho:=ho.below hN;replace hB:=zAa (zAa hB Bz) hN;replace hBW:=zAa (zAa hBW Bz) hN;replace HX0:=zh ((zxb HX0 Bz).below hN);replace HX1:=zh ((zxb HX1 Bz).below hN);replace HX2:=zh ((zxb HX2 Bz).below hN);have HX3:=zh x3;clear x3 hN Bz hb3;have Bz:=Below.refl V13.heap.size V13;clear pb0 pc0 pc1 pc2 pc3;have hdr:V13.drew.heap.size=V13.heap.size:=rfl;have hdr2:V13.drew.drew.heap.size=V13.heap.size:=rfl;refine Elt.app elt_vec rfl _ _ rfl (w1.heap.size) (.slice H k hc) (k) (O) rfl ho (.slice (some ⟨v3,0,none⟩) 1 1) (1) ([⟨x.at_,⟨s11,A11,c11,l11,s11r,A11r,c11r,l11r,q*x.x.q,true⟩⟩]) rfl (From.one (HX3.out.below (zAa Bz (by go_grown))) (⟨x.at_,⟨s11,A11,c11,l11,s11r,A11r,c11r,l11r,q*x.x.q,true⟩⟩) rfl (elt_vec.len _)) zo (zj hBW.size Bz.size) ?_;intro H13 c13 w13 ho13 hg13;replace hB:=(zAa (zAa hB Bz) (by go_grown)).trans (hg13.below (zia (zw hB Bz)) (fun g hg=>by have:=ho.base g hg;omega));replace hBW:=(zAa (zAa hBW Bz) (by go_grown)).trans (hg13.below (zj hBW.size Bz.size) (fun g hg=>by have:=ho.base g hg;omega));replace HX0:=zh (hg13.bx (zxb HX0 Bz) (ho.off zo));clear HX1;clear HX2;clear HX3;clear hdr hdr2;replace h11:=h11.k hg13.k;replace hon:=hon.k hg13.k;clear hg13 Bz;have Bz:=Below.refl w13.heap.size w13;go_wp2_with fail
    have hs1:=HS1.out;go_roundg (n1-(i+1))
    case measure=>omega
    case rel=>exact⟨i+1,k+1,_,_,_,rfl,by go_num,zo,Nat.le_refl _,zo,OwnR.below ho13 (by go_grown),HP2.out _ rfl,(OnT.below hon (by go_grown)).snoc (RN.below h11 (by go_grown)) rfl hs1,HX0.out.below (zAa Bz (by go_grown)),zAa (zAa hB Bz) (by go_grown),zAa (zAa hBW Bz) (by go_grown)⟩
  ·obtain rfl:i=n1:=zo;have i1:¬(i:Int)<(i:Int):=zo;have HOS:=zh (ho.sl' elt_vec (ho.eltn elt_vec zo));have HCAP:=zh ho.slice;have HON:=zh hon;clear ho hon;go_wp2_with fail
   go_ret
   refine⟨_,_,_,rfl,⟨O,HOS.out.below (by go_grown),HON.out.below (by go_grown),?_,fun hn=>?_⟩,zAa hB (by go_grown)⟩
   ·have h9:=HP.out;rw[List.take_of_length_le (by rw[HLN.out];exact Nat.le_refl _),←rise_scale HRS.out] at h9;rw[h9];exact nrm_ext fun a=>by rw[pget_scale,pget_scale,HGT.out]
   ·obtain⟨_,_,e9,h9,_⟩:=HCAP.out;cases e9;exact(h9 hn).2
def GT1 (w:World) (L:List Tm) (at_:Int) (n gk:Nat) (s:Value) (wr:World):Prop :=
 ∃(i:Nat) (sS:Bool) (sA:Option Addr) (sc sl:Nat) (sS':Bool) (sA':Option Addr) (sc' sl':Nat),i≤n∧n-i=gk∧s=.int .i64 (i:Int)∧RN wr sS sA sc sl sS' sA' sc' sl' (pget (prs (L.take i)) at_)∧Bx wr w.heap.size #[.bool false,.slice none 0 0,.bool false,.slice none 0 0] 50∧Bx wr (w.heap.size+1) #[.bool sS,.slice sA sl sc,.bool sS',.slice sA' sl' sc'] 50∧Below w.heap.size w wr
theorem get_sz {L:List Tm} {w:World} (h:OkT w L) (a:Int):sz (pget (prs L) a)≤wsum L a+1:=by
 induction L with
 | nil=>exact Nat.le_trans sz_zero (by simp[wsum])
 | cons x L ih =>
  have h1:=ih fun t ht=>h t (List.mem_cons_of_mem _ ht);have h2:=(h x List.mem_cons_self).szd;show sz (pget ((x.at_,x.x.q) :: prs L) a)≤_
  rw[zAi];unfold wsum
  split
  ·have:=sz_add h2 h1;show sz (x.x.q+pget (prs L) a)≤_
   unfold dgT
   omega
  ·omega
theorem pget_take {L:List Tm} {i:Nat} {x:Tm} (h:L[i]?=some x) (a:Int):pget (prs (L.take (i+1))) a=pget (prs (L.take i)) a+if x.at_=a then x.x.q else 0:=by
 rw[zAk h,prs_append];exact pget_snoc _ (x.at_,x.x.q) a
def DT1 (w W:World) (vb:Nat) (P Q:List (Int×Rat)) (n m D gk:Nat) (s6 s7:Value) (wr:World):Prop :=
 ∃(i j:Nat) (q:Rat) (sS:Bool) (sA:Option Addr) (sc sl:Nat) (sS':Bool) (sA':Option Addr) (sc' sl':Nat),s6=.int .i64 (i:Int)∧s7=.int .i64 (j:Int)∧i≤n∧j≤m∧n-i+(m-j)≤gk∧RN wr sS sA sc sl sS' sA' sc' sl' q∧Dotted q P Q i j∧sz q≤1+i*D∧
  Bx wr w.heap.size #[.bool false,.slice none 0 0,.bool false,.slice none 0 0] 50∧Bx wr vb #[.bool sS,.slice sA sl sc,.bool sS',.slice sA' sl' sc'] 50∧Below w.heap.size w wr∧Below W.heap.size W wr
theorem dotV_q {w:World} {X Y:Option Addr} {n cx m cy M M':Nat} {P Q:List (Int×Rat)} (h:GV w X n cx P M) (h':GV w Y m cy Q M') (hM0:n*(M+M'+3)≤15000) (hM:M≤15000) (hM':M'≤15000) (hn:n≤1000000) (hm:m≤1000000) (hT:Hid (Tab w)) :
  Calls Tryz.prog 35 #[.slice X n cx,.slice Y m cy] w (TellsR w (pdot P Q)):=by
 have hx:=zh h;have hy:=zh h';have hM:M≤19000:=zo;have hM':M'≤19000:=zo;clear h h';obtain⟨W,hW,x0,hB⟩:=zAf w #[.bool false,.slice none 0 0,.bool false,.slice none 0 0] 50;have HX0:=zh x0;clear x0;have Bz:=Below.refl W.heap.size W;go_enter Tryz.func35,Tryz.ntmps35
 go_wp2_with fail
 rw[←hW];clear hW;go_wp2_with fail
 with_reducible refine(ordered_q (hx.out.below (zAa hB (zAa (b:=W) Bz (by go_grown)))) hM hn (zh (Tab.below hT.out (zAa hB (zAa (b:=W) Bz (by go_grown)))))).mono ?_
 rintro e w1 ⟨A1,n1,c1,P1,rfl,h1,r1,e1,l1,b1⟩;replace b1:=zAa (a:=W) (by go_grown) b1;replace Bz:=zAa Bz b1;clear b1;go_wp2_with fail
 with_reducible refine(ordered_q (hy.out.below (zAa hB (zAa (b:=w1) Bz (by go_grown)))) hM' hm (zh (Tab.below hT.out (zAa hB (zAa (b:=w1) Bz (by go_grown)))))).mono ?_
 rintro e w2 ⟨A2,n2,c2,P2,rfl,h2,r2,e2,l2,b2⟩;replace b2:=zAa (a:=w1) (by go_grown) b2;replace h1:=h1.below b2;replace Bz:=zAa Bz b2;clear b2;go_upto_region 3 with(fail)
 obtain⟨V1,hW,x1,hN⟩:=zAf w2 #[.bool false,.slice none 0 0,.bool false,.slice none 0 0] 50;rw[←hW];clear hW;obtain⟨v1,hb1⟩:∃b,b=w2.heap.size:=⟨_,rfl⟩;rw[←hb1] at x1 ⊢;have o0_1:w.heap.size<v1:=zia (zxb HX0 Bz).lt;have ow_1:w.heap.size≤v1:=zia (zw hB Bz);replace hB:=zAa (zAa hB Bz) hN;replace HX0:=zh ((zxb HX0 Bz).below hN);have HX1:=zh x1;have HN2:=zh hN;have how2:w2.heap.size≤v1:=zo;clear x1 hN Bz hb1;have Bz:=Below.refl V1.heap.size V1;go_wp2_with fail
 obtain⟨LX,x1,x2,rfl,x4,x5⟩:=h1;obtain⟨LY,y1,y2,rfl,y4,y5⟩:=h2;obtain⟨D,hD⟩:∃D,D=M+M'+3:=⟨_,rfl⟩;rw[←hD] at hM0;have HSX:=zh x1;have HSY:=zh y1;have HLX:=zh x1.1;have HLY:=zh y1.1;have HOX:=zh x2;have HOY:=zh y2;have HWX:=zh x4;have HWY:=zh y4;have HRX:=zh r1;have HRY:=zh r2;have HGX:=zh e1;have HGY:=zh e2;have HB1:=zh (zAa hB Bz);have XX0:=zh (zxb HX0 Bz);have XX1:=zh (zxb HX1 Bz);clear x1 x2 x4 x5 y1 y2 y4 y5 r1 r2 e1 e2 hB Bz HX0 HX1;go_loopg [6,7] (n1+n2) (fun gk s6 s7 wr=>DT1 w w2 v1 (prs LX) (prs LY) n1 n2 D gk s6 s7 wr)
 case atStart=>exact⟨0,0,0,_,_,_,_,_,_,_,_,rfl,rfl,Nat.zero_le _,Nat.zero_le _,Nat.le_refl _,RN.zero _,Dotted.start _ _,Nat.le_trans sz_zero zo,XX0.out,XX1.out,HB1.out,HN2.out⟩
 case round =>
  clear HB1 XX0 XX1 HN2;obtain⟨i,j,q,sS,sA,sc,sl,sS',sA',sc',sl',rfl,rfl,hi,hj,hgk,hs,hd,hsq,hx0,hx1,hB,hBW⟩:=hrel;have HDT:=zh hd;have HX0:=zh hx0;have HX1:=zh hx1;clear hd hx0 hx1;by_cases hin:i<n1
  ·have i1:(i:Int)<(n1:Int):=zo;by_cases hjm:j<n2
   ·obtain⟨bx,ox,rfl,hel⟩:=HSX.out.at Tm.cs_len zo zo;obtain⟨by_,oy,rfl,hel'⟩:=HSY.out.at Tm.cs_len zo zo;obtain⟨x,ex⟩:∃x,LX[i]?=some x:=⟨LX[i]'(by rw[HLX.out];exact hin),List.getElem?_eq_getElem _⟩;obtain⟨y,ey⟩:∃y,LY[j]?=some y:=⟨LY[j]'(by rw[HLY.out];exact hjm),List.getElem?_eq_getElem _⟩;have hnd:=hel i x ex;have hnd':=hel' j y ey;have hfx:=HOX.out x (List.mem_of_getElem? ex);have hfy:=HOY.out y (List.mem_of_getElem? ey);have hrx:R wr x.x.s x.x.A x.x.c x.x.l x.x.s' x.x.A' x.x.c' x.x.l' x.x.q (dgT x):=(hfx.below hBW).r;have hry:R wr y.x.s y.x.A y.x.c y.x.l y.x.s' y.x.A' y.x.c' y.x.l' y.x.q (dgT y):=(hfy.below hBW).r;have hdx:dgT x+2≤M+1:=Nat.le_trans (wsum_mem (List.mem_of_getElem? ex)) (HWX.out _);have hdy:dgT y+2≤M'+1:=Nat.le_trans (wsum_mem (List.mem_of_getElem? ey)) (HWY.out _);have hsx:=hfx.szd;have hsy:=hfy.szd;have hsm:sz (x.x.q*y.x.q)≤(dgT x+1)+(dgT y+1):=sz_mul hsx hsy;have hsa:=sz_add hsq hsm;have hiD:i*D≤n*D:=Nat.mul_le_mul_right _ zo;have hiS:(i+1)*D=i*D+D:=by rw[Nat.add_mul,Nat.one_mul]
    have hD1:D≤n*D:=Nat.le_mul_of_pos_left D zo;have hpx:=prs_get ex;have hpy:=prs_get ey;have j1:(j:Int)<(n2:Int):=zo;have i2:(0:Int)≤(i:Int):=zo;have j2:(0:Int)≤(j:Int):=zo;clear hel hel' ex ey hfx hfy;by_cases hxy:x.at_<y.at_
    ·have HD2:Hid (Dotted q (prs LX) (prs LY) (i+1) j):=zh (HDT.out.left HRX.out HRY.out hpx hpy hxy);have HS1:Hid (sz q≤1+(i+1)*D):=zh (by rw[hiS];omega);have g1:x.at_<y.at_:=hxy;clear hxy hpx hpy;have Bz:=Below.refl wr.heap.size wr;have pA0:=(hnd.below (zAa hBW Bz)).c0 (u:=.int .i64 x.at_) rfl;have pB0:=(hnd'.below (zAa hBW Bz)).c0 (u:=.int .i64 y.at_) rfl;go_wp2_with fail
     (try simp only[List.append_eq,List.cons_append,List.nil_append])
     refine zAb (.take 0 (.take 1 (.take 2 (.take 3 (.take 4 (.take 5 (.take 6 (.take 7 (.take 8 (.take 9 (.take 10 (.take 11 .done)))))))))))) [] (fun w'=>w'.cell? ⟨bx,ox+i*5,none⟩=some (.int .i64 x.at_)∧w'.cell? ⟨by_,oy+j*5,none⟩=some (.int .i64 y.at_)) (by kernel_rfl) (by kernel_rfl) ⟨pA0,pB0⟩ ?_;iterate 12 (refine zT rfl rfl (fun w' ⟨pA0,pB0⟩=>by go_simp<;>with_reducible rfl) ?_;try simp only[uW,uX,uY,uZ])
     refine zAc ?_;go_wp2_with fail
     have hs1:=HS1.out;go_roundg (n1-(i+1)+(n2-(j)))
     case measure=>omega
     case rel=>exact⟨i+1,j,_,_,_,_,_,_,_,_,_,by go_num,rfl,zo,zo,Nat.le_refl _,RN.below hs (by go_grown),HD2.out,hs1,HX0.out.below (zAa Bz (by go_grown)),HX1.out.below (zAa Bz (by go_grown)),zAa (zAa hB Bz) (by go_grown),zAa (zAa hBW Bz) (by go_grown)⟩
    ·have g1:¬x.at_<y.at_:=hxy;by_cases hyx:y.at_<x.at_
     ·have HD2:Hid (Dotted q (prs LX) (prs LY) i (j+1)):=zh (HDT.out.right HRX.out HRY.out hpx hpy hyx);have HS1:Hid (sz q≤1+i*D):=zh hsq;have g2:y.at_<x.at_:=hyx;clear hxy hyx hpx hpy;have Bz:=Below.refl wr.heap.size wr;have pA0:=(hnd.below (zAa hBW Bz)).c0 (u:=.int .i64 x.at_) rfl;have pB0:=(hnd'.below (zAa hBW Bz)).c0 (u:=.int .i64 y.at_) rfl;go_wp2_with fail
      (try simp only[List.append_eq,List.cons_append,List.nil_append])
      refine zAb (.take 0 (.take 1 (.take 2 (.take 3 (.take 4 (.take 5 (.take 6 (.take 7 (.take 8 (.take 9 (.take 10 (.take 11 .done)))))))))))) [] (fun w'=>w'.cell? ⟨bx,ox+i*5,none⟩=some (.int .i64 x.at_)∧w'.cell? ⟨by_,oy+j*5,none⟩=some (.int .i64 y.at_)) (by kernel_rfl) (by kernel_rfl) ⟨pA0,pB0⟩ ?_;iterate 12 (refine zT rfl rfl (fun w' ⟨pA0,pB0⟩=>by go_simp<;>with_reducible rfl) ?_;try simp only[uW,uX,uY,uZ])
      refine zAc ?_;go_wp2_with fail
      (try simp only[List.append_eq,List.cons_append,List.nil_append])
      refine zAb (.take 0 (.take 1 (.take 2 (.take 3 (.take 4 (.take 5 (.take 6 (.take 7 (.take 8 (.take 9 (.take 10 (.take 11 .done)))))))))))) [] (fun w'=>w'.cell? ⟨bx,ox+i*5,none⟩=some (.int .i64 x.at_)∧w'.cell? ⟨by_,oy+j*5,none⟩=some (.int .i64 y.at_)) (by kernel_rfl) (by kernel_rfl) ⟨pA0,pB0⟩ ?_;iterate 12 (refine zT rfl rfl (fun w' ⟨pA0,pB0⟩=>by go_simp<;>with_reducible rfl) ?_;try simp only[uW,uX,uY,uZ])
      refine zAc ?_;go_wp2_with fail
      have hs1:=HS1.out;go_roundg (n1-(i)+(n2-(j+1)))
      case measure=>omega
      case rel=>exact⟨i,j+1,_,_,_,_,_,_,_,_,_,rfl,by go_num,zo,zo,Nat.le_refl _,RN.below hs (by go_grown),HD2.out,hs1,HX0.out.below (zAa Bz (by go_grown)),HX1.out.below (zAa Bz (by go_grown)),zAa (zAa hB Bz) (by go_grown),zAa (zAa hBW Bz) (by go_grown)⟩
     ·have HD2:Hid (Dotted (q+x.x.q*y.x.q) (prs LX) (prs LY) (i+1) (j+1)):=zh (HDT.out.both HRX.out HRY.out hpx hpy (show x.at_=y.at_ by omega));have HS1:Hid (sz (q+x.x.q*y.x.q)≤1+(i+1)*D):=zh (by rw[hiS];omega);have g2:¬y.at_<x.at_:=hyx;clear hxy hyx hpx hpy;have Bz:=Below.refl wr.heap.size wr;obtain⟨pb0,pb1,pb2,pb3,-⟩:=(zxb HX1 Bz).cz;have fb0:=(zxb HX1 Bz).frozen 0;have fb1:=(zxb HX1 Bz).frozen 1;have fb2:=(zxb HX1 Bz).frozen 2;have fb3:=(zxb HX1 Bz).frozen 3;have y1:=(zxb HX1 Bz).lt;obtain⟨pA0,pA1,pA2,pA3,pA4,-⟩:=(hnd.below (zAa hBW Bz)).ez;obtain⟨pB0,pB1,pB2,pB3,pB4,-⟩:=(hnd'.below (zAa hBW Bz)).ez;go_wp2_with fail
      (try simp only[List.append_eq,List.cons_append,List.nil_append])
      refine zAb (.take 0 (.take 1 (.take 2 (.take 3 (.take 4 (.take 5 (.take 6 (.take 7 (.take 8 (.take 9 (.take 10 (.take 11 .done)))))))))))) [] (fun w'=>w'.cell? ⟨bx,ox+i*5,none⟩=some (.int .i64 x.at_)∧w'.cell? ⟨by_,oy+j*5,none⟩=some (.int .i64 y.at_)) (by kernel_rfl) (by kernel_rfl) ⟨pA0,pB0⟩ ?_;iterate 12 (refine zT rfl rfl (fun w' ⟨pA0,pB0⟩=>by go_simp<;>with_reducible rfl) ?_;try simp only[uW,uX,uY,uZ])
      refine zAc ?_;go_wp2_with fail
      (try simp only[List.append_eq,List.cons_append,List.nil_append])
      refine zAb (.take 0 (.take 1 (.take 2 (.take 3 (.take 4 (.take 5 (.take 6 (.take 7 (.take 8 (.take 9 (.take 10 (.take 11 .done)))))))))))) [] (fun w'=>w'.cell? ⟨bx,ox+i*5,none⟩=some (.int .i64 x.at_)∧w'.cell? ⟨by_,oy+j*5,none⟩=some (.int .i64 y.at_)) (by kernel_rfl) (by kernel_rfl) ⟨pA0,pB0⟩ ?_;iterate 12 (refine zT rfl rfl (fun w' ⟨pA0,pB0⟩=>by go_simp<;>with_reducible rfl) ?_;try simp only[uW,uX,uY,uZ])
      refine zAc ?_;go_wp2_with fail
      (try simp only[List.append_eq,List.cons_append,List.nil_append])
      refine zAb (.take 0 (.pure 1 (.pure 2 (.pure 3 (.pure 4 (.take 5 (.pure 6 (.pure 7 (.pure 8 (.pure 9 (.take 10 (.only 11 (.only 12 (.only 13 .done)))))))))))))) [13] (fun w'=>w'.cell? ⟨v1,0,none⟩=some (.bool sS)∧w'.cell? ⟨v1,1,none⟩=some (.slice sA sl sc)∧w'.cell? ⟨v1,2,none⟩=some (.bool sS')∧w'.cell? ⟨v1,3,none⟩=some (.slice sA' sl' sc')∧w'.cell? ⟨bx,ox+i*5+1,none⟩=some (.bool x.x.s)∧w'.cell? ⟨bx,ox+i*5+2,none⟩=some (.slice x.x.A x.x.l x.x.c)∧w'.cell? ⟨bx,ox+i*5+3,none⟩=some (.bool x.x.s')∧w'.cell? ⟨bx,ox+i*5+4,none⟩=some (.slice x.x.A' x.x.l' x.x.c')∧w'.cell? ⟨by_,oy+j*5+1,none⟩=some (.bool y.x.s)∧w'.cell? ⟨by_,oy+j*5+2,none⟩=some (.slice y.x.A y.x.l y.x.c)∧w'.cell? ⟨by_,oy+j*5+3,none⟩=some (.bool y.x.s')∧w'.cell? ⟨by_,oy+j*5+4,none⟩=some (.slice y.x.A' y.x.l' y.x.c')) (by kernel_rfl) (by kernel_rfl) ⟨pb0,pb1,pb2,pb3,pA1,pA2,pA3,pA4,pB1,pB2,pB3,pB4⟩ ?_;refine zT rfl rfl (fun w' ⟨pb0,pb1,pb2,pb3,pA1,pA2,pA3,pA4,pB1,pB2,pB3,pB4⟩=>by go_simp<;>with_reducible rfl) ?_;try simp only[uW,uX,uY,uZ]
      iterate 4 (refine zP rfl rfl (fun w'=>by go_simp<;>with_reducible rfl) ?_;try simp only[uW,uX,uY,uZ])
      refine zT rfl rfl (fun w' ⟨pb0,pb1,pb2,pb3,pA1,pA2,pA3,pA4,pB1,pB2,pB3,pB4⟩=>by go_simp<;>with_reducible rfl) ?_;try simp only[uW,uX,uY,uZ]
      iterate 4 (refine zP rfl rfl (fun w'=>by go_simp<;>with_reducible rfl) ?_;try simp only[uW,uX,uY,uZ])
      refine zT rfl rfl (fun w' ⟨pb0,pb1,pb2,pb3,pA1,pA2,pA3,pA4,pB1,pB2,pB3,pB4⟩=>by go_simp<;>with_reducible rfl) ?_;try simp only[uW,uX,uY,uZ]
      refine zC 33 rfl rfl (fun K hK=>?_);go_simp
      with_reducible refine(mul_q (R.below hrx (by go_grown)) (R.below hry (by go_grown)) zo (zh (Tab.below hT.out (zAa hB (zAa (b:=wr) Bz (by go_grown)))))).mono ?_
      rintro e w11 ⟨s11,A11,c11,l11,s11r,A11r,c11r,l11r,rfl,h11,b11⟩;replace b11:=zAa (a:=wr) (by go_grown) b11;replace hs:=hs.below b11;replace Bz:=zAa Bz b11;clear b11;clear pb0 pb1 pb2 pb3 fb0 fb1 fb2 fb3 y1 pA0 pA1 pA2 pA3 pA4 pB0 pB1 pB2 pB3 pB4;obtain⟨pb0,pb1,pb2,pb3,-⟩:=(zxb HX1 Bz).cz;have fb0:=(zxb HX1 Bz).frozen 0;have fb1:=(zxb HX1 Bz).frozen 1;have fb2:=(zxb HX1 Bz).frozen 2;have fb3:=(zxb HX1 Bz).frozen 3;have y1:=(zxb HX1 Bz).lt;obtain⟨-,pA1,pA2,pA3,pA4,-⟩:=(hnd.below (zAa hBW Bz)).ez;obtain⟨-,pB1,pB2,pB3,pB4,-⟩:=(hnd'.below (zAa hBW Bz)).ez;refine hK.out _ _ ⟨pb0,pb1,pb2,pb3,pA1,pA2,pA3,pA4,pB1,pB2,pB3,pB4⟩ (fun _=>?_);try simp only[uW,uX,uY,uZ]
      clear hK K;refine zC 34 rfl rfl (fun K hK=>?_);go_simp
      with_reducible refine(add_q (R.below hs.r (by go_grown)) (R.below h11.r (by go_grown)) zo (zh (Tab.below hT.out (zAa hB (zAa (b:=w11) Bz (by go_grown)))))).mono ?_
      rintro e w12 ⟨s12,A12,c12,l12,s12r,A12r,c12r,l12r,rfl,h12,b12⟩;replace b12:=zAa (a:=w11) (by go_grown) b12;replace Bz:=zAa Bz b12;clear b12;clear pb0 pb1 pb2 pb3 fb0 fb1 fb2 fb3 y1 pA1 pA2 pA3 pA4 pB1 pB2 pB3 pB4;obtain⟨pb0,pb1,pb2,pb3,-⟩:=(zxb HX1 Bz).cz;have fb0:=(zxb HX1 Bz).frozen 0;have fb1:=(zxb HX1 Bz).frozen 1;have fb2:=(zxb HX1 Bz).frozen 2;have fb3:=(zxb HX1 Bz).frozen 3;have y1:=(zxb HX1 Bz).lt;obtain⟨-,pA1,pA2,pA3,pA4,-⟩:=(hnd.below (zAa hBW Bz)).ez;obtain⟨-,pB1,pB2,pB3,pB4,-⟩:=(hnd'.below (zAa hBW Bz)).ez;refine hK.out _ _ ⟨pb0,pb1,pb2,pb3,pA1,pA2,pA3,pA4,pB1,pB2,pB3,pB4⟩ (fun _=>?_);try simp only[uW,uX,uY,uZ]
      clear hK K;refine zAe (o:=⟨none,_,_,_,_,_⟩) rfl rfl zd (fun K hK=>?_);go_simp
      refine hK.out _ _ ?_;try simp only[Act.put,uX,uY,uZ]
      clear hK K;refine zAc ?_;obtain⟨V11,hW,x,kk,far,bel⟩:=store4 (.bool s12) (.slice A12 l12 c12) (.bool s12r) (.slice A12r l12r c12r) (zxb HX1 Bz) nofun nofun nofun nofun;rw[←hW];clear hW;replace h12:=h12.k kk;replace hB:=bel w.heap.size w zo (zAa hB Bz);replace hBW:=bel w2.heap.size w2 zo (zAa hBW Bz);replace HX0:=zh (far _ _ _ zo (zxb HX0 Bz));replace HX1:=zh x;clear x kk far bel Bz;have Bz:=Below.refl V11.heap.size V11;clear pb0 pb1 pb2 pb3 fb0 fb1 fb2 fb3 y1 pA1 pA2 pA3 pA4 pB1 pB2 pB3 pB4;go_wp2_with fail
      have hs1:=HS1.out;go_roundg (n1-(i+1)+(n2-(j+1)))
      case measure=>omega
      case rel=>exact⟨i+1,j+1,_,_,_,_,_,_,_,_,_,by go_num,by go_num,zo,zo,Nat.le_refl _,RN.below h12 (by go_grown),HD2.out,hs1,HX0.out.below (zAa Bz (by go_grown)),HX1.out.below (zAa Bz (by go_grown)),zAa (zAa hB Bz) (by go_grown),zAa (zAa hBW Bz) (by go_grown)⟩
   ·obtain rfl:j=n2:=zo;have j1:¬(j:Int)<(j:Int):=zo;have HEND:Hid (q=pdot P Q):=zh (by rw[HDT.out.done (.inr (by rw[prs_len,HLY.out];exact Nat.le_refl _)),pdot_congr HGY.out,pdot_congr_left HGX.out]);have Bz:=Below.refl wr.heap.size wr;obtain⟨pa0,pa1,pa2,pa3,-⟩:=(zxb HX0 Bz).cz;have fa0:=(zxb HX0 Bz).frozen 0;have fa1:=(zxb HX0 Bz).frozen 1;have fa2:=(zxb HX0 Bz).frozen 2;have fa3:=(zxb HX0 Bz).frozen 3;have y0:=(zxb HX0 Bz).lt;obtain⟨pb0,pb1,pb2,pb3,-⟩:=(zxb HX1 Bz).cz;go_wp2_with fail
    (try simp only[Exit.inBlock,Exit.then])
    refine bodyPost_ret (by simp[results,Tryz.results35,go_sem,pa0,pa1,pa2,pa3];try rfl) rfl ?_;obtain⟨V1,hW,x,kk,far,bel⟩:=store4 (.bool sS) (.slice sA sl sc) (.bool sS') (.slice sA' sl' sc') (zxb HX0 Bz) nofun nofun nofun nofun;rw[←hW];clear hW;replace hs:=hs.k kk;replace hB:=bel w.heap.size w zo (zAa hB Bz);replace HX1:=zh (far _ _ _ zo (zxb HX1 Bz));replace HX0:=zh x;clear x kk far bel Bz;have Bz:=Below.refl V1.heap.size V1;have hF:=zAa (c:=V1) hB Bz;exact⟨_,_,_,_,_,_,_,_,rfl,by rw[←HEND.out];exact RN.below hs (by go_grown),zAa hF (by go_grown)⟩
  ·obtain rfl:i=n1:=zo;have i1:¬(i:Int)<(i:Int):=zo;have HEND:Hid (q=pdot P Q):=zh (by rw[HDT.out.done (.inl (by rw[prs_len,HLX.out];exact Nat.le_refl _)),pdot_congr HGY.out,pdot_congr_left HGX.out]);have Bz:=Below.refl wr.heap.size wr;obtain⟨pa0,pa1,pa2,pa3,-⟩:=(zxb HX0 Bz).cz;have fa0:=(zxb HX0 Bz).frozen 0;have fa1:=(zxb HX0 Bz).frozen 1;have fa2:=(zxb HX0 Bz).frozen 2;have fa3:=(zxb HX0 Bz).frozen 3;have y0:=(zxb HX0 Bz).lt;obtain⟨pb0,pb1,pb2,pb3,-⟩:=(zxb HX1 Bz).cz;go_wp2_with fail
   (try simp only[Exit.inBlock,Exit.then])
   refine bodyPost_ret (by simp[results,Tryz.results35,go_sem,pa0,pa1,pa2,pa3];try rfl) rfl ?_;obtain⟨V1,hW,x,kk,far,bel⟩:=store4 (.bool sS) (.slice sA sl sc) (.bool sS') (.slice sA' sl' sc') (zxb HX0 Bz) nofun nofun nofun nofun;rw[←hW];clear hW;replace hs:=hs.k kk;replace hB:=bel w.heap.size w zo (zAa hB Bz);replace HX1:=zh (far _ _ _ zo (zxb HX1 Bz));replace HX0:=zh x;clear x kk far bel Bz;have Bz:=Below.refl V1.heap.size V1;have hF:=zAa (c:=V1) hB Bz;exact⟨_,_,_,_,_,_,_,_,rfl,by rw[←HEND.out];exact RN.below hs (by go_grown),zAa hF (by go_grown)⟩
open Go.RowKit Tw
def sameT (p:Tm×Tm):Bool:=decide (p.1.at_=p.2.at_)&&decide (p.1.x.q=p.2.x.q)
theorem prs_zip:∀{L M:List Tm},L.length=M.length→((L.zip M).all sameT=true↔prs L=prs M):=by
 intro L;induction L with
 | nil=>intro M h;cases M with
  | nil=>simp[prs]
  | cons y M=>simp at h
 | cons x L ih =>
  intro M h;cases M with
  | nil=>simp at h
  | cons y M =>
   have h2:=ih (M:=M) (by simpa using h);rw[List.zip_cons_cons,List.all_cons,Bool.and_eq_true,h2];show _↔(x.at_,x.x.q) :: prs L=(y.at_,y.x.q) :: prs M
   unfold sameT
   simp only[Bool.and_eq_true,decide_eq_true_eq,List.cons.injEq,Prod.mk.injEq]
theorem prs_zip_all {L M:List Tm} (h:L.length=M.length):decide (prs L=prs M)=(L.zip M).all sameT:=by
 have:=prs_zip h;cases e:(L.zip M).all sameT
 ·rw[e] at this;exact decide_eq_false (fun h2=>by have:=this.2 h2;cases this)
 ·rw[e] at this;exact decide_eq_true (this.1 rfl)
def SV1 (w:World) (Z:List (Tm×Tm)) (n gk:Nat) (s:Value) (wr:World):Prop:=∃i:Nat,i≤n∧n-i=gk∧s=.int .i64 (i:Int)∧Below w.heap.size w wr∧(Z.take i).all sameT=true
theorem OnT.len {w:World} {L:List Tm} {M:Nat} (h:OnT w L (fun _=>M)):∀t∈L,t.x.l≤M∧t.x.l'≤M:=fun t ht=>by have h1:=h.dg t ht;have h2:=(h t ht).2.2;unfold dgT at h1;simp only at h2;omega
theorem sameVec_q {w:World} {A A':Option Addr} {n n' c c' M M':Nat} {P Q:List (Int×Rat)} (h:NV w A n c P M) (h':NV w A' n' c' Q M') (hM:M≤40000) (hM':M'≤40000) (hn:n≤1000000) (hn':n'≤1000000) (r:Bool) (hr:Hid (decide (P=Q)=r)) :
  Calls Tryz.prog 23 #[.slice A n c,.slice A' n' c'] w fun e w'=>e=.returned (.bool r)∧Below w.heap.size w w':=by
 obtain⟨L,x1,x2,rfl,x4⟩:=h;obtain⟨K,y1,y2,rfl,y4⟩:=h';have H:=zh x1;have H':=zh y1;have HLN:=zh x1.1;have HMN:=zh y1.1;have HOX:=zh x2;have HOY:=zh y2;clear x1 x2 x4 y1 y2 y4;by_cases hnn:n=n'
 ·subst hnn;have g0:((n:Int) !=(n:Int))=false:=by simp
  have hra:Hid ((L.zip K).all sameT=r):=zh (by rw[←hr.out,prs_zip_all (HLN.out.trans HMN.out.symm)]);have HZL:Hid ((L.zip K).length=n):=zh (by rw[List.length_zip,HLN.out,HMN.out];exact Nat.min_self _);have hst:SV1 w (L.zip K) n n (.int .i64 ((0:Nat):Int)) w:=⟨0,Nat.zero_le _,rfl,rfl,Below.refl _ _,by simp⟩;have HST:=zh hst;clear hst hr;go_enter Tryz.func23,Tryz.ntmps23
  go_wp2_with fail
  go_loopg [5] n (fun gk s wr=>SV1 w (L.zip K) n gk s wr)
  case atStart=>exact HST.out
  case round =>
   clear HST;obtain⟨i,hi,hgk,rfl,hB,hd⟩:=hrel;have HGK:=zh hgk;have HD:=zh hd;clear hgk hd;by_cases hlt:i<n
   ·obtain⟨b,off,rfl,hel⟩:=H.out.at Tm.cs_len zo zo;obtain⟨b',off',rfl,hel'⟩:=H'.out.at Tm.cs_len zo zo;obtain⟨x,ex⟩:∃x,L[i]?=some x:=⟨L[i]'(by rw[HLN.out];exact hlt),List.getElem?_eq_getElem _⟩;obtain⟨y,ey⟩:∃y,K[i]?=some y:=⟨K[i]'(by rw[HMN.out];exact hlt),List.getElem?_eq_getElem _⟩;have hnd:=hel i x ex;have hnd':=hel' i y ey;have HZI:Hid ((L.zip K)[i]?=some (x,y)):=zh (by rw[List.getElem?_zip_eq_some];exact⟨ex,ey⟩);have HRX:=zh (HOX.out x (List.mem_of_getElem? ex)).1;have HRY:=zh (HOY.out y (List.mem_of_getElem? ey)).1;have hlx0:=HOX.out.len x (List.mem_of_getElem? ex);have hly0:=HOY.out.len y (List.mem_of_getElem? ey);have hlx:x.x.l≤800000∧x.x.l'≤800000:=zo;have hly:y.x.l≤800000∧y.x.l'≤800000:=zo;have hsx:sz x.x.q+1≤M:=(HOX.out x (List.mem_of_getElem? ex)).2.2;have hsy:sz y.x.q+1≤M':=(HOY.out y (List.mem_of_getElem? ey)).2.2;have i1:(i:Int)<(n:Int):=zo;have i2:(0:Int)≤(i:Int):=zo;clear ex hel ey hel' hlx0 hly0;by_cases hat:x.at_=y.at_
    ·have g1:(x.at_ != y.at_)=false:=by simpa using hat
     by_cases hq:x.x.q=y.x.q
     ·have HQ:Hid (decide (x.x.q=y.x.q)=true):=zh (decide_eq_true hq);have HP:Hid (sameT (x,y)=true):=zh (by unfold sameT;rw[decide_eq_true hat,decide_eq_true hq];rfl);clear hat hq;have Bz:=Below.refl wr.heap.size wr;obtain⟨pA0,pA1,pA2,pA3,pA4,-⟩:=(hnd.below (zAa hB Bz)).ez;obtain⟨pB0,pB1,pB2,pB3,pB4,-⟩:=(hnd'.below (zAa hB Bz)).ez;go_wp2_with fail
      (try simp only[List.append_eq,List.cons_append,List.nil_append])
      refine zAb (.take 0 (.take 1 (.take 2 (.take 3 (.take 4 (.take 5 (.take 6 (.take 7 (.take 8 (.take 9 (.take 10 (.take 11 (.take 12 (.take 13 (.take 14 (.take 15 (.take 16 (.take 17 (.take 18 (.take 19 (.take 20 (.take 21 (.only 22 (.take 23 (.take 24 .done))))))))))))))))))))))))) [] (fun w'=>w'.cell? ⟨b,off+i*5,none⟩=some (.int .i64 x.at_)∧w'.cell? ⟨b,off+i*5+1,none⟩=some (.bool x.x.s)∧w'.cell? ⟨b,off+i*5+2,none⟩=some (.slice x.x.A x.x.l x.x.c)∧w'.cell? ⟨b,off+i*5+3,none⟩=some (.bool x.x.s')∧w'.cell? ⟨b,off+i*5+4,none⟩=some (.slice x.x.A' x.x.l' x.x.c')∧w'.cell? ⟨b',off'+i*5,none⟩=some (.int .i64 y.at_)∧w'.cell? ⟨b',off'+i*5+1,none⟩=some (.bool y.x.s)∧w'.cell? ⟨b',off'+i*5+2,none⟩=some (.slice y.x.A y.x.l y.x.c)∧w'.cell? ⟨b',off'+i*5+3,none⟩=some (.bool y.x.s')∧w'.cell? ⟨b',off'+i*5+4,none⟩=some (.slice y.x.A' y.x.l' y.x.c')) (by kernel_rfl) (by kernel_rfl) ⟨pA0,pA1,pA2,pA3,pA4,pB0,pB1,pB2,pB3,pB4⟩ ?_;iterate 22 (refine zT rfl rfl (fun w' ⟨pA0,pA1,pA2,pA3,pA4,pB0,pB1,pB2,pB3,pB4⟩=>by go_simp<;>with_reducible rfl) ?_;try simp only[uW,uX,uY,uZ])
      refine zC 39 rfl rfl (fun K hK=>?_);go_simp
      with_reducible refine(sameRat_rn (HRX.out.below (zAa hB (zAa (b:=wr) Bz (by go_grown)))) (HRY.out.below (zAa hB (zAa (b:=wr) Bz (by go_grown)))) hlx hly true HQ).mono ?_
      rintro e w1 ⟨rfl,b1⟩;replace b1:=zAa (a:=wr) (by go_grown) b1;replace Bz:=zAa Bz b1;clear b1;clear pA0 pA1 pA2 pA3 pA4 pB0 pB1 pB2 pB3 pB4;obtain⟨pA0,pA1,pA2,pA3,pA4,-⟩:=(hnd.below (zAa hB Bz)).ez;obtain⟨pB0,pB1,pB2,pB3,pB4,-⟩:=(hnd'.below (zAa hB Bz)).ez;refine hK.out _ _ ⟨pA0,pA1,pA2,pA3,pA4,pB0,pB1,pB2,pB3,pB4⟩ (fun _=>?_);try simp only[uW,uX,uY,uZ]
      clear hK K;iterate 2 (refine zT rfl rfl (fun w' ⟨pA0,pA1,pA2,pA3,pA4,pB0,pB1,pB2,pB3,pB4⟩=>by go_simp<;>with_reducible rfl) ?_;try simp only[uW,uX,uY,uZ])
      refine zAc ?_;go_wp2_with fail
      go_roundg (n-(i+1))
      case measure=>have:=HGK.out;omega
      case rel=>exact⟨i+1,zo,rfl,by go_num,zAa (zAa hB Bz) (by go_grown),take_all HD.out HZI.out HP.out⟩
     ·have HQ:Hid (decide (x.x.q=y.x.q)=false):=zh (decide_eq_false hq);have HP:Hid (sameT (x,y)=false):=zh (by unfold sameT;rw[decide_eq_false hq,Bool.and_false]);clear hat hq;have Bz:=Below.refl wr.heap.size wr;obtain⟨pA0,pA1,pA2,pA3,pA4,-⟩:=(hnd.below (zAa hB Bz)).ez;obtain⟨pB0,pB1,pB2,pB3,pB4,-⟩:=(hnd'.below (zAa hB Bz)).ez;go_wp2_with fail
      (try simp only[List.append_eq,List.cons_append,List.nil_append])
      refine zAb (.take 0 (.take 1 (.take 2 (.take 3 (.take 4 (.take 5 (.take 6 (.take 7 (.take 8 (.take 9 (.take 10 (.take 11 (.take 12 (.take 13 (.take 14 (.take 15 (.take 16 (.take 17 (.take 18 (.take 19 (.take 20 (.take 21 (.only 22 (.take 23 (.take 24 .done))))))))))))))))))))))))) [] (fun w'=>w'.cell? ⟨b,off+i*5,none⟩=some (.int .i64 x.at_)∧w'.cell? ⟨b,off+i*5+1,none⟩=some (.bool x.x.s)∧w'.cell? ⟨b,off+i*5+2,none⟩=some (.slice x.x.A x.x.l x.x.c)∧w'.cell? ⟨b,off+i*5+3,none⟩=some (.bool x.x.s')∧w'.cell? ⟨b,off+i*5+4,none⟩=some (.slice x.x.A' x.x.l' x.x.c')∧w'.cell? ⟨b',off'+i*5,none⟩=some (.int .i64 y.at_)∧w'.cell? ⟨b',off'+i*5+1,none⟩=some (.bool y.x.s)∧w'.cell? ⟨b',off'+i*5+2,none⟩=some (.slice y.x.A y.x.l y.x.c)∧w'.cell? ⟨b',off'+i*5+3,none⟩=some (.bool y.x.s')∧w'.cell? ⟨b',off'+i*5+4,none⟩=some (.slice y.x.A' y.x.l' y.x.c')) (by kernel_rfl) (by kernel_rfl) ⟨pA0,pA1,pA2,pA3,pA4,pB0,pB1,pB2,pB3,pB4⟩ ?_;iterate 22 (refine zT rfl rfl (fun w' ⟨pA0,pA1,pA2,pA3,pA4,pB0,pB1,pB2,pB3,pB4⟩=>by go_simp<;>with_reducible rfl) ?_;try simp only[uW,uX,uY,uZ])
      refine zC 39 rfl rfl (fun K hK=>?_);go_simp
      with_reducible refine(sameRat_rn (HRX.out.below (zAa hB (zAa (b:=wr) Bz (by go_grown)))) (HRY.out.below (zAa hB (zAa (b:=wr) Bz (by go_grown)))) hlx hly false HQ).mono ?_
      rintro e w1 ⟨rfl,b1⟩;replace b1:=zAa (a:=wr) (by go_grown) b1;replace Bz:=zAa Bz b1;clear b1;clear pA0 pA1 pA2 pA3 pA4 pB0 pB1 pB2 pB3 pB4;obtain⟨pA0,pA1,pA2,pA3,pA4,-⟩:=(hnd.below (zAa hB Bz)).ez;obtain⟨pB0,pB1,pB2,pB3,pB4,-⟩:=(hnd'.below (zAa hB Bz)).ez;refine hK.out _ _ ⟨pA0,pA1,pA2,pA3,pA4,pB0,pB1,pB2,pB3,pB4⟩ (fun _=>?_);try simp only[uW,uX,uY,uZ]
      clear hK K;iterate 2 (refine zT rfl rfl (fun w' ⟨pA0,pA1,pA2,pA3,pA4,pB0,pB1,pB2,pB3,pB4⟩=>by go_simp<;>with_reducible rfl) ?_;try simp only[uW,uX,uY,uZ])
      refine zAc ?_;go_wp2_with fail
      go_ret
      have hF:=zAa (c:=w1) hB Bz;obtain rfl:r=false:=by rw[←hra.out];exact all_no HZI.out HP.out
      exact⟨rfl,zAa (zAa hB Bz) (by go_grown)⟩
    ·have g1:(x.at_ != y.at_)=true:=by simpa using hat
     have HP:Hid (sameT (x,y)=false):=zh (by unfold sameT;rw[decide_eq_false hat,Bool.false_and]);clear hat;have Bz:=Below.refl wr.heap.size wr;have pA0:=(hnd.below (zAa hB Bz)).c0 (u:=.int .i64 x.at_) rfl;have pB0:=(hnd'.below (zAa hB Bz)).c0 (u:=.int .i64 y.at_) rfl;go_wp2_with fail
     (try simp only[List.append_eq,List.cons_append,List.nil_append])
     refine zAb (.take 0 (.take 1 (.take 2 (.take 3 (.take 4 (.take 5 (.take 6 (.take 7 (.take 8 (.take 9 (.take 10 (.take 11 (.take 12 (.take 13 (.take 14 (.take 15 (.take 16 (.take 17 (.take 18 (.take 19 (.take 20 (.take 21 (.only 22 (.take 23 (.take 24 .done))))))))))))))))))))))))) [] (fun w'=>w'.cell? ⟨b,off+i*5,none⟩=some (.int .i64 x.at_)∧w'.cell? ⟨b',off'+i*5,none⟩=some (.int .i64 y.at_)) (by kernel_rfl) (by kernel_rfl) ⟨pA0,pB0⟩ ?_;iterate 12 (refine zT rfl rfl (fun w' ⟨pA0,pB0⟩=>by go_simp<;>with_reducible rfl) ?_;try simp only[uW,uX,uY,uZ])
     iterate 10 (refine zN rfl rfl ?_;try simp only[uW,uX,uY,uZ])
     refine wpPlan_pass (o:=⟨some 39,_,_,_,_,_⟩) rfl rfl ⟨pA0,pB0⟩ ?_;try simp only[uW,uX,uY,uZ]
     refine zN rfl rfl ?_;try simp only[uW,uX,uY,uZ]
     refine zT rfl rfl (fun w' ⟨pA0,pB0⟩=>by go_simp<;>with_reducible rfl) ?_;try simp only[uW,uX,uY,uZ]
     refine zAc ?_;go_wp2_with fail
     go_ret
     have hF:=zAa (c:=wr) hB Bz;obtain rfl:r=false:=by rw[←hra.out];exact all_no HZI.out HP.out
     exact⟨rfl,zAa (zAa hB Bz) (by go_grown)⟩
   ·obtain rfl:i=n:=zo;have i1:¬(i:Int)<(i:Int):=zo;obtain rfl:r=true:=by rw[←hra.out];exact all_yes HZL.out HD.out
    go_wp2_with fail
    go_ret
    exact⟨rfl,hB⟩
 ·have g0:((n:Int) !=(n':Int))=true:=by simp;omega
  obtain rfl:r=false:=by rw[←hr.out];exact decide_eq_false (fun e=>hnn (by have e2:=congrArg List.length e;rw[prs_len,prs_len,HLN.out,HMN.out] at e2;exact e2))
  clear hr;go_enter Tryz.func23,Tryz.ntmps23
  go_wp2_with fail
  go_ret
  exact⟨rfl,Below.refl _ _⟩
def putF (P:List (Int×Rat)) (at_:Int) (q:Rat):List (Int×Rat):=(P.filter fun x=>decide (x.1≠at_))++[(at_,q)]
def offT (at_:Int) (t:Tm):Bool:=decide (t.at_≠at_)
theorem off_snoc {L:List Tm} {i:Nat} {x:Tm} {at_:Int} (h:L[i]?=some x):(L.take (i+1)).filter (offT at_)=(L.take i).filter (offT at_)++if x.at_=at_ then [] else [x]:=by
 rw[zAk h,List.filter_append];congr 1
 by_cases e:x.at_=at_
 ·rw[if_pos e,List.filter_cons_of_neg (by simp[offT,e])];rfl
 ·rw[if_neg e,List.filter_cons_of_pos (by simp[offT,e])];rfl
theorem wsum_filter (L:List Tm) (p:Tm→Bool) (a:Int):wsum (L.filter p) a≤wsum L a:=by
 induction L with
 | nil=>exact Nat.le_refl _
 | cons x L ih =>
  rw[List.filter_cons];split
  ·simp only[wsum];omega
  ·simp only[wsum];omega
open Go.RowKit Tw
def TellsW (w:World) (P:List (Int×Rat)) (K N:Nat) (e:Ending) (w':World):Prop:=∃A n c,e=.returned (.slice A n c)∧NV w' A n c P K∧n≤N∧Below w.heap.size w w'
def TellsNum (w:World) (q:Rat) (K:Nat) (e:Ending) (w':World):Prop:=∃s A c l s' A' c' l',e=.returned (.agg #[.bool s,.slice A l c,.bool s',.slice A' l' c'])∧RN w' s A c l s' A' c' l' q∧sz q≤K∧Below w.heap.size w w'
theorem TellsV.w {w w':World} {P:List (Int×Rat)} {M K N:Nat} {e:Ending} (h:TellsV w P M e w') (hK:M≤K) (hN:P.length≤N):TellsW w P K N e w':=by
 obtain⟨A,n,c,rfl,h1,h2⟩:=h;exact⟨A,n,c,rfl,h1.mono hK,by have:=h1.len;omega,h2⟩
theorem TellsR.num {w w':World} {q:Rat} {K:Nat} {e:Ending} (h:TellsR w q e w') (hK:sz q≤K):TellsNum w q K e w':=by
 obtain⟨s,A,c,l,s',A',c',l',rfl,h1,h2⟩:=h;exact⟨s,A,c,l,s',A',c',l',rfl,h1,hK,h2⟩
theorem GV.size {w:World} {A:Option Addr} {n c M N:Nat} {P:List (Int×Rat)} (h:GV w A n c P M) (hn:n≤N):P.length≤N:=by rw[h.len];exact hn
theorem GV.getsz {w:World} {A:Option Addr} {n c M:Nat} {P:List (Int×Rat)} (h:GV w A n c P M) (a:Int):sz (pget P a)≤M+1:=by
 obtain⟨L,_,h2,rfl,h4,_⟩:=h;have:=get_sz h2 a;have:=h4 a;omega
theorem dot_sz {Q:List (Int×Rat)} {M K:Nat} (hQ:∀a,sz (pget Q a)≤K):∀{P:List (Int×Rat)},(∀x∈P,sz x.2≤M)→sz (pdot P Q)≤1+P.length*(M+K+1):=by
 intro P;induction P with
 | nil=>intro _;exact Nat.le_trans sz_zero zo
 | cons x P ih =>
  intro h;have h1:=ih fun y hy=>h y (List.mem_cons_of_mem _ hy);have h2:=sz_add (sz_mul (h x List.mem_cons_self) (hQ x.1)) h1;rw[pdot_cons,List.length_cons,Nat.add_mul,Nat.one_mul];omega
theorem GV.szs {w:World} {A:Option Addr} {n c M:Nat} {P:List (Int×Rat)} (h:GV w A n c P M):∀x∈P,sz x.2≤M:=fun x hx=>by
 obtain⟨L,_,h2,rfl,h4,_⟩:=h;obtain⟨t,ht,rfl⟩:=prs_mem hx;have h5:=(h2 t ht).szd;have h6:=wsum_mem ht;have h7:=h4 t.at_;show sz t.x.q≤M
 unfold dgT at h6
 omega
theorem normW {w:World} {X:Option Addr} {n cx:Nat} {P:List (Int×Rat)} (M N:Nat) (h:GV w X n cx P M) (hn:n≤N) (hM:M≤19000) (hN:N≤1000) (hT:Hid (Tab w)):Calls Tryz.prog 24 #[.slice X n cx] w (TellsW w (nrm P) M N) :=
 (normV_q h hM zo hT).mono fun _ _ k=>k.w (Nat.le_refl _) (Nat.le_trans (nrm_len _) (h.size hn))
theorem OnT.c {w:World} {L:List Tm} {s s':Bool} {A A':Option Addr} {c l c' l':Nat} {q:Rat} (at_:Int) (h:RN w s A c l s' A' c' l' q) (hs:sz q≤1) (hL:OnT w L (fun _=>2)):OnT w (⟨at_,⟨s,A,c,l,s',A',c',l',q,true⟩⟩ :: L) (fun _=>2):=fun t ht=>by
 rcases List.mem_cons.1 ht with rfl | ht
 ·exact⟨h,rfl,by simp only;omega⟩
 ·exact hL t ht
theorem wsum_small {w:World} {L:List Tm} (h:OnT w L (fun _=>2)) (a:Int):wsum L a≤3*L.length:=by
 induction L with
 | nil=>exact Nat.le_refl _
 | cons x L ih =>
  have h1:=ih fun t ht=>h t (List.mem_cons_of_mem _ ht);have h2:=h.dg x List.mem_cons_self;have h3:=(h x List.mem_cons_self).2.2;simp only[wsum,List.length_cons] at h3 ⊢
  split<;>omega
theorem sl_lit {w:World} {b n:Nat} {cs:Array Value} {te:TypeId} {L:List Tm} (h:Bx w b cs te) (hcs:cs.toList=flat Tm.cs L) (hl:L.length=n):Sl Tm.cs 5 w (some ⟨b,0,none⟩) n n L:=by
 subst hl;refine⟨rfl,by rw[flat_len Tm.cs_len],_,_,rfl,(fun h=>(by cases h)),fun a ha j u hu=>?_⟩;cases ha;rw[add_off,Nat.zero_add];refine h.cell j u ?_;rw[←hcs] at hu;simpa using hu
theorem nv_lit {w:World} {b n:Nat} {cs:Array Value} {te:TypeId} (L:List Tm) (P:List (Int×Rat)) (hp:prs L=P) (h:Bx w b cs te) (hcs:cs.toList=flat Tm.cs L) (hl:L.length=n) (hon:OnT w L (fun _=>2)):NV w (some ⟨b,0,none⟩) n n P 2:=⟨L,sl_lit h hcs hl,hon,hp,(fun h=>(by cases h))⟩
theorem gv_lit {w:World} {b n:Nat} {cs:Array Value} {te:TypeId} (L:List Tm) (P:List (Int×Rat)) (hp:prs L=P) (h:Bx w b cs te) (hcs:cs.toList=flat Tm.cs L) (hl:L.length=n) (hon:OnT w L (fun _=>2)):GV w (some ⟨b,0,none⟩) n n P (3*n):=⟨L,sl_lit h hcs hl,hon.ok,hp,fun a=>by rw[←hl];exact wsum_small hon a,(fun h=>(by cases h))⟩
def wtot:List (Int×Rat)→Nat
 | []=>0
 | x :: L=>sz x.2+1+wtot L
theorem wtot_append (L M:List (Int×Rat)):wtot (L++M)=wtot L+wtot M:=by
 induction L with
 | nil=>show wtot M=0+wtot M;omega
 | cons x L ih =>
  show sz x.2+1+wtot (L++M)=sz x.2+1+wtot L+wtot M
  omega
theorem len_wtot:∀L:List (Int×Rat),L.length≤wtot L
 | []=>Nat.le_refl _
 | x :: L=>by
  have:=len_wtot L;show L.length+1≤sz x.2+1+wtot L
  omega
theorem wtot_pins (a:Int) (q:Rat) (L:List (Int×Rat)):wtot (pins a q L)≤sz q+1+wtot L:=by
 induction L with
 | nil =>
  unfold pins
  split
  ·exact Nat.zero_le _
  ·exact Nat.le_refl _
 | cons x L ih =>
  unfold pins
  split
  ·split
   ·omega
   ·exact Nat.le_refl _
  ·split
   ·split
    ·show wtot L≤sz q+1+(sz x.2+1+wtot L)
     omega
    ·show sz (q+x.2)+1+wtot L≤sz q+1+(sz x.2+1+wtot L)
     have:=sz_add (Nat.le_refl (sz q)) (Nat.le_refl (sz x.2));omega
   ·show sz x.2+1+wtot (pins a q L)≤sz q+1+(sz x.2+1+wtot L)
    omega
theorem wtot_nrm:∀L:List (Int×Rat),wtot (nrm L)≤wtot L
 | []=>Nat.le_refl _
 | x :: L=>by
  have h1:=wtot_pins x.1 x.2 (nrm L);have h2:=wtot_nrm L;show wtot (pins x.1 x.2 (nrm L))≤sz x.2+1+wtot L
  omega
theorem wtot_le {m:Nat}:∀{L:List (Int×Rat)},(∀x∈L,sz x.2+1≤m)→wtot L≤L.length*m
 | [],_=>Nat.zero_le _
 | x :: L,h=>by
  have h1:=h x (List.mem_cons_self ..);have h2:=wtot_le fun y hy=>h y (List.mem_cons_of_mem _ hy);show sz x.2+1+wtot L≤(L.length+1)*m
  rw[Nat.add_mul];omega
def timesP (C:List (List (Int×Rat))) (X:List (Int×Rat)):List (Int×Rat) :=
 X.flatMap fun t=>if 0≤t.1∧t.1<(C.length:Int) then(C.getD t.1.toNat []).map fun c=>(c.1,c.2*t.2) else []
theorem timesP_len {C:List (List (Int×Rat))} {k:Nat} (hC:∀c∈C,c.length≤k):∀X:List (Int×Rat),(timesP C X).length≤X.length*k
 | []=>Nat.zero_le _
 | t :: X=>by
  have ih:=timesP_len hC X;have e:timesP C (t :: X)=(if 0≤t.1∧t.1<(C.length:Int) then(C.getD t.1.toNat []).map fun c=>(c.1,c.2*t.2) else [])++timesP C X:=List.flatMap_cons;have hk:(if 0≤t.1∧t.1<(C.length:Int) then(C.getD t.1.toNat []).map fun c=>(c.1,c.2*t.2) else []).length≤k:=by
   split
   case isTrue h =>
    have hi:t.1.toNat<C.length:=zo;rw[List.length_map,List.getD_eq_getElem?_getD,List.getElem?_eq_getElem hi];exact hC _ (List.getElem_mem hi)
   case isFalse=>exact Nat.zero_le _
  rw[e,List.length_append,List.length_cons,Nat.add_mul];omega
theorem wtot_by (q:Rat):∀L:List (Int×Rat),wtot (L.map fun c=>(c.1,c.2*q))≤wtot L+L.length*sz q
 | []=>Nat.zero_le _
 | c :: L=>by
  have h1:=wtot_by q L;have h2:=sz_mul (Nat.le_refl (sz c.2)) (Nat.le_refl (sz q));show sz (c.2*q)+1+wtot (L.map fun c=>(c.1,c.2*q))≤sz c.2+1+wtot L+(L.length+1)*sz q
  rw[Nat.add_mul];omega
theorem timesP_cons (C:List (List (Int×Rat))) (t:Int×Rat) (X:List (Int×Rat)):timesP C (t :: X)=(if 0≤t.1∧t.1<(C.length:Int) then(C.getD t.1.toNat []).map fun c=>(c.1,c.2*t.2) else [])++timesP C X:=List.flatMap_cons
theorem wtot_times {C:List (List (Int×Rat))} {k m:Nat} (hC:∀c∈C,c.length≤k∧wtot c≤m):∀X:List (Int×Rat),wtot (timesP C X)+k*X.length≤X.length*m+k*wtot X
 | []=>by rw[List.length_nil,Nat.zero_mul,Nat.mul_zero];exact Nat.zero_le _
 | t :: X=>by
  have ih:=wtot_times hC X;have hk:wtot (if 0≤t.1∧t.1<(C.length:Int) then(C.getD t.1.toNat []).map fun c=>(c.1,c.2*t.2) else [])≤m+k*sz t.2:=by
   split
   case isTrue h =>
    have hi:t.1.toNat<C.length:=zo;rw[List.getD_eq_getElem?_getD,List.getElem?_eq_getElem hi];have hc:=hC _ (List.getElem_mem hi);have h1:=wtot_by t.2 (C[t.1.toNat]'hi);have h2:=Nat.mul_le_mul_right (sz t.2) hc.1;show wtot ((C[t.1.toNat]'hi).map fun c=>(c.1,c.2*t.2))≤_
    omega
   case isFalse=>exact Nat.zero_le _
  rw[timesP_cons,wtot_append,List.length_cons,Nat.add_mul,Nat.mul_add,Nat.mul_one];show _≤_+k*(sz t.2+1+wtot X)
  rw[Nat.mul_add,Nat.mul_add];omega
theorem timesP_snoc (C:List (List (Int×Rat))) {X:List (Int×Rat)} {i:Nat} {t:Int×Rat} (h:X[i]?=some t) :
  timesP C (X.take (i+1))=timesP C (X.take i)++(if 0≤t.1∧t.1<(C.length:Int) then(C.getD t.1.toNat []).map fun c=>(c.1,c.2*t.2) else []):=by
 have e:X.take (i+1)=X.take i++[t]:=by rw[List.take_add_one,h];rfl
 rw[e];unfold timesP
 rw[List.flatMap_append];congr 1
 exact List.append_nil _
theorem wsum_tot {w:World} {b:Int→Nat} (a:Int):∀{L:List Tm},OnT w L b→wsum L a≤wtot (prs L)+L.length
 | [],_=>Nat.zero_le _
 | t :: L,h=>by
  have h1:=wsum_tot a (L:=L) fun y hy=>h y (List.mem_cons_of_mem _ hy);have h2:=h.dg t (List.mem_cons_self ..);show(if t.at_=a then dgT t+2 else 0)+wsum L a≤sz t.x.q+1+wtot (prs L)+(L.length+1)
  split<;>omega
open Go.RowKit Tw
def TM1 (w W:World) (C:List (List (Int×Rat))) (X:List (Int×Rat)) (MM n gk:Nat) (s5 s13:Value) (wr:World):Prop :=
 ∃(i k:Nat) (H:Option Addr) (hc:Nat) (O:List Tm),s5=.slice H k hc∧s13=.int .i64 (i:Int)∧i≤n∧n-i=gk∧
  OwnR wr W.heap.size 114 5 (.slice H k hc) k (flat Tm.cs O)∧prs O=timesP C (X.take i)∧OnT wr O (fun _=>MM)∧Below w.heap.size w wr∧Below W.heap.size W wr
def TM2 (w W:World) (cs:Array Value) (v0:Nat) (Z:List (Int×Rat)) (T:List Tm) (q:Rat) (MM n gk:Nat) (s5 s33:Value) (wr:World):Prop :=
 ∃(j k:Nat) (H:Option Addr) (hc:Nat) (O:List Tm),s5=.slice H k hc∧s33=.int .i64 (j:Int)∧j≤n∧n-j≤gk∧
  OwnR wr W.heap.size 114 5 (.slice H k hc) k (flat Tm.cs O)∧prs O=Z++(prs (T.take j)).map (fun c=>(c.1,c.2*q))∧OnT wr O (fun _=>MM)∧Bx wr v0 cs 114∧Below w.heap.size w wr∧Below W.heap.size W wr∧some v0≠(Value.slice H k hc).ownBlock
theorem timesV_q {w:World} {X A:Option Addr} {nx cx n c:Nat} {P:List (Int×Rat)} {CL:List Vc} (M MC kc mc:Nat) (h:Sl Vc.cs 1 w A n c CL) (hcl:Hid (∀v∈CL,GV w v.A v.n v.c (prs v.L) MC∧v.n≤kc∧wtot (prs v.L)≤mc)) (hx0:GV w X nx cx P M)
  (hM:M≤9000) (hMC:MC≤9000) (hnx:nx≤1000) (hkc:kc≤1000) (hn:n≤1000000) (D:Nat) (hD:nx*mc+kc*wtot P≤D) (hD2:D≤18000) (hT:Hid (Tab w)) :
  Calls Tryz.prog 57 #[.slice A n c,.slice X nx cx] w (TellsV w (nrm (timesP (CL.map fun v=>prs v.L) (nrm P))) D):=by
 have H:=zh h;have HLN:=zh h.1;have hx:=zh hx0;have HPL:=zh hx0.len;have hM:M≤19000:=zo;have hnx:nx≤1000000:=zo;clear h hx0;have hB:=Below.refl w.heap.size w;have Bz:=Below.refl w.heap.size w;go_enter Tryz.func57,Tryz.ntmps57
 go_wp2_with fail
 with_reducible refine(normV_q (hx.out.below (zAa hB (zAa (b:=w) Bz (by go_grown)))) hM hnx (zh (Tab.below hT.out (zAa hB (zAa (b:=w) Bz (by go_grown)))))).mono ?_
 rintro e w1 ⟨A1,n1,c1,rfl,h1,b1⟩;replace b1:=zAa (a:=w) (by go_grown) b1;replace Bz:=zAa Bz b1;clear b1;go_wp2_with fail
 obtain⟨L,x1,x2,x3,x4⟩:=h1;have HS:=zh x1;have HL1:=zh x1.1;have HON:=zh x2;have HPX:=zh x3;have hn1:n1≤nx:=by
  have h1:=nrm_len P;rw[←HPX.out,prs_len,HL1.out,HPL.out] at h1;exact h1
 have HB1:=zh (zAa hB Bz);have hWs:=Bz.size;clear x1 x2 x3 x4 hB Bz;go_loopg [5,13] n1 (fun gk s5 s13 wr=>TM1 w w1 (CL.map fun v=>prs v.L) (nrm P) (MC+M+2) n1 gk s5 s13 wr)
 case atStart=>exact⟨0,0,_,_,[],rfl,rfl,Nat.zero_le _,rfl,OwnR.nil _ _ _ _,rfl,OnT.nil _ _,HB1.out,Below.refl _ _⟩
 case round =>
  clear HB1;obtain⟨i,k,Hd,hc,O,rfl,rfl,hi,hgk,ho,hp,hon,hB,hBW⟩:=hrel;have HP:=zh hp;have HGK:=zh hgk;clear hp hgk;by_cases hlt:i<n1
  ·obtain⟨b,off,rfl,hel⟩:=HS.out.at Tm.cs_len zo zo;obtain⟨x,hx'⟩:∃x,L[i]?=some x:=⟨L[i]'(by rw[HL1.out];exact hlt),List.getElem?_eq_getElem _⟩;have hnd:=hel i x hx';have hsn:=timesP_snoc (CL.map fun v=>prs v.L) (X:=nrm P) (i:=i) (t:=(x.at_,x.x.q)) (by rw[←HPX.out];exact prs_get hx');rw[List.length_map,HLN.out] at hsn;have i1:(i:Int)<(n1:Int):=zo;have i2:(0:Int)≤(i:Int):=zo;clear hel;by_cases g1:x.at_<0
   ·have HP2:Hid (prs O=timesP (CL.map fun v=>prs v.L) ((nrm P).take (i+1))):=zh (by rw[hsn,if_neg (fun h=>by have:=h.1;simp only at this;omega),List.append_nil,HP.out]);clear hsn hx';have Bz:=Below.refl wr.heap.size wr;obtain⟨pA0,pA1,pA2,pA3,pA4,-⟩:=(hnd.below (zAa hBW Bz)).ez;go_upto_region 5 with(fail)
    obtain⟨V11,hW,x0,hN⟩:=zAf wr #[.int .i64 x.at_,.bool x.x.s,.slice x.x.A x.x.l x.x.c,.bool x.x.s',.slice x.x.A' x.x.l' x.x.c'] 114;rw[←hW];clear hW;obtain⟨v0,hb0⟩:∃b,b=wr.heap.size:=⟨_,rfl⟩;rw[←hb0] at x0 ⊢;have ow_0:w.heap.size≤v0:=zia (zw hB Bz);replace hon:=hon.below hN;replace ho:=ho.below hN;replace hB:=zAa (zAa hB Bz) hN;replace hBW:=zAa (zAa hBW Bz) hN;have HX0:=zh x0;clear x0 hN Bz hb0;have Bz:=Below.refl V11.heap.size V11;clear pA0 pA1 pA2 pA3 pA4;have pa0:=(zxb HX0 Bz).cell 0 (.int .i64 x.at_) rfl;go_wp2_with fail
    go_roundg (n1-(i+1))
    case measure=>have:=HGK.out;omega
    case rel=>exact⟨i+1,k,_,_,O,rfl,by go_num,zo,zo,OwnR.below ho (by go_grown),HP2.out,OnT.below hon (by go_grown),zAa (zAa hB Bz) (by go_grown),zAa (zAa hBW Bz) (by go_grown)⟩
   by_cases g2:(n:Int)≤x.at_
   ·have HP2:Hid (prs O=timesP (CL.map fun v=>prs v.L) ((nrm P).take (i+1))):=zh (by rw[hsn,if_neg (fun h=>by have:=h.2;simp only at this;omega),List.append_nil,HP.out]);clear hsn hx';have Bz:=Below.refl wr.heap.size wr;obtain⟨pA0,pA1,pA2,pA3,pA4,-⟩:=(hnd.below (zAa hBW Bz)).ez;go_upto_region 5 with(fail)
    obtain⟨V11,hW,x0,hN⟩:=zAf wr #[.int .i64 x.at_,.bool x.x.s,.slice x.x.A x.x.l x.x.c,.bool x.x.s',.slice x.x.A' x.x.l' x.x.c'] 114;rw[←hW];clear hW;obtain⟨v0,hb0⟩:∃b,b=wr.heap.size:=⟨_,rfl⟩;rw[←hb0] at x0 ⊢;have ow_0:w.heap.size≤v0:=zia (zw hB Bz);replace hon:=hon.below hN;replace ho:=ho.below hN;replace hB:=zAa (zAa hB Bz) hN;replace hBW:=zAa (zAa hBW Bz) hN;have HX0:=zh x0;clear x0 hN Bz hb0;have Bz:=Below.refl V11.heap.size V11;clear pA0 pA1 pA2 pA3 pA4;have pa0:=(zxb HX0 Bz).cell 0 (.int .i64 x.at_) rfl;go_wp2_with fail
    go_roundg (n1-(i+1))
    case measure=>have:=HGK.out;omega
    case rel=>exact⟨i+1,k,_,_,O,rfl,by go_num,zo,zo,OwnR.below ho (by go_grown),HP2.out,OnT.below hon (by go_grown),zAa (zAa hB Bz) (by go_grown),zAa (zAa hBW Bz) (by go_grown)⟩
   obtain⟨u,hu⟩:∃u,CL[x.at_.toNat]?=some u:=⟨CL[x.at_.toNat]'(by rw[HLN.out];omega),List.getElem?_eq_getElem _⟩;obtain⟨d,offd,rfl,held⟩:=H.out.at Vc.cs_len zo zo;have hnd2:ElA w d (offd+x.at_.toNat) u.cs:=by have:=held x.at_.toNat u hu;rwa [Nat.mul_one] at this
   have i3:(0:Int)≤x.at_:=zo;have i4:x.at_<(n:Int):=zo;have hcu:=hcl.out u (List.mem_of_getElem? hu);clear held;have HV00:Hid (some wr.heap.size≠(Value.slice Hd k hc).ownBlock):=zh (ho.off' (Nat.le_refl _));have Bz:=Below.refl wr.heap.size wr;obtain⟨pA0,pA1,pA2,pA3,pA4,-⟩:=(hnd.below (zAa hBW Bz)).ez;go_upto_region 5 with(fail)
   obtain⟨V11,hW,x0,hN⟩:=zAf wr #[.int .i64 x.at_,.bool x.x.s,.slice x.x.A x.x.l x.x.c,.bool x.x.s',.slice x.x.A' x.x.l' x.x.c'] 114;rw[←hW];clear hW;obtain⟨v0,hb0⟩:∃b,b=wr.heap.size:=⟨_,rfl⟩;rw[←hb0] at x0 ⊢;have ow_0:w.heap.size≤v0:=zia (zw hB Bz);replace hon:=hon.below hN;replace ho:=ho.below hN;replace hB:=zAa (zAa hB Bz) hN;replace hBW:=zAa (zAa hBW Bz) hN;have HX0:=zh x0;have HV0:Hid (some v0≠(Value.slice Hd k hc).ownBlock):=by rw[hb0];exact HV00
   clear x0 hN Bz hb0 HV00;have Bz:=Below.refl V11.heap.size V11;clear pA0 pA1 pA2 pA3 pA4;have pa0:=(zxb HX0 Bz).cell 0 (.int .i64 x.at_) rfl;have pB0:=(hnd2.below (zAa hB Bz)).c0 (u:=.slice u.A u.n u.c) rfl;go_wp2_with fail
   have XX0:=zh (zxb HX0 Bz);have HBB:=zh (zAa hB Bz);have HBV:=zh (zAa hBW Bz);have HO1:=zh (ho.below Bz);have HN1:=zh (hon.below Bz);obtain⟨⟨T,t1,t2,t3,t4,t5⟩,hunk,hmc⟩:=hcu;have HT:=zh t1;have HTL:=zh t1.1;have HTK:=zh t2;have HTP:=zh t3;have HTW:=zh t4;have HRX:=zh (HON.out.ok x (List.mem_of_getElem? hx'));have hdx:=HON.out.dg x (List.mem_of_getElem? hx');have hsx:sz x.x.q+1≤M:=(HON.out x (List.mem_of_getElem? hx')).2.2;have HSN:=zh hsn;have hxv:v0<V11.heap.size:=zia XX0.out.lt;clear t1 t2 t3 t4 t5 hB Bz hBW ho hon hx' hsn HX0 hnd hnd2;go_loopg [5,33] u.n (fun gk s5 s33 wr=>TM2 w w1 #[.int .i64 x.at_,.bool x.x.s,.slice x.x.A x.x.l x.x.c,.bool x.x.s',.slice x.x.A' x.x.l' x.x.c'] v0 (timesP (CL.map fun v=>prs v.L) ((nrm P).take i)) T x.x.q (MC+M+2) u.n gk s5 s33 wr)
   case atStart=>exact⟨0,k,_,_,O,rfl,rfl,Nat.zero_le _,Nat.le_refl _,HO1.out,by rw[HP.out];exact(List.append_nil _).symm,HN1.out,XX0.out,HBB.out,HBV.out,HV0.out⟩
   case round =>
    clear XX0 HO1 HN1 HBB HBV HP;obtain⟨j,k,Hd,hc,O,rfl,rfl,hj,hgj,ho,hp,hon,hx0,hB,hBW,hv0⟩:=hrel;have HP:=zh hp;have HX0:=zh hx0;clear hp hx0;by_cases hlu:j<u.n
    ·obtain⟨eb,offe,he,hel⟩:=HT.out.at Tm.cs_len zo zo;rw[he];obtain⟨y,hy⟩:∃y,T[j]?=some y:=⟨T[j]'(by rw[HTL.out];exact hlu),List.getElem?_eq_getElem _⟩;have hndy:=hel j y hy;have hfy:=HTK.out y (List.mem_of_getElem? hy);have hry:R wr y.x.s y.x.A y.x.c y.x.l y.x.s' y.x.A' y.x.c' y.x.l' y.x.q (dgT y):=(hfy.below hB).r;have hrx:R wr x.x.s x.x.A x.x.c x.x.l x.x.s' x.x.A' x.x.c' x.x.l' x.x.q (dgT x):=(HRX.out.below hBW).r;have hdy:dgT y+2≤MC:=Nat.le_trans (wsum_mem (List.mem_of_getElem? hy)) (HTW.out _);have hsz:sz (y.x.q*x.x.q)≤(dgT y+1)+sz x.x.q:=sz_mul hfy.szd (Nat.le_refl _);have HS1:Hid (sz (y.x.q*x.x.q)+1≤MC+M+2):=zh zo;have HP2:Hid (∀r:Fr,r.q=y.x.q*x.x.q→prs (O++[⟨y.at_,r⟩])=timesP (CL.map fun v=>prs v.L) ((nrm P).take i)++(prs (T.take (j+1))).map (fun c=>(c.1,c.2*x.x.q))):=zh (fun r hr=>by
      rw[zAk hy,prs_append,prs_append,List.map_append,←List.append_assoc,←HP.out];congr 1
      show [((y.at_,r.q):Int×Rat)]=[(y.at_,y.x.q*x.x.q)]
      rw[hr])
     have hkb:k≤20000:=by
      have h1:=timesP_len (C:=CL.map fun v=>prs v.L) (k:=kc) (fun c hc=>by
       obtain⟨v,hv,rfl⟩:=List.mem_map.1 hc;have h2:=hcl.out v hv;have:=h2.1.len;omega) ((nrm P).take i)
      have h2:((nrm P).take i).length≤wtot P:=by have h8:=len_wtot (nrm P);have h9:=wtot_nrm P;rw[List.length_take];omega
      have h3:=Nat.mul_le_mul_right kc h2;rw[Nat.mul_comm (wtot P) kc] at h3;have h4:O.length=k:=ho.eltn elt_term zo;have h5:=congrArg List.length HP.out;rw[prs_len,List.length_append,List.length_map,prs_len,List.length_take,h4] at h5;omega
     have j1:(j:Int)<(u.n:Int):=zo;have j2:(0:Int)≤(j:Int):=zo;clear hel hy hfy hsz;have Bz:=Below.refl wr.heap.size wr;have pA0:=(hndy.below (zAa hB Bz)).c0 (u:=.int .i64 y.at_) rfl;have pA1:=(hndy.below (zAa hB Bz)).at 1 (.bool y.x.s) rfl;have pA2:=(hndy.below (zAa hB Bz)).at 2 (.slice y.x.A y.x.l y.x.c) rfl;have pA3:=(hndy.below (zAa hB Bz)).at 3 (.bool y.x.s') rfl;have pA4:=(hndy.below (zAa hB Bz)).at 4 (.slice y.x.A' y.x.l' y.x.c') rfl;go_upto_region 9 with(fail)
     obtain⟨V21,hW,x1,hN⟩:=zAf wr #[.int .i64 y.at_,.bool y.x.s,.slice y.x.A y.x.l y.x.c,.bool y.x.s',.slice y.x.A' y.x.l' y.x.c'] 114;rw[←hW];clear hW;obtain⟨v1,hb1⟩:∃b,b=wr.heap.size:=⟨_,rfl⟩;rw[←hb1] at x1 ⊢;have o0_1:v0<v1:=zia (zxb HX0 Bz).lt;have ow_1:w.heap.size≤v1:=zia (zw hB Bz);have nv1_own:=OwnR.off' (b:=v1) ho zo;replace hon:=hon.below hN;replace ho:=ho.below hN;replace hrx:=hrx.below hN;replace hry:=hry.below hN;replace hB:=zAa (zAa hB Bz) hN;replace hBW:=zAa (zAa hBW Bz) hN;replace HX0:=zh ((zxb HX0 Bz).below hN);have HX1:=zh x1;clear x1 hN Bz hb1;have Bz:=Below.refl V21.heap.size V21;clear pA0 pA1 pA2 pA3 pA4;obtain⟨-,pa1,pa2,pa3,pa4,-⟩:=(zxb HX0 Bz).cz;obtain⟨pb0,pb1,pb2,pb3,pb4,-⟩:=(zxb HX1 Bz).cz;go_wp2_with fail
     (try simp only[List.append_eq,List.cons_append,List.nil_append])
     refine zAb (.pure 0 (.pure 1 (.take 2 (.pure 3 (.take 4 (.pure 5 (.take 6 (.only 7 (.pure 8 (.only 9 (.only 10 (.pure 11 .done)))))))))))) [10] (fun w'=>w'.cell? ⟨v0,1,none⟩=some (.bool x.x.s)∧w'.cell? ⟨v0,2,none⟩=some (.slice x.x.A x.x.l x.x.c)∧w'.cell? ⟨v0,3,none⟩=some (.bool x.x.s')∧w'.cell? ⟨v0,4,none⟩=some (.slice x.x.A' x.x.l' x.x.c')∧w'.cell? ⟨v1,0,none⟩=some (.int .i64 y.at_)∧w'.cell? ⟨v1,1,none⟩=some (.bool y.x.s)∧w'.cell? ⟨v1,2,none⟩=some (.slice y.x.A y.x.l y.x.c)∧w'.cell? ⟨v1,3,none⟩=some (.bool y.x.s')∧w'.cell? ⟨v1,4,none⟩=some (.slice y.x.A' y.x.l' y.x.c')) (by kernel_rfl) (by kernel_rfl) ⟨pa1,pa2,pa3,pa4,pb0,pb1,pb2,pb3,pb4⟩ ?_;iterate 2 (refine zP rfl rfl (fun w'=>by go_simp<;>with_reducible rfl) ?_;try simp only[uW,uX,uY,uZ])
     refine zT rfl rfl (fun w' ⟨pa1,pa2,pa3,pa4,pb0,pb1,pb2,pb3,pb4⟩=>by go_simp<;>with_reducible rfl) ?_;try simp only[uW,uX,uY,uZ]
     refine zP rfl rfl (fun w'=>by go_simp<;>with_reducible rfl) ?_;try simp only[uW,uX,uY,uZ]
     refine zT rfl rfl (fun w' ⟨pa1,pa2,pa3,pa4,pb0,pb1,pb2,pb3,pb4⟩=>by go_simp<;>with_reducible rfl) ?_;try simp only[uW,uX,uY,uZ]
     refine zP rfl rfl (fun w'=>by go_simp<;>with_reducible rfl) ?_;try simp only[uW,uX,uY,uZ]
     refine zT rfl rfl (fun w' ⟨pa1,pa2,pa3,pa4,pb0,pb1,pb2,pb3,pb4⟩=>by go_simp<;>with_reducible rfl) ?_;try simp only[uW,uX,uY,uZ]
     refine zC 44 rfl rfl (fun K hK=>?_);go_simp
     with_reducible refine(mul_q (R.below hry (by go_grown)) (R.below hrx (by go_grown)) zo (zh (Tab.below hT.out (zAa hB (zAa (b:=V21) Bz (by go_grown)))))).mono ?_
     rintro e w11 ⟨s11,A11,c11,l11,s11r,A11r,c11r,l11r,rfl,h11,b11⟩;replace b11:=zAa (a:=V21) (by go_grown) b11;replace hon:=hon.below b11;replace ho:=ho.below b11;replace Bz:=zAa Bz b11;clear b11;clear pa1 pa2 pa3 pa4 pb0 pb1 pb2 pb3 pb4;obtain⟨-,pa1,pa2,pa3,pa4,-⟩:=(zxb HX0 Bz).cz;obtain⟨pb0,pb1,pb2,pb3,pb4,-⟩:=(zxb HX1 Bz).cz;refine hK.out _ _ ⟨pa1,pa2,pa3,pa4,pb0,pb1,pb2,pb3,pb4⟩ (fun _=>?_);try simp only[uW,uX,uY,uZ]
     clear hK K;refine zP rfl rfl (fun w'=>by go_simp<;>with_reducible rfl) ?_;try simp only[uW,uX,uY,uZ]
     refine zC 46 rfl rfl (fun K hK=>?_);go_simp
     refine hK.out _ _ ⟨(zAd pa1),(zAd pa2),(zAd pa3),(zAd pa4),(zAd pb0),(zAd pb1),(zAd pb2),(zAd pb3),(zAd pb4)⟩ (fun _=>?_);try simp only[uW,uX,uY,uZ]
     clear hK K;refine zAe (o:=⟨some 47,_,_,_,_,_⟩) rfl rfl zd (fun K hK=>?_);obtain⟨V22,hW,x2,hN⟩:=zAf w11 #[.int .i64 y.at_,.bool s11,.slice A11 l11 c11,.bool s11r,.slice A11r l11r c11r] 114;rw[←hW];clear hW;obtain⟨v2,hb2⟩:∃b,b=w11.heap.size:=⟨_,rfl⟩;rw[←hb2] at x2 ⊢;have o0_2:v0<v2:=zia (zxb HX0 Bz).lt;have o1_2:v1<v2:=zia (zxb HX1 Bz).lt;have ow_2:w.heap.size≤v2:=zia (zw hB Bz);have nv2_own:=OwnR.off' (b:=v2) ho zo;replace h11:=h11.below hN;replace hon:=hon.below hN;replace ho:=ho.below hN;replace hB:=zAa (zAa hB Bz) hN;replace hBW:=zAa (zAa hBW Bz) hN;replace HX0:=zh ((zxb HX0 Bz).below hN);replace HX1:=zh ((zxb HX1 Bz).below hN);have HX2:=zh x2;clear x2 hN Bz hb2;have Bz:=Below.refl V22.heap.size V22;clear pa1 pa2 pa3 pa4 pb0 pb1 pb2 pb3 pb4;have hdr:V22.drew.heap.size=V22.heap.size:=rfl;have hdr2:V22.drew.drew.heap.size=V22.heap.size:=rfl;refine Elt.wp elt_term _ _ rfl (w1.heap.size) (.slice Hd k hc) (k) (O) rfl ho (.slice (some ⟨v2,0,none⟩) 1 1) (1) ([⟨y.at_,⟨s11,A11,c11,l11,s11r,A11r,c11r,l11r,y.x.q*x.x.q,true⟩⟩]) rfl (From.one (HX2.out.below (zAa Bz (by go_grown))) (⟨y.at_,⟨s11,A11,c11,l11,s11r,A11r,c11r,l11r,y.x.q*x.x.q,true⟩⟩) rfl (elt_term.len _)) zo (zj hBW.size Bz.size) ?_;intro H12 c12 w12 ho12 hg12;refine hK.out _ _ ?_;try simp only[uW,uX,uY,uZ]
     clear hK K;replace hB:=(zAa (zAa hB Bz) (by go_grown)).trans (hg12.below (zia (zw hB Bz)) (fun g hg=>by have:=ho.base g hg;omega));replace hBW:=(zAa (zAa hBW Bz) (by go_grown)).trans (hg12.below (zj hBW.size Bz.size) (fun g hg=>by have:=ho.base g hg;omega));have hv1:=hg12.ne (zxb HX0 Bz).lt hv0;replace HX0:=zh (hg12.bx (zxb HX0 Bz) hv0);clear HX1;clear HX2;clear hdr hdr2;replace h11:=h11.k hg12.k;replace hon:=hon.k hg12.k;clear hg12 Bz;have Bz:=Below.refl w12.heap.size w12;obtain⟨-,pa1,pa2,pa3,pa4,-⟩:=(zxb HX0 Bz).cz;refine zP rfl rfl (fun w'=>by go_simp<;>with_reducible rfl) ?_;try simp only[uW,uX,uY,uZ]
     refine zAc ?_;go_wp2_with fail
     rw[←he];go_roundg (u.n-(j+1))
     case measure=>omega
     case rel=>exact⟨j+1,k+1,_,_,_,rfl,by go_num,zo,zo,OwnR.below ho12 (by go_grown),HP2.out _ rfl,(OnT.below hon (by go_grown)).snoc (RN.below h11 (by go_grown)) rfl HS1.out,HX0.out.below (zAa Bz (by go_grown)),zAa (zAa hB Bz) (by go_grown),zAa (zAa hBW Bz) (by go_grown),hv1⟩
    ·have hju:j=u.n:=zo;subst hju;have j1:¬(u.n:Int)<(u.n:Int):=zo;have HP2:Hid (prs O=timesP (CL.map fun v=>prs v.L) ((nrm P).take (i+1))):=zh (by
      rw[HSN.out,if_pos ⟨i3,i4⟩,HP.out,List.take_of_length_le (l:=T) (by rw[HTL.out];exact Nat.le_refl _),HTP.out,List.getD_eq_getElem?_getD,List.getElem?_map,hu];rfl)
     go_wp2_with fail
     go_roundg (n1-(i+1))
     case measure=>have:=HGK.out;omega
     case rel=>exact⟨i+1,k,_,_,O,rfl,by go_num,zo,zo,ho.below (by go_grown),HP2.out,OnT.below hon (by go_grown),zAa hB (by go_grown),zAa hBW (by go_grown)⟩
  ·obtain rfl:i=n1:=zo;have i1:¬(i:Int)<(i:Int):=zo;have hpf:prs O=timesP (CL.map fun v=>prs v.L) (nrm P):=by
    rw[HP.out,List.take_of_length_le];rw[←HPX.out,prs_len,HL1.out];exact Nat.le_refl _
   have hol:=ho.eltn elt_term zo;have hc0:=ho.slice;have hnp:(nrm P).length≤nx:=by rw[←HPX.out,prs_len,HL1.out];exact hn1
   have hb1:wtot (prs O)+k≤nx*mc+kc*wtot P:=by
    have h0:k=(timesP (CL.map fun v=>prs v.L) (nrm P)).length:=by rw[←hpf,prs_len,hol]
    rw[hpf,h0];have h1:=wtot_times (C:=CL.map fun v=>prs v.L) (k:=kc) (m:=mc) (fun c hc=>by
     obtain⟨v,hv,rfl⟩:=List.mem_map.1 hc;have h2:=hcl.out v hv;exact⟨by have:=h2.1.len;omega,h2.2.2⟩) (nrm P)
    have h4:=timesP_len (C:=CL.map fun v=>prs v.L) (k:=kc) (fun c hc=>by
     obtain⟨v,hv,rfl⟩:=List.mem_map.1 hc;have h2:=hcl.out v hv;have:=h2.1.len;omega) (nrm P)
    have h2:=Nat.mul_le_mul_right mc hnp;have h3:=Nat.mul_le_mul_left kc (wtot_nrm P);rw[Nat.mul_comm _ kc] at h4;omega
   have hgv:GV wr Hd k hc (timesP (CL.map fun v=>prs v.L) (nrm P)) D:=⟨O,ho.sl' elt_term hol,hon.ok,hpf,fun a=>by
    have h1:=wsum_tot a hon;omega,fun hn0=>by
    obtain⟨_,_,e9,h9,_⟩:=hc0;cases e9;exact(h9 hn0).2⟩
   have hnq:=normV_q hgv zo zo (zh (hT.out.below hB));clear hgv hb1 hol hc0 ho hon hpf;go_wp2_with fail
   with_reducible refine hnq.mono ?_
   rintro e w3 ⟨A3,n3,c3,rfl,h3,b3⟩;have H3:=zh h3;clear h3 hnq;go_wp2_with fail
   go_ret
   exact⟨A3,n3,c3,rfl,H3.out,zAa hB b3⟩
end Go.Proofs.YtljjgfmeaejnfaaGreatDoor
