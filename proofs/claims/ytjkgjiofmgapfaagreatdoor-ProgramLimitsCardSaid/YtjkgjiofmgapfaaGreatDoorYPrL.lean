/-
  ProgramLimits: a program of 600 variables or rows has a form; with one more it has none. Written by wip/gen/pr10.py.
-/
import Derived.Test.YtjkgjiofmgapfaaGreatDoorYPr9
set_option maxHeartbeats 16000000
set_option maxRecDepth 100000
namespace Go.Proofs.YtjkgjiofmgapfaaGreatDoor
open Go.RowKit Tw
theorem zr_rep (n:Nat):∀x∈List.replicate n (zRw 1),∃k,x=zRw k:=fun _ hx=>⟨1,List.eq_of_mem_replicate hx⟩
theorem zr_snoc {R:List Rw} (h:∀x∈R,∃k,x=zRw k):∀x∈R++[zRw 2],∃k,x=zRw k:=fun x hx=>by
 rcases List.mem_append.1 hx with hx | hx
 ·exact h x hx
 ·exact⟨2,List.mem_singleton.1 hx⟩
theorem vr_snoc {w:World} {B n:Nat} {v:Value} (h:OwnR w B 44 9 v (n+1) (flat Vr.cs (List.replicate n zVr++[zVr]))):OwnR w B 44 9 v (n+1) (flat Vr.cs (List.replicate (n+1) zVr)):=by rw[List.replicate_succ'];exact h
theorem form_z {w:World} {B B' vn vc rn rc N:Nat} {vA rA:Option Addr} (hv:OwnR w B 44 9 (.slice vA vn vc) vn (flat Vr.cs (List.replicate vn zVr))) (hr:OwnR w B' 35 6 (.slice rA rn rc) rn (flat Rw.cs (List.replicate rn (zRw 1)))) (h1:vn≤600) (h2:rn≤600) (hN:vn+rn=N) (z:Int) (hz:(rn:Int)=z) (hT:Hid (Tab w)) :
  Calls Tryz.prog 11 #[.agg #[.slice vA vn vc,.slice rA rn rc,.slice none 0 0]] w fun e w'=>∃g1 g2 g3 g4 g5:Nat,e=.returned (.tuple #[.agg #[.int .i64 z,.slice (some ⟨g1,0,none⟩) N N,.slice (some ⟨g2,0,none⟩) N N,.slice (some ⟨g3,0,none⟩) N N,.slice (some ⟨g4,0,none⟩) N N,.slice (some ⟨g5,0,none⟩) rn rn],.int .i64 0])∧Below w.heap.size w w':=by
 subst hz
 refine(form_q (p:=zPg vA vn vc rA (List.replicate rn (zRw 1)) rn rc) (KD:=20) (zPg_ok (hv.rebase (Nat.zero_le _)) (hr.rebase (Nat.zero_le _)) (zr_rep rn) (by omega) (by omega)) (rightP_yes h1 h2) hN (by decide) (zh ⟨by decide,fun x hx=>?_⟩) hT).mono ?_
 ·rw[List.eq_of_mem_replicate (show x∈List.replicate rn (zRw 1) from hx)]
  exact⟨by decide,by decide⟩
 ·rintro e w' ⟨g1,g2,g3,g4,g5,CV,LO,HI,CO,BB,he,_,_,_,_,_,_,hb⟩
  exact⟨g1,g2,g3,g4,g5,he,hb⟩
theorem right_zr {w:World} {B B' vn vc rn rc:Nat} {vA rA:Option Addr} {R:List Rw} (hv:OwnR w B 44 9 (.slice vA vn vc) vn (flat Vr.cs (List.replicate vn zVr))) (hr:OwnR w B' 35 6 (.slice rA rn rc) rn (flat Rw.cs R)) (hz:∀x∈R,∃k,x=zRw k) (h1:vn≤1000000) (h2:600<rn∧rn≤1000000) (hT:Hid (Tab w)) :
  Calls Tryz.prog 12 #[.agg #[.slice vA vn vc,.slice rA rn rc,.slice none 0 0]] w fun e w'=>e=.returned (.int .i64 100)∧Below w.heap.size w w' :=
 pright_q (p:=zPg vA vn vc rA R rn rc) (zPg_ok (hv.rebase (Nat.zero_le _)) (hr.rebase (Nat.zero_le _)) hz h1 h2.2) (by decide) 100 (zh (by rw[rightP_noR h2.1];rfl)) hT
theorem right_zv {w:World} {B B' vn vc rn rc:Nat} {vA rA:Option Addr} {R:List Rw} (hv:OwnR w B 44 9 (.slice vA vn vc) vn (flat Vr.cs (List.replicate vn zVr))) (hr:OwnR w B' 35 6 (.slice rA rn rc) rn (flat Rw.cs R)) (hz:∀x∈R,∃k,x=zRw k) (h1:600<vn∧vn≤1000000) (h2:rn≤1000000) (hT:Hid (Tab w)) :
  Calls Tryz.prog 12 #[.agg #[.slice vA vn vc,.slice rA rn rc,.slice none 0 0]] w fun e w'=>e=.returned (.int .i64 100)∧Below w.heap.size w w' :=
 pright_q (p:=zPg vA vn vc rA R rn rc) (zPg_ok (hv.rebase (Nat.zero_le _)) (hr.rebase (Nat.zero_le _)) hz h1.2 h2) (by decide) 100 (zh (by rw[rightP_noV h1.1];rfl)) hT
theorem value_z {w:World} {B B' vn vc rn rc:Nat} {vA rA:Option Addr} {R:List Rw} (hv:OwnR w B 44 9 (.slice vA vn vc) vn (flat Vr.cs (List.replicate vn zVr))) (hr:OwnR w B' 35 6 (.slice rA rn rc) rn (flat Rw.cs R)) (hz:∀x∈R,∃k,x=zRw k) (h1:vn≤1000000) (h2:rn≤1000000) (hT:Hid (Tab w)) :
  Calls Tryz.prog 14 #[.agg #[.slice vA vn vc,.slice rA rn rc,.slice none 0 0],.slice none 0 0] w (TellsNum w (pdot [] (idxP [])) 1) :=
 value_q (p:=zPg vA vn vc rA R rn rc) (mx:=1) (X:=[]) (zPg_ok (hv.rebase (Nat.zero_le _)) (hr.rebase (Nat.zero_le _)) hz h1 h2) (Sl.nil _) (zh fun x hx=>(by cases hx)) (by decide) (by decide) (Nat.zero_le _) (by show 1+0*_≤1;rw[Nat.zero_mul];decide) (by decide) hT
def LM1 (w:World) (bq gv n m gk:Nat) (s:Value) (wr:World):Prop :=
 ∃(i:Nat) (H:Option Addr) (hc:Nat),i≤m∧m-i=gk∧s=.int .i64 (i:Int)∧Bx wr bq #[.slice (some ⟨gv,0,none⟩) n n,.slice H i hc,.slice none 0 0] 27∧OwnR wr w.heap.size 44 9 (.slice (some ⟨gv,0,none⟩) n n) n (flat Vr.cs (List.replicate n zVr))∧
  OwnR wr w.heap.size 35 6 (.slice H i hc) i (flat Rw.cs (List.replicate i (zRw 1)))∧Ap (.slice H i hc) (.slice (some ⟨gv,0,none⟩) n n)∧some bq≠(Value.slice (some ⟨gv,0,none⟩) n n).ownBlock∧some bq≠(Value.slice H i hc).ownBlock∧Below w.heap.size w wr
theorem st3_1_1 {w:World} {b:Nat} {t:TypeId} {u0 u1 u2:Value} (v1:Value) (h0:Bx w b #[u0,u1,u2] t) (n1:∀n,u1≠.int .u64 n) :
  ∃W,W=w.setCell ⟨b,1,none⟩ v1∧Bx W b #[u0,v1,u2] t∧K64 w W∧(∀b' cs t',b'≠b→Bx w b' cs t'→Bx W b' cs t')∧(∀B w0,B≤b→Below B w0 w→Below B w0 W):=by
 have h2:Bx (w.setCell ⟨b,1,none⟩ v1) b #[u0,v1,u2] t:=h0.set 1 v1
 have k1:K64 (w) (w.setCell ⟨b,1,none⟩ v1):=K64.box h0 (i:=1) rfl n1 v1
 exact⟨_,rfl,h2,k1,fun b' cs t' hb hx=>(hx.far hb v1),fun B w0 hB hb=>(hb.setCell hB v1)⟩
theorem st3_0_1 {w:World} {b:Nat} {t:TypeId} {u0 u1 u2:Value} (v0:Value) (h0:Bx w b #[u0,u1,u2] t) (n0:∀n,u0≠.int .u64 n) :
  ∃W,W=w.setCell ⟨b,0,none⟩ v0∧Bx W b #[v0,u1,u2] t∧K64 w W∧(∀b' cs t',b'≠b→Bx w b' cs t'→Bx W b' cs t')∧(∀B w0,B≤b→Below B w0 w→Below B w0 W):=by
 have h1:Bx (w.setCell ⟨b,0,none⟩ v0) b #[v0,u1,u2] t:=h0.set 0 v0
 have k0:K64 (w) (w.setCell ⟨b,0,none⟩ v0):=K64.box h0 (i:=0) rfl n0 v0
 exact⟨_,rfl,h1,k0,fun b' cs t' hb hx=>(hx.far hb v0),fun B w0 hB hb=>(hb.setCell hB v0)⟩
theorem limits_r {w:World} (more:Bool) (hT:Hid (Tab w)):Calls Tryz.prog 3 #[.bool more,.bool true] w (Yes w):=by
 have hB:=Below.refl w.heap.size w
 have Bz:=Below.refl w.heap.size w
 go_enter Tryz.func3,Tryz.ntmps3
 go_wp2_with (at_make;refine And.left (b:=True) ?_)
 refine⟨?_,trivial⟩
 refine Elt.makeN elt_vrs zVr (fun i z h1 h2=>vr_zero h1 h2) rfl (.tmp 12) (.tmp 12) rfl .i64 .i64 3 rfl rfl (by omega) w.heap.size (Nat.le_refl _) ?_
 intro gv w1 hvo b1
 clear hB Bz
 have hB:=b1
 have Bz:=Below.refl w1.heap.size w1
 go_upto_region 5 with(fail)
 obtain⟨V1,hW,x0,hN⟩:=zAb w1 #[.slice (some ⟨gv,0,none⟩) 3 3,.slice none 0 0,.slice none 0 0] 27
 rw[←hW]
 clear hW
 obtain⟨v0,hb0⟩:∃b,b=w1.heap.size:=⟨_,rfl⟩
 rw[←hb0] at x0 ⊢
 have ow_0:w.heap.size≤v0:=by have:=zw hB Bz;omega
 have nv0_vars:=OwnR.off' (b:=v0) hvo (by omega)
 replace hvo:=hvo.below hN
 replace hB:=zAa (zAa hB Bz) hN
 have HX0:=zh x0
 clear x0 hN Bz hb0
 have Bz:=Below.refl V1.heap.size V1
 go_wp2_with fail
 have HST:Hid (LM1 w v0 gv 3 600 600 (.int .i64 ((0:Nat):Int)) V1):=zh ⟨0,none,0,Nat.zero_le _,rfl,rfl,HX0.out.below Bz,hvo,OwnR.nil _ _ _ _,Ap.nil _,nv0_vars,(fun h=>by cases h),zAa hB Bz⟩
 clear hB Bz HX0 hvo nv0_vars
 obtain⟨bq,hbq⟩:∃b,b=v0:=⟨_,rfl⟩
 subst hbq
 go_loopg [8] 600 (fun gk s wr=>LM1 w bq gv 3 600 gk s wr)
 case atStart=>exact HST.out
 case round =>
  clear HST
  obtain⟨i,H,hc,hi,hgk,rfl,x0,hvo,hro,apRV,nv0_vars,nv0_own,hB⟩:=hrel
  have apVR:=apRV.symm
  have HX0:=zh x0
  have HGK:=zh hgk
  clear x0 hgk
  by_cases hlt:i<600
  ·have i1:(i:Int)<600:=by omega
   have Bz:=Below.refl wr.heap.size wr
   have p0_1:=(zx HX0 Bz).cell 1 (.slice H i hc) rfl
   go_wp2_with (at_builtin;refine And.left (b:=True) ?_)
   refine⟨?_,trivial⟩
   obtain⟨V11,hW,x1,hN⟩:=zAb wr #[.slice none 0 0,.int .u8 1,.bool false,.slice none 0 0,.bool false,.slice none 0 0] 35
   rw[←hW]
   clear hW
   obtain⟨v1,hb1⟩:∃b,b=wr.heap.size:=⟨_,rfl⟩
   rw[←hb1] at x1 ⊢
   have o0_1:bq<v1:=by have:=(zx HX0 Bz).lt;omega
   have ow_1:w.heap.size≤v1:=by have:=zw hB Bz;omega
   have nv1_own:=OwnR.off' (b:=v1) hro (by omega)
   have nv1_vars:=OwnR.off' (b:=v1) hvo (by omega)
   replace hro:=hro.below hN
   replace hvo:=hvo.below hN
   replace hB:=zAa (zAa hB Bz) hN
   replace HX0:=zh ((zx HX0 Bz).below hN)
   have HX1:=zh x1
   clear x1 hN Bz hb1
   have Bz:=Below.refl V11.heap.size V11
   clear p0_1
   have hdr:V11.drew.heap.size=V11.heap.size:=rfl
   have hdr2:V11.drew.drew.heap.size=V11.heap.size:=rfl
   refine Elt.app elt_rws rfl (.tmp 21) (.tmp 23) rfl (w.heap.size) (.slice H i hc) (i) (List.replicate i (zRw 1)) rfl hro (.slice (some ⟨v1,0,none⟩) 1 1) (1) ([zRw 1]) rfl (From.one (HX1.out.below (zAa Bz (by go_grown))) (zRw 1) rfl (elt_rws.len _)) (by omega) (by have:=zw hB Bz;omega) ?_
   intro H11 c11 w11 ho11 hg11
   replace hB:=(zAa (zAa hB Bz) (by go_grown)).trans (hg11.below (by have:=zw hB Bz;omega) (fun g hg=>by have:=hro.base g hg;omega))
   have nv0_own11:=hg11.ne (zx HX0 Bz).lt nv0_own
   replace HX0:=zh (hg11.bx (zx HX0 Bz) nv0_own)
   have nv1_own11:=hg11.ne (zx HX1 Bz).lt nv1_own
   replace HX1:=zh (hg11.bx (zx HX1 Bz) nv1_own)
   have apVR':=hg11.ap hvo apVR
   have apRV':=apVR'.symm
   replace hvo:=hvo.grown hg11 apVR
   clear apVR apRV
   have apVR:=apVR'
   have apRV:=apRV'
   clear apVR' apRV'
   clear hdr hdr2
   clear hg11 Bz
   have Bz:=Below.refl w11.heap.size w11
   have p0_1:=(zx HX0 Bz).cell 1 (.slice H i hc) rfl
   have f0_1:=(zx HX0 Bz).frozen 1
   have y0:=(zx HX0 Bz).lt
   go_upto_region 7 with(fail)
   obtain⟨V12,hW,x,kk,far,bel⟩:=st3_1_1 (.slice H11 (i+1) c11) (zx HX0 Bz) nofun
   rw[←hW]
   clear hW
   replace ho11:=ho11.far2 far nv0_own11
   replace hvo:=hvo.far2 far nv0_vars
   replace hB:=bel w.heap.size w (by omega) (zAa hB Bz)
   replace HX1:=zh (far _ _ _ (by omega) (zx HX1 Bz))
   replace HX0:=zh x
   clear x kk far bel Bz
   have Bz:=Below.refl V12.heap.size V12
   clear p0_1 f0_1 y0
   go_wp2_with fail
   go_roundg (600-(i+1))
   case measure=>have:=HGK.out;omega
   case rel=>exact⟨i+1,H11,c11,by omega,rfl,by go_num,HX0.out.below (zAa Bz (by go_grown)),OwnR.below hvo (by go_grown),by rw[List.replicate_succ'];exact OwnR.below ho11 (by go_grown),apRV,nv0_vars,nv0_own11,zAa (zAa hB Bz) (by go_grown)⟩
  ·obtain rfl:i=600:=by omega
   cases more
   ·have Bz:=Below.refl wr.heap.size wr
    obtain⟨p0_0,p0_1,p0_2,-⟩:=(zx HX0 Bz).cz
    go_wp2_with fail
    with_reducible refine(form_z (N:=603) (OwnR.below hvo (by go_grown)) (OwnR.below hro (by go_grown)) (by decide) (by decide) rfl 600 rfl (zh (Tab.below hT.out (zAa hB (zAa (b:=wr) Bz (by go_grown)))))).mono ?_
    rintro e w21 ⟨g1,g2,g3,g4,g5,rfl,b21⟩
    replace b21:=zAa (a:=wr) (by go_grown) b21
    replace hro:=hro.below b21
    replace hvo:=hvo.below b21
    replace Bz:=zAa Bz b21
    clear b21
    clear p0_0 p0_1 p0_2
    go_upto_region 10 with(fail)
    obtain⟨V21,hW,x1,hN⟩:=zAb w21 #[.int .i64 600,.slice (some ⟨g1,0,none⟩) 603 603,.slice (some ⟨g2,0,none⟩) 603 603,.slice (some ⟨g3,0,none⟩) 603 603,.slice (some ⟨g4,0,none⟩) 603 603,.slice (some ⟨g5,0,none⟩) 600 600] 39
    rw[←hW]
    clear hW
    obtain⟨v1,hb1⟩:∃b,b=w21.heap.size:=⟨_,rfl⟩
    rw[←hb1] at x1 ⊢
    have o0_1:bq<v1:=by have:=(zx HX0 Bz).lt;omega
    have ow_1:w.heap.size≤v1:=by have:=zw hB Bz;omega
    have nv1_own:=OwnR.off' (b:=v1) hro (by omega)
    have nv1_vars:=OwnR.off' (b:=v1) hvo (by omega)
    replace hro:=hro.below hN
    replace hvo:=hvo.below hN
    replace hB:=zAa (zAa hB Bz) hN
    replace HX0:=zh ((zx HX0 Bz).below hN)
    have HX1:=zh x1
    clear x1 hN Bz hb1
    have Bz:=Below.refl V21.heap.size V21
    have p0_1:=(zx HX0 Bz).cell 1 (.slice H 600 hc) rfl
    obtain⟨p1_0,p1_1,-⟩:=(zx HX1 Bz).cz
    go_wp2_with (at_builtin;refine And.left (b:=True) ?_)
    refine⟨?_,trivial⟩
    obtain⟨V22,hW,x2,hN⟩:=zAb V21 #[.slice none 0 0,.int .u8 2,.bool false,.slice none 0 0,.bool false,.slice none 0 0] 35
    rw[←hW]
    clear hW
    obtain⟨v2,hb2⟩:∃b,b=V21.heap.size:=⟨_,rfl⟩
    rw[←hb2] at x2 ⊢
    have o0_2:bq<v2:=by have:=(zx HX0 Bz).lt;omega
    have o1_2:v1<v2:=by have:=(zx HX1 Bz).lt;omega
    have ow_2:w.heap.size≤v2:=by have:=zw hB Bz;omega
    have nv2_own:=OwnR.off' (b:=v2) hro (by omega)
    have nv2_vars:=OwnR.off' (b:=v2) hvo (by omega)
    replace hro:=hro.below hN
    replace hvo:=hvo.below hN
    replace hB:=zAa (zAa hB Bz) hN
    replace HX0:=zh ((zx HX0 Bz).below hN)
    replace HX1:=zh ((zx HX1 Bz).below hN)
    have HX2:=zh x2
    clear x2 hN Bz hb2
    have Bz:=Below.refl V22.heap.size V22
    clear p0_1 p1_0 p1_1
    have hdr:V22.drew.heap.size=V22.heap.size:=rfl
    have hdr2:V22.drew.drew.heap.size=V22.heap.size:=rfl
    refine Elt.app elt_rws rfl (.tmp 50) (.tmp 52) rfl (w.heap.size) (.slice H 600 hc) (600) (List.replicate 600 (zRw 1)) rfl hro (.slice (some ⟨v2,0,none⟩) 1 1) (1) ([zRw 2]) rfl (From.one (HX2.out.below (zAa Bz (by go_grown))) (zRw 2) rfl (elt_rws.len _)) (by omega) (by have:=zw hB Bz;omega) ?_
    intro H22 c22 w22 ho22 hg22
    replace hB:=(zAa (zAa hB Bz) (by go_grown)).trans (hg22.below (by have:=zw hB Bz;omega) (fun g hg=>by have:=hro.base g hg;omega))
    have nv0_own22:=hg22.ne (zx HX0 Bz).lt nv0_own
    replace HX0:=zh (hg22.bx (zx HX0 Bz) nv0_own)
    have nv1_own22:=hg22.ne (zx HX1 Bz).lt nv1_own
    replace HX1:=zh (hg22.bx (zx HX1 Bz) nv1_own)
    have nv2_own22:=hg22.ne (zx HX2 Bz).lt nv2_own
    replace HX2:=zh (hg22.bx (zx HX2 Bz) nv2_own)
    have apVR':=hg22.ap hvo apVR
    have apRV':=apVR'.symm
    replace hvo:=hvo.grown hg22 apVR
    clear apVR apRV
    have apVR:=apVR'
    have apRV:=apRV'
    clear apVR' apRV'
    clear hdr hdr2
    clear hg22 Bz
    have Bz:=Below.refl w22.heap.size w22
    have p0_1:=(zx HX0 Bz).cell 1 (.slice H 600 hc) rfl
    have f0_1:=(zx HX0 Bz).frozen 1
    have y0:=(zx HX0 Bz).lt
    go_upto_region 15 with(fail)
    obtain⟨V23,hW,x,kk,far,bel⟩:=st3_1_1 (.slice H22 (600+1) c22) (zx HX0 Bz) nofun
    rw[←hW]
    clear hW
    replace ho22:=ho22.far2 far nv0_own22
    replace hvo:=hvo.far2 far nv0_vars
    replace hB:=bel w.heap.size w (by omega) (zAa hB Bz)
    replace HX1:=zh (far _ _ _ (by omega) (zx HX1 Bz))
    replace HX2:=zh (far _ _ _ (by omega) (zx HX2 Bz))
    replace HX0:=zh x
    clear x kk far bel Bz
    have Bz:=Below.refl V23.heap.size V23
    clear p0_1 f0_1 y0
    obtain⟨p0_0,p0_1,p0_2,-⟩:=(zx HX0 Bz).cz
    go_wp2_with fail
    with_reducible refine(right_zr (OwnR.below hvo (by go_grown)) (OwnR.below ho22 (by go_grown)) (zr_snoc (zr_rep 600)) (by decide) (by decide) (zh (Tab.below hT.out (zAa hB (zAa (b:=V23) Bz (by go_grown)))))).mono ?_
    rintro e w23 ⟨rfl,b23⟩
    replace b23:=zAa (a:=V23) (by go_grown) b23
    replace ho22:=ho22.below b23
    replace hvo:=hvo.below b23
    replace Bz:=zAa Bz b23
    clear b23
    clear p0_0 p0_1 p0_2
    obtain⟨p0_0,p0_1,p0_2,-⟩:=(zx HX0 Bz).cz
    go_wp2_with fail
    with_reducible refine(value_z (OwnR.below hvo (by go_grown)) (OwnR.below ho22 (by go_grown)) (zr_snoc (zr_rep 600)) (by decide) (by decide) (zh (Tab.below hT.out (zAa hB (zAa (b:=w23) Bz (by go_grown)))))).mono ?_
    rintro e w24 ⟨s24,A24,c24,l24,s24r,A24r,c24r,l24r,rfl,h24,z24,b24⟩
    replace b24:=zAa (a:=w23) (by go_grown) b24
    replace Bz:=zAa Bz b24
    clear b24
    clear p0_0 p0_1 p0_2
    go_wp2_with fail
    with_reducible refine(sign_q (RN.r' (RN.below h24 (by go_grown)) z24) (by decide) 0 (zh (by kernel_rfl))).mono ?_
    rintro e w25 ⟨rfl,b25⟩
    replace b25:=zAa (a:=w24) (by go_grown) b25
    replace Bz:=zAa Bz b25
    clear b25
    go_wp2_with fail
    with_reducible refine(awake15_q (zh (Tab.below hT.out (zAa hB (zAa (b:=w25) Bz (by go_grown)))))).mono ?_
    rintro e w26 ⟨rfl,b26⟩
    replace b26:=zAa (a:=w25) (by go_grown) b26
    replace Bz:=zAa Bz b26
    clear b26
    go_wp2_with fail
    go_ret
    have hF:=zAa (c:=w26) hB Bz
    exact⟨rfl,zAa hF (by go_grown)⟩
   ·have Bz:=Below.refl wr.heap.size wr
    obtain⟨p0_0,p0_1,p0_2,-⟩:=(zx HX0 Bz).cz
    go_wp2_with fail
    with_reducible refine(form_z (N:=603) (OwnR.below hvo (by go_grown)) (OwnR.below hro (by go_grown)) (by decide) (by decide) rfl 600 rfl (zh (Tab.below hT.out (zAa hB (zAa (b:=wr) Bz (by go_grown)))))).mono ?_
    rintro e w21 ⟨g1,g2,g3,g4,g5,rfl,b21⟩
    replace b21:=zAa (a:=wr) (by go_grown) b21
    replace hro:=hro.below b21
    replace hvo:=hvo.below b21
    replace Bz:=zAa Bz b21
    clear b21
    clear p0_0 p0_1 p0_2
    go_upto_region 10 with(fail)
    obtain⟨V21,hW,x1,hN⟩:=zAb w21 #[.int .i64 600,.slice (some ⟨g1,0,none⟩) 603 603,.slice (some ⟨g2,0,none⟩) 603 603,.slice (some ⟨g3,0,none⟩) 603 603,.slice (some ⟨g4,0,none⟩) 603 603,.slice (some ⟨g5,0,none⟩) 600 600] 39
    rw[←hW]
    clear hW
    obtain⟨v1,hb1⟩:∃b,b=w21.heap.size:=⟨_,rfl⟩
    rw[←hb1] at x1 ⊢
    have o0_1:bq<v1:=by have:=(zx HX0 Bz).lt;omega
    have ow_1:w.heap.size≤v1:=by have:=zw hB Bz;omega
    have nv1_own:=OwnR.off' (b:=v1) hro (by omega)
    have nv1_vars:=OwnR.off' (b:=v1) hvo (by omega)
    replace hro:=hro.below hN
    replace hvo:=hvo.below hN
    replace hB:=zAa (zAa hB Bz) hN
    replace HX0:=zh ((zx HX0 Bz).below hN)
    have HX1:=zh x1
    clear x1 hN Bz hb1
    have Bz:=Below.refl V21.heap.size V21
    have p0_1:=(zx HX0 Bz).cell 1 (.slice H 600 hc) rfl
    obtain⟨p1_0,p1_1,-⟩:=(zx HX1 Bz).cz
    go_wp2_with (at_builtin;refine And.left (b:=True) ?_)
    refine⟨?_,trivial⟩
    obtain⟨V22,hW,x2,hN⟩:=zAb V21 #[.slice none 0 0,.int .u8 2,.bool false,.slice none 0 0,.bool false,.slice none 0 0] 35
    rw[←hW]
    clear hW
    obtain⟨v2,hb2⟩:∃b,b=V21.heap.size:=⟨_,rfl⟩
    rw[←hb2] at x2 ⊢
    have o0_2:bq<v2:=by have:=(zx HX0 Bz).lt;omega
    have o1_2:v1<v2:=by have:=(zx HX1 Bz).lt;omega
    have ow_2:w.heap.size≤v2:=by have:=zw hB Bz;omega
    have nv2_own:=OwnR.off' (b:=v2) hro (by omega)
    have nv2_vars:=OwnR.off' (b:=v2) hvo (by omega)
    replace hro:=hro.below hN
    replace hvo:=hvo.below hN
    replace hB:=zAa (zAa hB Bz) hN
    replace HX0:=zh ((zx HX0 Bz).below hN)
    replace HX1:=zh ((zx HX1 Bz).below hN)
    have HX2:=zh x2
    clear x2 hN Bz hb2
    have Bz:=Below.refl V22.heap.size V22
    clear p0_1 p1_0 p1_1
    have hdr:V22.drew.heap.size=V22.heap.size:=rfl
    have hdr2:V22.drew.drew.heap.size=V22.heap.size:=rfl
    refine Elt.app elt_rws rfl (.tmp 50) (.tmp 52) rfl (w.heap.size) (.slice H 600 hc) (600) (List.replicate 600 (zRw 1)) rfl hro (.slice (some ⟨v2,0,none⟩) 1 1) (1) ([zRw 2]) rfl (From.one (HX2.out.below (zAa Bz (by go_grown))) (zRw 2) rfl (elt_rws.len _)) (by omega) (by have:=zw hB Bz;omega) ?_
    intro H22 c22 w22 ho22 hg22
    replace hB:=(zAa (zAa hB Bz) (by go_grown)).trans (hg22.below (by have:=zw hB Bz;omega) (fun g hg=>by have:=hro.base g hg;omega))
    have nv0_own22:=hg22.ne (zx HX0 Bz).lt nv0_own
    replace HX0:=zh (hg22.bx (zx HX0 Bz) nv0_own)
    have nv1_own22:=hg22.ne (zx HX1 Bz).lt nv1_own
    replace HX1:=zh (hg22.bx (zx HX1 Bz) nv1_own)
    have nv2_own22:=hg22.ne (zx HX2 Bz).lt nv2_own
    replace HX2:=zh (hg22.bx (zx HX2 Bz) nv2_own)
    have apVR':=hg22.ap hvo apVR
    have apRV':=apVR'.symm
    replace hvo:=hvo.grown hg22 apVR
    clear apVR apRV
    have apVR:=apVR'
    have apRV:=apRV'
    clear apVR' apRV'
    clear hdr hdr2
    clear hg22 Bz
    have Bz:=Below.refl w22.heap.size w22
    have p0_1:=(zx HX0 Bz).cell 1 (.slice H 600 hc) rfl
    have f0_1:=(zx HX0 Bz).frozen 1
    have y0:=(zx HX0 Bz).lt
    go_upto_region 15 with(fail)
    obtain⟨V23,hW,x,kk,far,bel⟩:=st3_1_1 (.slice H22 (600+1) c22) (zx HX0 Bz) nofun
    rw[←hW]
    clear hW
    replace ho22:=ho22.far2 far nv0_own22
    replace hvo:=hvo.far2 far nv0_vars
    replace hB:=bel w.heap.size w (by omega) (zAa hB Bz)
    replace HX1:=zh (far _ _ _ (by omega) (zx HX1 Bz))
    replace HX2:=zh (far _ _ _ (by omega) (zx HX2 Bz))
    replace HX0:=zh x
    clear x kk far bel Bz
    have Bz:=Below.refl V23.heap.size V23
    clear p0_1 f0_1 y0
    obtain⟨p0_0,p0_1,p0_2,-⟩:=(zx HX0 Bz).cz
    go_wp2_with fail
    with_reducible refine(right_zr (OwnR.below hvo (by go_grown)) (OwnR.below ho22 (by go_grown)) (zr_snoc (zr_rep 600)) (by decide) (by decide) (zh (Tab.below hT.out (zAa hB (zAa (b:=V23) Bz (by go_grown)))))).mono ?_
    rintro e w23 ⟨rfl,b23⟩
    replace b23:=zAa (a:=V23) (by go_grown) b23
    replace Bz:=zAa Bz b23
    clear b23
    clear p0_0 p0_1 p0_2
    go_wp2_with fail
    with_reducible refine(awake15_q (zh (Tab.below hT.out (zAa hB (zAa (b:=w23) Bz (by go_grown)))))).mono ?_
    rintro e w24 ⟨rfl,b24⟩
    replace b24:=zAa (a:=w23) (by go_grown) b24
    replace Bz:=zAa Bz b24
    clear b24
    go_wp2_with fail
    go_ret
    have hF:=zAa (c:=w24) hB Bz
    exact⟨rfl,zAa hF (by go_grown)⟩
theorem limits_v {w:World} (more:Bool) (hT:Hid (Tab w)):Calls Tryz.prog 3 #[.bool more,.bool false] w (Yes w):=by
 have hB:=Below.refl w.heap.size w
 have Bz:=Below.refl w.heap.size w
 go_enter Tryz.func3,Tryz.ntmps3
 go_wp2_with (at_make;refine And.left (b:=True) ?_)
 refine⟨?_,trivial⟩
 refine Elt.makeN elt_vrs zVr (fun i z h1 h2=>vr_zero h1 h2) rfl (.tmp 12) (.tmp 12) rfl .i64 .i64 600 rfl rfl (by omega) w.heap.size (Nat.le_refl _) ?_
 intro gv w1 hvo b1
 clear hB Bz
 have hB:=b1
 have Bz:=Below.refl w1.heap.size w1
 go_upto_region 5 with(fail)
 obtain⟨V1,hW,x0,hN⟩:=zAb w1 #[.slice (some ⟨gv,0,none⟩) 600 600,.slice none 0 0,.slice none 0 0] 27
 rw[←hW]
 clear hW
 obtain⟨v0,hb0⟩:∃b,b=w1.heap.size:=⟨_,rfl⟩
 rw[←hb0] at x0 ⊢
 have ow_0:w.heap.size≤v0:=by have:=zw hB Bz;omega
 have nv0_vars:=OwnR.off' (b:=v0) hvo (by omega)
 replace hvo:=hvo.below hN
 replace hB:=zAa (zAa hB Bz) hN
 have HX0:=zh x0
 clear x0 hN Bz hb0
 have Bz:=Below.refl V1.heap.size V1
 go_wp2_with fail
 have HST:Hid (LM1 w v0 gv 600 3 3 (.int .i64 ((0:Nat):Int)) V1):=zh ⟨0,none,0,Nat.zero_le _,rfl,rfl,HX0.out.below Bz,hvo,OwnR.nil _ _ _ _,Ap.nil _,nv0_vars,(fun h=>by cases h),zAa hB Bz⟩
 clear hB Bz HX0 hvo nv0_vars
 obtain⟨bq,hbq⟩:∃b,b=v0:=⟨_,rfl⟩
 subst hbq
 go_loopg [8] 3 (fun gk s wr=>LM1 w bq gv 600 3 gk s wr)
 case atStart=>exact HST.out
 case round =>
  clear HST
  obtain⟨i,H,hc,hi,hgk,rfl,x0,hvo,hro,apRV,nv0_vars,nv0_own,hB⟩:=hrel
  have apVR:=apRV.symm
  have HX0:=zh x0
  have HGK:=zh hgk
  clear x0 hgk
  by_cases hlt:i<3
  ·have i1:(i:Int)<3:=by omega
   have Bz:=Below.refl wr.heap.size wr
   have p0_1:=(zx HX0 Bz).cell 1 (.slice H i hc) rfl
   go_wp2_with (at_builtin;refine And.left (b:=True) ?_)
   refine⟨?_,trivial⟩
   obtain⟨V11,hW,x1,hN⟩:=zAb wr #[.slice none 0 0,.int .u8 1,.bool false,.slice none 0 0,.bool false,.slice none 0 0] 35
   rw[←hW]
   clear hW
   obtain⟨v1,hb1⟩:∃b,b=wr.heap.size:=⟨_,rfl⟩
   rw[←hb1] at x1 ⊢
   have o0_1:bq<v1:=by have:=(zx HX0 Bz).lt;omega
   have ow_1:w.heap.size≤v1:=by have:=zw hB Bz;omega
   have nv1_own:=OwnR.off' (b:=v1) hro (by omega)
   have nv1_vars:=OwnR.off' (b:=v1) hvo (by omega)
   replace hro:=hro.below hN
   replace hvo:=hvo.below hN
   replace hB:=zAa (zAa hB Bz) hN
   replace HX0:=zh ((zx HX0 Bz).below hN)
   have HX1:=zh x1
   clear x1 hN Bz hb1
   have Bz:=Below.refl V11.heap.size V11
   clear p0_1
   have hdr:V11.drew.heap.size=V11.heap.size:=rfl
   have hdr2:V11.drew.drew.heap.size=V11.heap.size:=rfl
   refine Elt.app elt_rws rfl (.tmp 21) (.tmp 23) rfl (w.heap.size) (.slice H i hc) (i) (List.replicate i (zRw 1)) rfl hro (.slice (some ⟨v1,0,none⟩) 1 1) (1) ([zRw 1]) rfl (From.one (HX1.out.below (zAa Bz (by go_grown))) (zRw 1) rfl (elt_rws.len _)) (by omega) (by have:=zw hB Bz;omega) ?_
   intro H11 c11 w11 ho11 hg11
   replace hB:=(zAa (zAa hB Bz) (by go_grown)).trans (hg11.below (by have:=zw hB Bz;omega) (fun g hg=>by have:=hro.base g hg;omega))
   have nv0_own11:=hg11.ne (zx HX0 Bz).lt nv0_own
   replace HX0:=zh (hg11.bx (zx HX0 Bz) nv0_own)
   have nv1_own11:=hg11.ne (zx HX1 Bz).lt nv1_own
   replace HX1:=zh (hg11.bx (zx HX1 Bz) nv1_own)
   have apVR':=hg11.ap hvo apVR
   have apRV':=apVR'.symm
   replace hvo:=hvo.grown hg11 apVR
   clear apVR apRV
   have apVR:=apVR'
   have apRV:=apRV'
   clear apVR' apRV'
   clear hdr hdr2
   clear hg11 Bz
   have Bz:=Below.refl w11.heap.size w11
   have p0_1:=(zx HX0 Bz).cell 1 (.slice H i hc) rfl
   have f0_1:=(zx HX0 Bz).frozen 1
   have y0:=(zx HX0 Bz).lt
   go_upto_region 7 with(fail)
   obtain⟨V12,hW,x,kk,far,bel⟩:=st3_1_1 (.slice H11 (i+1) c11) (zx HX0 Bz) nofun
   rw[←hW]
   clear hW
   replace ho11:=ho11.far2 far nv0_own11
   replace hvo:=hvo.far2 far nv0_vars
   replace hB:=bel w.heap.size w (by omega) (zAa hB Bz)
   replace HX1:=zh (far _ _ _ (by omega) (zx HX1 Bz))
   replace HX0:=zh x
   clear x kk far bel Bz
   have Bz:=Below.refl V12.heap.size V12
   clear p0_1 f0_1 y0
   go_wp2_with fail
   go_roundg (3-(i+1))
   case measure=>have:=HGK.out;omega
   case rel=>exact⟨i+1,H11,c11,by omega,rfl,by go_num,HX0.out.below (zAa Bz (by go_grown)),OwnR.below hvo (by go_grown),by rw[List.replicate_succ'];exact OwnR.below ho11 (by go_grown),apRV,nv0_vars,nv0_own11,zAa (zAa hB Bz) (by go_grown)⟩
  ·obtain rfl:i=3:=by omega
   cases more
   ·have Bz:=Below.refl wr.heap.size wr
    obtain⟨p0_0,p0_1,p0_2,-⟩:=(zx HX0 Bz).cz
    go_wp2_with fail
    with_reducible refine(form_z (N:=603) (OwnR.below hvo (by go_grown)) (OwnR.below hro (by go_grown)) (by decide) (by decide) rfl 3 rfl (zh (Tab.below hT.out (zAa hB (zAa (b:=wr) Bz (by go_grown)))))).mono ?_
    rintro e w21 ⟨g1,g2,g3,g4,g5,rfl,b21⟩
    replace b21:=zAa (a:=wr) (by go_grown) b21
    replace hro:=hro.below b21
    replace hvo:=hvo.below b21
    replace Bz:=zAa Bz b21
    clear b21
    clear p0_0 p0_1 p0_2
    go_upto_region 10 with(fail)
    obtain⟨V21,hW,x1,hN⟩:=zAb w21 #[.int .i64 3,.slice (some ⟨g1,0,none⟩) 603 603,.slice (some ⟨g2,0,none⟩) 603 603,.slice (some ⟨g3,0,none⟩) 603 603,.slice (some ⟨g4,0,none⟩) 603 603,.slice (some ⟨g5,0,none⟩) 3 3] 39
    rw[←hW]
    clear hW
    obtain⟨v1,hb1⟩:∃b,b=w21.heap.size:=⟨_,rfl⟩
    rw[←hb1] at x1 ⊢
    have o0_1:bq<v1:=by have:=(zx HX0 Bz).lt;omega
    have ow_1:w.heap.size≤v1:=by have:=zw hB Bz;omega
    have nv1_own:=OwnR.off' (b:=v1) hro (by omega)
    have nv1_vars:=OwnR.off' (b:=v1) hvo (by omega)
    replace hro:=hro.below hN
    replace hvo:=hvo.below hN
    replace hB:=zAa (zAa hB Bz) hN
    replace HX0:=zh ((zx HX0 Bz).below hN)
    have HX1:=zh x1
    clear x1 hN Bz hb1
    have Bz:=Below.refl V21.heap.size V21
    have p0_0:=(zx HX0 Bz).cell 0 (.slice (some ⟨gv,0,none⟩) 600 600) rfl
    obtain⟨p1_0,p1_1,-⟩:=(zx HX1 Bz).cz
    go_wp2_with (at_builtin;refine And.left (b:=True) ?_)
    refine⟨?_,trivial⟩
    obtain⟨V22,hW,x2,hN⟩:=zAb V21 #[.bool false,.slice none 0 0,.bool false,.slice none 0 0,.bool false,.slice none 0 0,.bool false,.slice none 0 0,.bool false] 44
    rw[←hW]
    clear hW
    obtain⟨v2,hb2⟩:∃b,b=V21.heap.size:=⟨_,rfl⟩
    rw[←hb2] at x2 ⊢
    have o0_2:bq<v2:=by have:=(zx HX0 Bz).lt;omega
    have o1_2:v1<v2:=by have:=(zx HX1 Bz).lt;omega
    have ow_2:w.heap.size≤v2:=by have:=zw hB Bz;omega
    have nv2_own:=OwnR.off' (b:=v2) hro (by omega)
    have nv2_vars:=OwnR.off' (b:=v2) hvo (by omega)
    replace hro:=hro.below hN
    replace hvo:=hvo.below hN
    replace hB:=zAa (zAa hB Bz) hN
    replace HX0:=zh ((zx HX0 Bz).below hN)
    replace HX1:=zh ((zx HX1 Bz).below hN)
    have HX2:=zh x2
    clear x2 hN Bz hb2
    have Bz:=Below.refl V22.heap.size V22
    clear p0_0 p1_0 p1_1
    have hdr:V22.drew.heap.size=V22.heap.size:=rfl
    have hdr2:V22.drew.drew.heap.size=V22.heap.size:=rfl
    refine Elt.app elt_vrs rfl (.tmp 56) (.tmp 58) rfl (w.heap.size) (.slice (some ⟨gv,0,none⟩) 600 600) (600) (List.replicate 600 zVr) rfl hvo (.slice (some ⟨v2,0,none⟩) 1 1) (1) ([zVr]) rfl (From.one (HX2.out.below (zAa Bz (by go_grown))) (zVr) rfl (elt_vrs.len _)) (by omega) (by have:=zw hB Bz;omega) ?_
    intro H22 c22 w22 ho22 hg22
    replace hB:=(zAa (zAa hB Bz) (by go_grown)).trans (hg22.below (by have:=zw hB Bz;omega) (fun g hg=>by have:=hvo.base g hg;omega))
    have nv0_own22:=hg22.ne (zx HX0 Bz).lt nv0_vars
    replace HX0:=zh (hg22.bx (zx HX0 Bz) nv0_vars)
    have nv1_own22:=hg22.ne (zx HX1 Bz).lt nv1_vars
    replace HX1:=zh (hg22.bx (zx HX1 Bz) nv1_vars)
    have nv2_own22:=hg22.ne (zx HX2 Bz).lt nv2_vars
    replace HX2:=zh (hg22.bx (zx HX2 Bz) nv2_vars)
    have apRV':=hg22.ap hro apRV
    have apVR':=apRV'.symm
    replace hro:=hro.grown hg22 apRV
    clear apRV apVR
    have apRV:=apRV'
    have apVR:=apVR'
    clear apRV' apVR'
    clear hdr hdr2
    clear hg22 Bz
    have Bz:=Below.refl w22.heap.size w22
    have p0_0:=(zx HX0 Bz).cell 0 (.slice (some ⟨gv,0,none⟩) 600 600) rfl
    have f0_0:=(zx HX0 Bz).frozen 0
    have y0:=(zx HX0 Bz).lt
    go_upto_region 15 with(fail)
    obtain⟨V23,hW,x,kk,far,bel⟩:=st3_0_1 (.slice H22 (600+1) c22) (zx HX0 Bz) nofun
    rw[←hW]
    clear hW
    replace hro:=hro.far2 far nv0_own
    replace ho22:=ho22.far2 far nv0_own22
    replace hB:=bel w.heap.size w (by omega) (zAa hB Bz)
    replace HX1:=zh (far _ _ _ (by omega) (zx HX1 Bz))
    replace HX2:=zh (far _ _ _ (by omega) (zx HX2 Bz))
    replace HX0:=zh x
    clear x kk far bel Bz
    have Bz:=Below.refl V23.heap.size V23
    clear p0_0 f0_0 y0
    obtain⟨p0_0,p0_1,p0_2,-⟩:=(zx HX0 Bz).cz
    go_wp2_with fail
    with_reducible refine(right_zv (vr_snoc (OwnR.below ho22 (by go_grown))) (OwnR.below hro (by go_grown)) (zr_rep 3) (by decide) (by decide) (zh (Tab.below hT.out (zAa hB (zAa (b:=V23) Bz (by go_grown)))))).mono ?_
    rintro e w23 ⟨rfl,b23⟩
    replace b23:=zAa (a:=V23) (by go_grown) b23
    replace hro:=hro.below b23
    replace ho22:=ho22.below b23
    replace Bz:=zAa Bz b23
    clear b23
    clear p0_0 p0_1 p0_2
    obtain⟨p0_0,p0_1,p0_2,-⟩:=(zx HX0 Bz).cz
    go_wp2_with fail
    with_reducible refine(value_z (vr_snoc (OwnR.below ho22 (by go_grown))) (OwnR.below hro (by go_grown)) (zr_rep 3) (by decide) (by decide) (zh (Tab.below hT.out (zAa hB (zAa (b:=w23) Bz (by go_grown)))))).mono ?_
    rintro e w24 ⟨s24,A24,c24,l24,s24r,A24r,c24r,l24r,rfl,h24,z24,b24⟩
    replace b24:=zAa (a:=w23) (by go_grown) b24
    replace Bz:=zAa Bz b24
    clear b24
    clear p0_0 p0_1 p0_2
    go_wp2_with fail
    with_reducible refine(sign_q (RN.r' (RN.below h24 (by go_grown)) z24) (by decide) 0 (zh (by kernel_rfl))).mono ?_
    rintro e w25 ⟨rfl,b25⟩
    replace b25:=zAa (a:=w24) (by go_grown) b25
    replace Bz:=zAa Bz b25
    clear b25
    go_wp2_with fail
    with_reducible refine(awake15_q (zh (Tab.below hT.out (zAa hB (zAa (b:=w25) Bz (by go_grown)))))).mono ?_
    rintro e w26 ⟨rfl,b26⟩
    replace b26:=zAa (a:=w25) (by go_grown) b26
    replace Bz:=zAa Bz b26
    clear b26
    go_wp2_with fail
    go_ret
    have hF:=zAa (c:=w26) hB Bz
    exact⟨rfl,zAa hF (by go_grown)⟩
   ·have Bz:=Below.refl wr.heap.size wr
    obtain⟨p0_0,p0_1,p0_2,-⟩:=(zx HX0 Bz).cz
    go_wp2_with fail
    with_reducible refine(form_z (N:=603) (OwnR.below hvo (by go_grown)) (OwnR.below hro (by go_grown)) (by decide) (by decide) rfl 3 rfl (zh (Tab.below hT.out (zAa hB (zAa (b:=wr) Bz (by go_grown)))))).mono ?_
    rintro e w21 ⟨g1,g2,g3,g4,g5,rfl,b21⟩
    replace b21:=zAa (a:=wr) (by go_grown) b21
    replace hro:=hro.below b21
    replace hvo:=hvo.below b21
    replace Bz:=zAa Bz b21
    clear b21
    clear p0_0 p0_1 p0_2
    go_upto_region 10 with(fail)
    obtain⟨V21,hW,x1,hN⟩:=zAb w21 #[.int .i64 3,.slice (some ⟨g1,0,none⟩) 603 603,.slice (some ⟨g2,0,none⟩) 603 603,.slice (some ⟨g3,0,none⟩) 603 603,.slice (some ⟨g4,0,none⟩) 603 603,.slice (some ⟨g5,0,none⟩) 3 3] 39
    rw[←hW]
    clear hW
    obtain⟨v1,hb1⟩:∃b,b=w21.heap.size:=⟨_,rfl⟩
    rw[←hb1] at x1 ⊢
    have o0_1:bq<v1:=by have:=(zx HX0 Bz).lt;omega
    have ow_1:w.heap.size≤v1:=by have:=zw hB Bz;omega
    have nv1_own:=OwnR.off' (b:=v1) hro (by omega)
    have nv1_vars:=OwnR.off' (b:=v1) hvo (by omega)
    replace hro:=hro.below hN
    replace hvo:=hvo.below hN
    replace hB:=zAa (zAa hB Bz) hN
    replace HX0:=zh ((zx HX0 Bz).below hN)
    have HX1:=zh x1
    clear x1 hN Bz hb1
    have Bz:=Below.refl V21.heap.size V21
    have p0_0:=(zx HX0 Bz).cell 0 (.slice (some ⟨gv,0,none⟩) 600 600) rfl
    obtain⟨p1_0,p1_1,-⟩:=(zx HX1 Bz).cz
    go_wp2_with (at_builtin;refine And.left (b:=True) ?_)
    refine⟨?_,trivial⟩
    obtain⟨V22,hW,x2,hN⟩:=zAb V21 #[.bool false,.slice none 0 0,.bool false,.slice none 0 0,.bool false,.slice none 0 0,.bool false,.slice none 0 0,.bool false] 44
    rw[←hW]
    clear hW
    obtain⟨v2,hb2⟩:∃b,b=V21.heap.size:=⟨_,rfl⟩
    rw[←hb2] at x2 ⊢
    have o0_2:bq<v2:=by have:=(zx HX0 Bz).lt;omega
    have o1_2:v1<v2:=by have:=(zx HX1 Bz).lt;omega
    have ow_2:w.heap.size≤v2:=by have:=zw hB Bz;omega
    have nv2_own:=OwnR.off' (b:=v2) hro (by omega)
    have nv2_vars:=OwnR.off' (b:=v2) hvo (by omega)
    replace hro:=hro.below hN
    replace hvo:=hvo.below hN
    replace hB:=zAa (zAa hB Bz) hN
    replace HX0:=zh ((zx HX0 Bz).below hN)
    replace HX1:=zh ((zx HX1 Bz).below hN)
    have HX2:=zh x2
    clear x2 hN Bz hb2
    have Bz:=Below.refl V22.heap.size V22
    clear p0_0 p1_0 p1_1
    have hdr:V22.drew.heap.size=V22.heap.size:=rfl
    have hdr2:V22.drew.drew.heap.size=V22.heap.size:=rfl
    refine Elt.app elt_vrs rfl (.tmp 56) (.tmp 58) rfl (w.heap.size) (.slice (some ⟨gv,0,none⟩) 600 600) (600) (List.replicate 600 zVr) rfl hvo (.slice (some ⟨v2,0,none⟩) 1 1) (1) ([zVr]) rfl (From.one (HX2.out.below (zAa Bz (by go_grown))) (zVr) rfl (elt_vrs.len _)) (by omega) (by have:=zw hB Bz;omega) ?_
    intro H22 c22 w22 ho22 hg22
    replace hB:=(zAa (zAa hB Bz) (by go_grown)).trans (hg22.below (by have:=zw hB Bz;omega) (fun g hg=>by have:=hvo.base g hg;omega))
    have nv0_own22:=hg22.ne (zx HX0 Bz).lt nv0_vars
    replace HX0:=zh (hg22.bx (zx HX0 Bz) nv0_vars)
    have nv1_own22:=hg22.ne (zx HX1 Bz).lt nv1_vars
    replace HX1:=zh (hg22.bx (zx HX1 Bz) nv1_vars)
    have nv2_own22:=hg22.ne (zx HX2 Bz).lt nv2_vars
    replace HX2:=zh (hg22.bx (zx HX2 Bz) nv2_vars)
    have apRV':=hg22.ap hro apRV
    have apVR':=apRV'.symm
    replace hro:=hro.grown hg22 apRV
    clear apRV apVR
    have apRV:=apRV'
    have apVR:=apVR'
    clear apRV' apVR'
    clear hdr hdr2
    clear hg22 Bz
    have Bz:=Below.refl w22.heap.size w22
    have p0_0:=(zx HX0 Bz).cell 0 (.slice (some ⟨gv,0,none⟩) 600 600) rfl
    have f0_0:=(zx HX0 Bz).frozen 0
    have y0:=(zx HX0 Bz).lt
    go_upto_region 15 with(fail)
    obtain⟨V23,hW,x,kk,far,bel⟩:=st3_0_1 (.slice H22 (600+1) c22) (zx HX0 Bz) nofun
    rw[←hW]
    clear hW
    replace hro:=hro.far2 far nv0_own
    replace ho22:=ho22.far2 far nv0_own22
    replace hB:=bel w.heap.size w (by omega) (zAa hB Bz)
    replace HX1:=zh (far _ _ _ (by omega) (zx HX1 Bz))
    replace HX2:=zh (far _ _ _ (by omega) (zx HX2 Bz))
    replace HX0:=zh x
    clear x kk far bel Bz
    have Bz:=Below.refl V23.heap.size V23
    clear p0_0 f0_0 y0
    obtain⟨p0_0,p0_1,p0_2,-⟩:=(zx HX0 Bz).cz
    go_wp2_with fail
    with_reducible refine(right_zv (vr_snoc (OwnR.below ho22 (by go_grown))) (OwnR.below hro (by go_grown)) (zr_rep 3) (by decide) (by decide) (zh (Tab.below hT.out (zAa hB (zAa (b:=V23) Bz (by go_grown)))))).mono ?_
    rintro e w23 ⟨rfl,b23⟩
    replace b23:=zAa (a:=V23) (by go_grown) b23
    replace Bz:=zAa Bz b23
    clear b23
    clear p0_0 p0_1 p0_2
    go_wp2_with fail
    with_reducible refine(awake15_q (zh (Tab.below hT.out (zAa hB (zAa (b:=w23) Bz (by go_grown)))))).mono ?_
    rintro e w24 ⟨rfl,b24⟩
    replace b24:=zAa (a:=w23) (by go_grown) b24
    replace Bz:=zAa Bz b24
    clear b24
    go_wp2_with fail
    go_ret
    have hF:=zAa (c:=w24) hB Bz
    exact⟨rfl,zAa hF (by go_grown)⟩
end Go.Proofs.YtjkgjiofmgapfaaGreatDoor
