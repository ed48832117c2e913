import Derived.Test.YteggjbgbknkoiaaGreatDoorUZRa
import Derived.Deep.LoopGhost
set_option maxHeartbeats 8000000
set_option maxRecDepth 100000
namespace Go.Proofs.YteggjbgbknkoiaaGreatDoor
open Go.RowKit Tw
theorem gcd_half_left {u v:Nat} (h:u % 2=0) (h':v % 2=1):Nat.gcd (u / 2) v=Nat.gcd u v:=by
 obtain⟨x,rfl⟩:∃x,u=2*x:=⟨u / 2,zo⟩;rw[Nat.mul_div_cancel_left _ zo];have hc:Nat.gcd 2 v=1:=by
  rw[Nat.gcd_rec,h'];rfl
 exact(Nat.Coprime.gcd_mul_left_cancel x hc).symm
theorem gcd_half_right {u v:Nat} (h:v % 2=0) (h':u % 2=1):Nat.gcd u (v / 2)=Nat.gcd u v:=by
 rw[eG,gcd_half_left h h',eG]
theorem gcd_sub_l {u v:Nat} (h:v≤u):Nat.gcd (u-v) v=Nat.gcd u v:=by
 obtain⟨d,rfl⟩:∃d,u=d+v:=⟨u-v,zo⟩;rw[bE];simp
theorem gcd_sub_r {u v:Nat} (h:u≤v):Nat.gcd u (v-u)=Nat.gcd u v:=by
 rw[eG,gcd_sub_l h,eG]
theorem C.first {w:World} {A:Option Addr} {c l u:Nat} (h:C w A c l u) (hl:0<l):∃b off x,A=some ⟨b,off,none⟩∧w.cell? ⟨b,off,none⟩=some (.int .u64 ((x:Nat):Int))∧x % 2=u % 2:=by
 obtain⟨b,off,e,hc⟩:=h.1.cells (by show 0<nl u;rw[h.2];exact hl);refine⟨b,off,dg (limbs u) 0,e,by simpa using hc 0 (by show 0<nl u;rw[h.2];exact hl),?_⟩;have hu:u≠0:=by rintro rfl;have:=h.2;rw[nl_zero] at this;omega
 have:dg (limbs u) 0=u % B:=by rw[limbs_pos hu];rfl
 rw[this,B_eq];omega
theorem C.pos {w:World} {A:Option Addr} {c l n:Nat} (h:C w A c l n) (hl:0<l):n≠0:=by
 rintro rfl;have:=h.2;rw[nl_zero] at this;omega
theorem C.zero {w:World} {A:Option Addr} {c n:Nat} (h:C w A c 0 n):n=0:=nl_eq_zero.1 h.2
theorem C.zero' {w:World} {A:Option Addr} {c l n:Nat} (h:C w A c l n) (hl:l=0):n=0:=by subst hl;exact h.zero
theorem C.len {w:World} {A:Option Addr} {c l n m:Nat} (h:C w A c l n) (hn:n<B ^ m):l≤m:=by rw[←h.2];exact nl_le_of_lt hn
structure QSt (w wr:World) (a b k u v:Nat) (A A':Option Addr) (c c' l l':Nat):Prop where
 cu:C wr A c l u
 cv:C wr A' c' l' v
 below:Below w.heap.size w wr
def QRel (w:World) (a b M n:Nat) (x y t:Value) (wr:World):Prop :=
 ∃(k u v:Nat) (A A':Option Addr) (c c' l l':Nat),x=.slice A l c∧y=.slice A' l' c'∧t=.int .i64 (k:Int)∧n=u+v∧2 ^ k*u=a∧2 ^ k*v=b∧(k=0∨k≤M)∧QSt w wr a b k u v A A' c c' l l'
def QRel2 (w:World) (a b g n:Nat) (x y:Value) (wr:World):Prop :=
 ∃(u v:Nat) (A A':Option Addr) (c c' l l':Nat),x=.slice A l c∧y=.slice A' l' c'∧n=u+v∧u≤a∧v≤b∧Nat.gcd u v=g∧(u=0∨v=0∨u % 2=1∨v % 2=1)∧QSt w wr a b 0 u v A A' c c' l l'
theorem gcd_r {w:World} {A A':Option Addr} {c c' l l' a b:Nat} (h:V w A c l a) (h':V w A' c' l' b) (hl:l≤16000) (hl':l'≤16000) :
  Calls Tryz.prog 180 #[.slice A l c,.slice A' l' c'] w (Tells w (Nat.gcd a b) (2*(l+l')+20000)):=by
 have hn:=h.lt;have hn':=h'.lt;go_enter Tryz.func180,Tryz.ntmps180
 go_wp2_with fail
 refine(small_v h zo).mono ?_;rintro e w1 ⟨A1,c1,l1,rfl,h1,b1⟩;have s1:=h1.small hn;go_wp2_with fail
 refine(large_d h1 zo).mono ?_;rintro e w2 ⟨A2,c2,l2,rfl,h2,m2,b2⟩;replace b2:=zAb b1 b2;go_wp2_with fail
 refine(small_v (h'.below b2) zo).mono ?_;rintro e w3 ⟨A3,c3,l3,rfl,h3,b3⟩;have s3:=h3.small hn';go_wp2_with fail
 refine(large_d h3 zo).mono ?_;rintro e w4 ⟨A4,c4,l4,rfl,h4,m4,b4⟩;replace b4:=zAb b3 b4;replace h2:=h2.below b4;replace b4:=zAb b2 b4;have HN:=zh hn;have HN':=zh hn';have hpl:∀m u,m*u=a→u≠0→True:=fun _ _ _ _=>trivial;clear h h' h1 h3 hn hn' b1 b2 b3 s1 s3 m2 m4 hpl;have HST:Hid (QSt w w4 a b 0 a b A2 A4 c2 c4 l2 l4):=⟨h2,h4,b4⟩;clear h2 h4 b4;go_wp2_with fail
 go_loopg [5,6,7] (a+b) (fun n x y t wr=>QRel w a b (64*l) n x y t wr)
 case atStart=>exact⟨0,a,b,A2,A4,c2,c4,l2,l4,rfl,rfl,rfl,rfl,by simp,by simp,.inl rfl,HST.out⟩
 case round =>
  clear HST;obtain⟨k,u,v,A5,A6,c5,c6,l5,l6,rfl,rfl,rfl,hnn,hka,hkb,hkk,hst⟩:=hrel;have hkb2:k≤1024000:=zo;have hle:u≤a:=by rw[←hka];exact Nat.le_mul_of_pos_left _ (rE zo)
  have hle':v≤b:=by rw[←hkb];exact Nat.le_mul_of_pos_left _ (rE zo)
  have hl5:l5≤l:=hst.cu.len (pB hle HN.out);have hl6:l6≤l':=hst.cv.len (pB hle' HN'.out);have HKA:=zh hka;have HKB:=zh hkb;have HNN:=zh hnn;have HS:=zh hst;clear hka hkb hnn hst;by_cases g1:0<l5
  ·obtain⟨bu,ou,xu,rfl,cu,pu⟩:=HS.out.cu.first g1
   by_cases g2:0<l6
   ·obtain⟨bv,ov,xv,rfl,cv,pv⟩:=HS.out.cv.first g2
    by_cases g3:u % 2=0
    ·have t3:(((xu:Int) % 2)==0)=true:=by simp;omega
     by_cases g4:v % 2=0
     ·have t4:(((xv:Int) % 2)==0)=true:=by simp;omega
      have hu0:=HS.out.cu.pos g1;have G3:=zh g3;have G4:=zh g4;have hk64:k+1≤64*l:=by
       have h1:2 ^ (k+1)≤a:=by
        rw[←HKA.out,dB];exact qB _ zo
       have h2:2 ^ (k+1)<2 ^ (64*l):=by
        refine pB h1 ?_;rw[eE];exact HN.out
       exact Nat.le_of_lt ((Nat.pow_lt_pow_iff_right zo).1 h2)
      have hle2:u / 2≤u:=zo;clear pu pv g3 g4 hle hle';go_wp2_with fail
      refine(shr_r 1 HS.out.cu.v zo zo zo).mono ?_;rintro e w5 ⟨A7,c7,l7,rfl,h7,m7,b7⟩;have h6:=HS.out.cv.below b7;have b6:=zAb HS.out.below b7;clear HS cu cv b7;go_wp2_with fail
      refine(shr_r 1 h6.v zo zo zo).mono ?_;rintro e w6 ⟨A8,c8,l8,rfl,h8,m8,b8⟩;have h9:=h7.below b8;have HST2:Hid (QSt w w6 a b (k+1) (u / 2) (v / 2) A7 A8 c7 c8 l7 l8):=⟨h9,h8,zAb b6 b8⟩;clear h6 h7 h8 h9 b6 b8;go_wp2_with fail
      go_roundg (u / 2+v / 2)
      case measure=>rw[HNN.out];omega
      case rel=>exact⟨k+1,u / 2,v / 2,A7,A8,c7,c8,l7,l8,rfl,rfl,by go_num,rfl,by rw[←HKA.out,dB,wA,Nat.mul_div_cancel' (Nat.dvd_of_mod_eq_zero G3.out)],by rw[←HKB.out,dB,wA,Nat.mul_div_cancel' (Nat.dvd_of_mod_eq_zero G4.out)],.inr hk64,HST2.out⟩
     ·have t4:(((xv:Int) % 2)==0)=false:=by simp;omega
      have HP:Hid (u=0∨v=0∨u % 2=1∨v % 2=1):=zh zo;clear pu pv g3 g4;have HG:Hid (2 ^ k*Nat.gcd u v=Nat.gcd a b):=by show _=_;rw[←HKA.out,←HKB.out,Nat.gcd_mul_left]
      obtain⟨wo,rfl⟩:∃wo:World,wo=wr:=⟨_,rfl⟩;clear HKA HKB HNN;go_wp2_with fail
      go_loopg [5,6] (u+v) (fun n x y wr=>QRel2 w a b (Nat.gcd u v) n x y wr)
      case atStart=>exact⟨u,v,_,_,c5,c6,l5,l6,rfl,rfl,rfl,hle,hle',rfl,HP.out,⟨HS.out.cu,HS.out.cv,HS.out.below⟩⟩
      case round =>
       clear HS HP hle hle' hl5 hl6;obtain⟨u2,v2,A9,A10,c9,c10,l9,l10,rfl,rfl,hn2,hu2,hv2,hg2,hp2,hst2⟩:=hrel;have hl9:l9≤l:=hst2.cu.len (pB hu2 HN.out);have hl10:l10≤l':=hst2.cv.len (pB hv2 HN'.out);have HG2:=zh hg2;have HP2:=zh hp2;have HN2:=zh hn2;have HS2:=zh hst2;clear hg2 hp2 hn2 hst2;by_cases f1:0<l9
       ·obtain⟨bu2,ou2,xu2,rfl,cu2,pu2⟩:=HS2.out.cu.first f1
        by_cases f2:0<l10
        ·obtain⟨bv2,ov2,xv2,rfl,cv2,pv2⟩:=HS2.out.cv.first f2
         have hu0:=HS2.out.cu.pos f1;have hv0:=HS2.out.cv.pos f2;have hpp:=HP2.out;by_cases f3:u2 % 2=0
         ·have t5:(((xu2:Int) % 2)==0)=true:=by simp;omega
          have HE:Hid (Nat.gcd (u2 / 2) v2=Nat.gcd u v):=by show _=_;rw[gcd_half_left f3 zo];exact HG2.out
          have HV:Hid (v2 % 2=1):=zh zo;clear pu2 pv2 f3 hpp;go_wp2_with fail
          refine(shr_r 1 HS2.out.cu.v zo zo zo).mono ?_;rintro e w5 ⟨A7,c7,l7,rfl,h7,m7,b7⟩;have HST3:Hid (QSt w w5 a b 0 (u2 / 2) v2 A7 _ c7 c10 l7 l10):=⟨h7,HS2.out.cv.below b7,zAb HS2.out.below b7⟩;clear h7 b7 cu2 cv2;go_wp2_with fail
          go_roundg (u2 / 2+v2)
          case measure=>rw[HN2.out];omega
          case rel=>exact⟨u2 / 2,v2,_,_,c7,c10,l7,l10,rfl,rfl,rfl,zo,hv2,HE.out,.inr (.inr (.inr HV.out)),HST3.out⟩
         ·have t5:(((xu2:Int) % 2)==0)=false:=by simp;omega
          have HU:Hid (u2 % 2=1):=zh zo;by_cases f4:v2 % 2=0
          ·have t6:(((xv2:Int) % 2)==0)=true:=by simp;omega
           have HE:Hid (Nat.gcd u2 (v2 / 2)=Nat.gcd u v):=by show _=_;rw[gcd_half_right f4 HU.out];exact HG2.out
           clear pu2 pv2 f3 f4 hpp;go_wp2_with fail
           refine(shr_r 1 HS2.out.cv.v zo zo zo).mono ?_;rintro e w5 ⟨A7,c7,l7,rfl,h7,m7,b7⟩;have HST3:Hid (QSt w w5 a b 0 u2 (v2 / 2) _ A7 c9 c7 l9 l7):=⟨HS2.out.cu.below b7,h7,zAb HS2.out.below b7⟩;clear h7 b7 cu2 cv2;go_wp2_with fail
           go_roundg (u2+v2 / 2)
           case measure=>rw[HN2.out];omega
           case rel=>exact⟨u2,v2 / 2,_,_,c9,c7,l9,l7,rfl,rfl,rfl,hu2,zo,HE.out,.inr (.inr (.inl HU.out)),HST3.out⟩
          ·have t6:(((xv2:Int) % 2)==0)=false:=by simp;omega
           have HV:Hid (v2 % 2=1):=zh zo;clear pu2 pv2 f3 f4 hpp;by_cases f5:u2<v2
           ·have HE:Hid (Nat.gcd u2 (v2-u2)=Nat.gcd u v):=by show _=_;rw[gcd_sub_r zo];exact HG2.out
            go_wp2_with fail
            refine(cmp_r HS2.out.cu.v HS2.out.cv.v zo zo (-1) (cmpI_nat_lt f5)).mono ?_;rintro e w5 ⟨rfl,b5⟩;have h5:=HS2.out.cu.below b5;have h6:=HS2.out.cv.below b5;have b6:=zAb HS2.out.below b5;clear cu2 cv2 HS2 b5;go_wp2_with fail
            refine(sub_r h6.v h5.v zo zo).mono ?_;rintro e w6 ⟨A7,c7,l7,rfl,h7,m7,b7⟩;have HST3:Hid (QSt w w6 a b 0 u2 (v2-u2) _ A7 c9 c7 l9 l7):=⟨h5.below b7,h7,zAb b6 b7⟩;clear h5 h6 h7 b6 b7;go_wp2_with fail
            go_roundg (u2+(v2-u2))
            case measure=>rw[HN2.out];omega
            case rel=>exact⟨u2,v2-u2,_,_,c9,c7,l9,l7,rfl,rfl,rfl,hu2,zo,HE.out,.inr (.inr (.inl HU.out)),HST3.out⟩
           ·have HE:Hid (Nat.gcd (u2-v2) v2=Nat.gcd u v):=by show _=_;rw[gcd_sub_l zo];exact HG2.out
            obtain⟨z,hz⟩:∃z,cmpI (u2:Int) (v2:Int)=z:=⟨_,rfl⟩;have hz0:0≤z:=by rw[←hz];unfold cmpI;rw[fA zo];split<;>omega
            have HZ:=zh hz;clear hz;go_wp2_with fail
            refine(cmp_r HS2.out.cu.v HS2.out.cv.v zo zo z HZ.out).mono ?_;rintro e w5 ⟨rfl,b5⟩;have h5:=HS2.out.cu.below b5;have h6:=HS2.out.cv.below b5;have b6:=zAb HS2.out.below b5;clear cu2 cv2 HS2 b5;go_wp2_with fail
            refine(sub_r h5.v h6.v zo zo).mono ?_;rintro e w6 ⟨A7,c7,l7,rfl,h7,m7,b7⟩;have HST3:Hid (QSt w w6 a b 0 (u2-v2) v2 A7 _ c7 c10 l7 l10):=⟨h7,h6.below b7,zAb b6 b7⟩;clear h5 h6 h7 b6 b7;go_wp2_with fail
            go_roundg (u2-v2+v2)
            case measure=>rw[HN2.out];omega
            case rel=>exact⟨u2-v2,v2,_,_,c7,c10,l7,l10,rfl,rfl,rfl,zo,hv2,HE.out,.inr (.inr (.inr HV.out)),HST3.out⟩
        ·have hz2:u2=0∨v2=0:=.inr (HS2.out.cv.zero' zo);clear pu2;have hsum:shlv (u2+v2) (k:Int)=Nat.gcd a b:=by
          rw[←HG.out,←HG2.out];have:Nat.gcd u2 v2=u2+v2:=by
           rcases hz2 with hh | hh
           ·rw[hh,sE,xB]
           ·rw[hh,wE,jC]
          rw[this];unfold shlv
          rw[fA zo,tA];rfl
         have HSUM:=zh hsum;clear hsum hz2;go_wp2_with fail
         refine(add_r HS2.out.cu.v HS2.out.cv.v zo zo).mono ?_;rintro e w5 ⟨A7,c7,l7,rfl,h7,m7,b7⟩;go_wp2_with fail
         refine(shl_r (k:Int) h7.v zo zo).mono ?_;rintro e w6 ⟨A8,c8,l8,rfl,h8,m8,b8⟩;go_wp2_with fail
         go_ret
         exact⟨A8,c8,l8,rfl,by rw[←HSUM.out];exact h8,zo,zAb HS2.out.below (zAb b7 b8)⟩
       ·have hz2:u2=0∨v2=0:=.inl (HS2.out.cu.zero' zo);have hsum:shlv (u2+v2) (k:Int)=Nat.gcd a b:=by
         rw[←HG.out,←HG2.out];have:Nat.gcd u2 v2=u2+v2:=by
          rcases hz2 with hh | hh
          ·rw[hh,sE,xB]
          ·rw[hh,wE,jC]
         rw[this];unfold shlv
         rw[fA zo,tA];rfl
        have HSUM:=zh hsum;clear hsum hz2;go_wp2_with fail
        refine(add_r HS2.out.cu.v HS2.out.cv.v zo zo).mono ?_;rintro e w5 ⟨A7,c7,l7,rfl,h7,m7,b7⟩;go_wp2_with fail
        refine(shl_r (k:Int) h7.v zo zo).mono ?_;rintro e w6 ⟨A8,c8,l8,rfl,h8,m8,b8⟩;go_wp2_with fail
        go_ret
        exact⟨A8,c8,l8,rfl,by rw[←HSUM.out];exact h8,zo,zAb HS2.out.below (zAb b7 b8)⟩
    ·have t3:(((xu:Int) % 2)==0)=false:=by simp;omega
     have HP:Hid (u=0∨v=0∨u % 2=1∨v % 2=1):=zh zo;clear pu pv g3;have HG:Hid (2 ^ k*Nat.gcd u v=Nat.gcd a b):=by show _=_;rw[←HKA.out,←HKB.out,Nat.gcd_mul_left]
     obtain⟨wo,rfl⟩:∃wo:World,wo=wr:=⟨_,rfl⟩;clear HKA HKB HNN;go_wp2_with fail
     go_loopg [5,6] (u+v) (fun n x y wr=>QRel2 w a b (Nat.gcd u v) n x y wr)
     case atStart=>exact⟨u,v,_,_,c5,c6,l5,l6,rfl,rfl,rfl,hle,hle',rfl,HP.out,⟨HS.out.cu,HS.out.cv,HS.out.below⟩⟩
     case round =>
      clear HS HP hle hle' hl5 hl6;obtain⟨u2,v2,A9,A10,c9,c10,l9,l10,rfl,rfl,hn2,hu2,hv2,hg2,hp2,hst2⟩:=hrel;have hl9:l9≤l:=hst2.cu.len (pB hu2 HN.out);have hl10:l10≤l':=hst2.cv.len (pB hv2 HN'.out);have HG2:=zh hg2;have HP2:=zh hp2;have HN2:=zh hn2;have HS2:=zh hst2;clear hg2 hp2 hn2 hst2;by_cases f1:0<l9
      ·obtain⟨bu2,ou2,xu2,rfl,cu2,pu2⟩:=HS2.out.cu.first f1
       by_cases f2:0<l10
       ·obtain⟨bv2,ov2,xv2,rfl,cv2,pv2⟩:=HS2.out.cv.first f2
        have hu0:=HS2.out.cu.pos f1;have hv0:=HS2.out.cv.pos f2;have hpp:=HP2.out;by_cases f3:u2 % 2=0
        ·have t5:(((xu2:Int) % 2)==0)=true:=by simp;omega
         have HE:Hid (Nat.gcd (u2 / 2) v2=Nat.gcd u v):=by show _=_;rw[gcd_half_left f3 zo];exact HG2.out
         have HV:Hid (v2 % 2=1):=zh zo;clear pu2 pv2 f3 hpp;go_wp2_with fail
         refine(shr_r 1 HS2.out.cu.v zo zo zo).mono ?_;rintro e w5 ⟨A7,c7,l7,rfl,h7,m7,b7⟩;have HST3:Hid (QSt w w5 a b 0 (u2 / 2) v2 A7 _ c7 c10 l7 l10):=⟨h7,HS2.out.cv.below b7,zAb HS2.out.below b7⟩;clear h7 b7 cu2 cv2;go_wp2_with fail
         go_roundg (u2 / 2+v2)
         case measure=>rw[HN2.out];omega
         case rel=>exact⟨u2 / 2,v2,_,_,c7,c10,l7,l10,rfl,rfl,rfl,zo,hv2,HE.out,.inr (.inr (.inr HV.out)),HST3.out⟩
        ·have t5:(((xu2:Int) % 2)==0)=false:=by simp;omega
         have HU:Hid (u2 % 2=1):=zh zo;by_cases f4:v2 % 2=0
         ·have t6:(((xv2:Int) % 2)==0)=true:=by simp;omega
          have HE:Hid (Nat.gcd u2 (v2 / 2)=Nat.gcd u v):=by show _=_;rw[gcd_half_right f4 HU.out];exact HG2.out
          clear pu2 pv2 f3 f4 hpp;go_wp2_with fail
          refine(shr_r 1 HS2.out.cv.v zo zo zo).mono ?_;rintro e w5 ⟨A7,c7,l7,rfl,h7,m7,b7⟩;have HST3:Hid (QSt w w5 a b 0 u2 (v2 / 2) _ A7 c9 c7 l9 l7):=⟨HS2.out.cu.below b7,h7,zAb HS2.out.below b7⟩;clear h7 b7 cu2 cv2;go_wp2_with fail
          go_roundg (u2+v2 / 2)
          case measure=>rw[HN2.out];omega
          case rel=>exact⟨u2,v2 / 2,_,_,c9,c7,l9,l7,rfl,rfl,rfl,hu2,zo,HE.out,.inr (.inr (.inl HU.out)),HST3.out⟩
         ·have t6:(((xv2:Int) % 2)==0)=false:=by simp;omega
          have HV:Hid (v2 % 2=1):=zh zo;clear pu2 pv2 f3 f4 hpp;by_cases f5:u2<v2
          ·have HE:Hid (Nat.gcd u2 (v2-u2)=Nat.gcd u v):=by show _=_;rw[gcd_sub_r zo];exact HG2.out
           go_wp2_with fail
           refine(cmp_r HS2.out.cu.v HS2.out.cv.v zo zo (-1) (cmpI_nat_lt f5)).mono ?_;rintro e w5 ⟨rfl,b5⟩;have h5:=HS2.out.cu.below b5;have h6:=HS2.out.cv.below b5;have b6:=zAb HS2.out.below b5;clear cu2 cv2 HS2 b5;go_wp2_with fail
           refine(sub_r h6.v h5.v zo zo).mono ?_;rintro e w6 ⟨A7,c7,l7,rfl,h7,m7,b7⟩;have HST3:Hid (QSt w w6 a b 0 u2 (v2-u2) _ A7 c9 c7 l9 l7):=⟨h5.below b7,h7,zAb b6 b7⟩;clear h5 h6 h7 b6 b7;go_wp2_with fail
           go_roundg (u2+(v2-u2))
           case measure=>rw[HN2.out];omega
           case rel=>exact⟨u2,v2-u2,_,_,c9,c7,l9,l7,rfl,rfl,rfl,hu2,zo,HE.out,.inr (.inr (.inl HU.out)),HST3.out⟩
          ·have HE:Hid (Nat.gcd (u2-v2) v2=Nat.gcd u v):=by show _=_;rw[gcd_sub_l zo];exact HG2.out
           obtain⟨z,hz⟩:∃z,cmpI (u2:Int) (v2:Int)=z:=⟨_,rfl⟩;have hz0:0≤z:=by rw[←hz];unfold cmpI;rw[fA zo];split<;>omega
           have HZ:=zh hz;clear hz;go_wp2_with fail
           refine(cmp_r HS2.out.cu.v HS2.out.cv.v zo zo z HZ.out).mono ?_;rintro e w5 ⟨rfl,b5⟩;have h5:=HS2.out.cu.below b5;have h6:=HS2.out.cv.below b5;have b6:=zAb HS2.out.below b5;clear cu2 cv2 HS2 b5;go_wp2_with fail
           refine(sub_r h5.v h6.v zo zo).mono ?_;rintro e w6 ⟨A7,c7,l7,rfl,h7,m7,b7⟩;have HST3:Hid (QSt w w6 a b 0 (u2-v2) v2 A7 _ c7 c10 l7 l10):=⟨h7,h6.below b7,zAb b6 b7⟩;clear h5 h6 h7 b6 b7;go_wp2_with fail
           go_roundg (u2-v2+v2)
           case measure=>rw[HN2.out];omega
           case rel=>exact⟨u2-v2,v2,_,_,c7,c10,l7,l10,rfl,rfl,rfl,zo,hv2,HE.out,.inr (.inr (.inr HV.out)),HST3.out⟩
       ·have hz2:u2=0∨v2=0:=.inr (HS2.out.cv.zero' zo);clear pu2;have hsum:shlv (u2+v2) (k:Int)=Nat.gcd a b:=by
         rw[←HG.out,←HG2.out];have:Nat.gcd u2 v2=u2+v2:=by
          rcases hz2 with hh | hh
          ·rw[hh,sE,xB]
          ·rw[hh,wE,jC]
         rw[this];unfold shlv
         rw[fA zo,tA];rfl
        have HSUM:=zh hsum;clear hsum hz2;go_wp2_with fail
        refine(add_r HS2.out.cu.v HS2.out.cv.v zo zo).mono ?_;rintro e w5 ⟨A7,c7,l7,rfl,h7,m7,b7⟩;go_wp2_with fail
        refine(shl_r (k:Int) h7.v zo zo).mono ?_;rintro e w6 ⟨A8,c8,l8,rfl,h8,m8,b8⟩;go_wp2_with fail
        go_ret
        exact⟨A8,c8,l8,rfl,by rw[←HSUM.out];exact h8,zo,zAb HS2.out.below (zAb b7 b8)⟩
      ·have hz2:u2=0∨v2=0:=.inl (HS2.out.cu.zero' zo);have hsum:shlv (u2+v2) (k:Int)=Nat.gcd a b:=by
        rw[←HG.out,←HG2.out];have:Nat.gcd u2 v2=u2+v2:=by
         rcases hz2 with hh | hh
         ·rw[hh,sE,xB]
         ·rw[hh,wE,jC]
        rw[this];unfold shlv
        rw[fA zo,tA];rfl
       have HSUM:=zh hsum;clear hsum hz2;go_wp2_with fail
       refine(add_r HS2.out.cu.v HS2.out.cv.v zo zo).mono ?_;rintro e w5 ⟨A7,c7,l7,rfl,h7,m7,b7⟩;go_wp2_with fail
       refine(shl_r (k:Int) h7.v zo zo).mono ?_;rintro e w6 ⟨A8,c8,l8,rfl,h8,m8,b8⟩;go_wp2_with fail
       go_ret
       exact⟨A8,c8,l8,rfl,by rw[←HSUM.out];exact h8,zo,zAb HS2.out.below (zAb b7 b8)⟩
   ·have HP:Hid (u=0∨v=0∨u % 2=1∨v % 2=1):=zh (.inr (.inl (HS.out.cv.zero' zo)));clear pu;have HG:Hid (2 ^ k*Nat.gcd u v=Nat.gcd a b):=by show _=_;rw[←HKA.out,←HKB.out,Nat.gcd_mul_left]
    obtain⟨wo,rfl⟩:∃wo:World,wo=wr:=⟨_,rfl⟩;clear HKA HKB HNN;go_wp2_with fail
    go_loopg [5,6] (u+v) (fun n x y wr=>QRel2 w a b (Nat.gcd u v) n x y wr)
    case atStart=>exact⟨u,v,_,_,c5,c6,l5,l6,rfl,rfl,rfl,hle,hle',rfl,HP.out,⟨HS.out.cu,HS.out.cv,HS.out.below⟩⟩
    case round =>
     clear HS HP hle hle' hl5 hl6;obtain⟨u2,v2,A9,A10,c9,c10,l9,l10,rfl,rfl,hn2,hu2,hv2,hg2,hp2,hst2⟩:=hrel;have hl9:l9≤l:=hst2.cu.len (pB hu2 HN.out);have hl10:l10≤l':=hst2.cv.len (pB hv2 HN'.out);have HG2:=zh hg2;have HP2:=zh hp2;have HN2:=zh hn2;have HS2:=zh hst2;clear hg2 hp2 hn2 hst2;by_cases f1:0<l9
     ·obtain⟨bu2,ou2,xu2,rfl,cu2,pu2⟩:=HS2.out.cu.first f1
      by_cases f2:0<l10
      ·obtain⟨bv2,ov2,xv2,rfl,cv2,pv2⟩:=HS2.out.cv.first f2
       have hu0:=HS2.out.cu.pos f1;have hv0:=HS2.out.cv.pos f2;have hpp:=HP2.out;by_cases f3:u2 % 2=0
       ·have t5:(((xu2:Int) % 2)==0)=true:=by simp;omega
        have HE:Hid (Nat.gcd (u2 / 2) v2=Nat.gcd u v):=by show _=_;rw[gcd_half_left f3 zo];exact HG2.out
        have HV:Hid (v2 % 2=1):=zh zo;clear pu2 pv2 f3 hpp;go_wp2_with fail
        refine(shr_r 1 HS2.out.cu.v zo zo zo).mono ?_;rintro e w5 ⟨A7,c7,l7,rfl,h7,m7,b7⟩;have HST3:Hid (QSt w w5 a b 0 (u2 / 2) v2 A7 _ c7 c10 l7 l10):=⟨h7,HS2.out.cv.below b7,zAb HS2.out.below b7⟩;clear h7 b7 cu2 cv2;go_wp2_with fail
        go_roundg (u2 / 2+v2)
        case measure=>rw[HN2.out];omega
        case rel=>exact⟨u2 / 2,v2,_,_,c7,c10,l7,l10,rfl,rfl,rfl,zo,hv2,HE.out,.inr (.inr (.inr HV.out)),HST3.out⟩
       ·have t5:(((xu2:Int) % 2)==0)=false:=by simp;omega
        have HU:Hid (u2 % 2=1):=zh zo;by_cases f4:v2 % 2=0
        ·have t6:(((xv2:Int) % 2)==0)=true:=by simp;omega
         have HE:Hid (Nat.gcd u2 (v2 / 2)=Nat.gcd u v):=by show _=_;rw[gcd_half_right f4 HU.out];exact HG2.out
         clear pu2 pv2 f3 f4 hpp;go_wp2_with fail
         refine(shr_r 1 HS2.out.cv.v zo zo zo).mono ?_;rintro e w5 ⟨A7,c7,l7,rfl,h7,m7,b7⟩;have HST3:Hid (QSt w w5 a b 0 u2 (v2 / 2) _ A7 c9 c7 l9 l7):=⟨HS2.out.cu.below b7,h7,zAb HS2.out.below b7⟩;clear h7 b7 cu2 cv2;go_wp2_with fail
         go_roundg (u2+v2 / 2)
         case measure=>rw[HN2.out];omega
         case rel=>exact⟨u2,v2 / 2,_,_,c9,c7,l9,l7,rfl,rfl,rfl,hu2,zo,HE.out,.inr (.inr (.inl HU.out)),HST3.out⟩
        ·have t6:(((xv2:Int) % 2)==0)=false:=by simp;omega
         have HV:Hid (v2 % 2=1):=zh zo;clear pu2 pv2 f3 f4 hpp;by_cases f5:u2<v2
         ·have HE:Hid (Nat.gcd u2 (v2-u2)=Nat.gcd u v):=by show _=_;rw[gcd_sub_r zo];exact HG2.out
          go_wp2_with fail
          refine(cmp_r HS2.out.cu.v HS2.out.cv.v zo zo (-1) (cmpI_nat_lt f5)).mono ?_;rintro e w5 ⟨rfl,b5⟩;have h5:=HS2.out.cu.below b5;have h6:=HS2.out.cv.below b5;have b6:=zAb HS2.out.below b5;clear cu2 cv2 HS2 b5;go_wp2_with fail
          refine(sub_r h6.v h5.v zo zo).mono ?_;rintro e w6 ⟨A7,c7,l7,rfl,h7,m7,b7⟩;have HST3:Hid (QSt w w6 a b 0 u2 (v2-u2) _ A7 c9 c7 l9 l7):=⟨h5.below b7,h7,zAb b6 b7⟩;clear h5 h6 h7 b6 b7;go_wp2_with fail
          go_roundg (u2+(v2-u2))
          case measure=>rw[HN2.out];omega
          case rel=>exact⟨u2,v2-u2,_,_,c9,c7,l9,l7,rfl,rfl,rfl,hu2,zo,HE.out,.inr (.inr (.inl HU.out)),HST3.out⟩
         ·have HE:Hid (Nat.gcd (u2-v2) v2=Nat.gcd u v):=by show _=_;rw[gcd_sub_l zo];exact HG2.out
          obtain⟨z,hz⟩:∃z,cmpI (u2:Int) (v2:Int)=z:=⟨_,rfl⟩;have hz0:0≤z:=by rw[←hz];unfold cmpI;rw[fA zo];split<;>omega
          have HZ:=zh hz;clear hz;go_wp2_with fail
          refine(cmp_r HS2.out.cu.v HS2.out.cv.v zo zo z HZ.out).mono ?_;rintro e w5 ⟨rfl,b5⟩;have h5:=HS2.out.cu.below b5;have h6:=HS2.out.cv.below b5;have b6:=zAb HS2.out.below b5;clear cu2 cv2 HS2 b5;go_wp2_with fail
          refine(sub_r h5.v h6.v zo zo).mono ?_;rintro e w6 ⟨A7,c7,l7,rfl,h7,m7,b7⟩;have HST3:Hid (QSt w w6 a b 0 (u2-v2) v2 A7 _ c7 c10 l7 l10):=⟨h7,h6.below b7,zAb b6 b7⟩;clear h5 h6 h7 b6 b7;go_wp2_with fail
          go_roundg (u2-v2+v2)
          case measure=>rw[HN2.out];omega
          case rel=>exact⟨u2-v2,v2,_,_,c7,c10,l7,l10,rfl,rfl,rfl,zo,hv2,HE.out,.inr (.inr (.inr HV.out)),HST3.out⟩
      ·have hz2:u2=0∨v2=0:=.inr (HS2.out.cv.zero' zo);clear pu2;have hsum:shlv (u2+v2) (k:Int)=Nat.gcd a b:=by
        rw[←HG.out,←HG2.out];have:Nat.gcd u2 v2=u2+v2:=by
         rcases hz2 with hh | hh
         ·rw[hh,sE,xB]
         ·rw[hh,wE,jC]
        rw[this];unfold shlv
        rw[fA zo,tA];rfl
       have HSUM:=zh hsum;clear hsum hz2;go_wp2_with fail
       refine(add_r HS2.out.cu.v HS2.out.cv.v zo zo).mono ?_;rintro e w5 ⟨A7,c7,l7,rfl,h7,m7,b7⟩;go_wp2_with fail
       refine(shl_r (k:Int) h7.v zo zo).mono ?_;rintro e w6 ⟨A8,c8,l8,rfl,h8,m8,b8⟩;go_wp2_with fail
       go_ret
       exact⟨A8,c8,l8,rfl,by rw[←HSUM.out];exact h8,zo,zAb HS2.out.below (zAb b7 b8)⟩
     ·have hz2:u2=0∨v2=0:=.inl (HS2.out.cu.zero' zo);have hsum:shlv (u2+v2) (k:Int)=Nat.gcd a b:=by
       rw[←HG.out,←HG2.out];have:Nat.gcd u2 v2=u2+v2:=by
        rcases hz2 with hh | hh
        ·rw[hh,sE,xB]
        ·rw[hh,wE,jC]
       rw[this];unfold shlv
       rw[fA zo,tA];rfl
      have HSUM:=zh hsum;clear hsum hz2;go_wp2_with fail
      refine(add_r HS2.out.cu.v HS2.out.cv.v zo zo).mono ?_;rintro e w5 ⟨A7,c7,l7,rfl,h7,m7,b7⟩;go_wp2_with fail
      refine(shl_r (k:Int) h7.v zo zo).mono ?_;rintro e w6 ⟨A8,c8,l8,rfl,h8,m8,b8⟩;go_wp2_with fail
      go_ret
      exact⟨A8,c8,l8,rfl,by rw[←HSUM.out];exact h8,zo,zAb HS2.out.below (zAb b7 b8)⟩
  ·have HP:Hid (u=0∨v=0∨u % 2=1∨v % 2=1):=zh (.inl (HS.out.cu.zero' zo));have HG:Hid (2 ^ k*Nat.gcd u v=Nat.gcd a b):=by show _=_;rw[←HKA.out,←HKB.out,Nat.gcd_mul_left]
   obtain⟨wo,rfl⟩:∃wo:World,wo=wr:=⟨_,rfl⟩;clear HKA HKB HNN;go_wp2_with fail
   go_loopg [5,6] (u+v) (fun n x y wr=>QRel2 w a b (Nat.gcd u v) n x y wr)
   case atStart=>exact⟨u,v,_,_,c5,c6,l5,l6,rfl,rfl,rfl,hle,hle',rfl,HP.out,⟨HS.out.cu,HS.out.cv,HS.out.below⟩⟩
   case round =>
    clear HS HP hle hle' hl5 hl6;obtain⟨u2,v2,A9,A10,c9,c10,l9,l10,rfl,rfl,hn2,hu2,hv2,hg2,hp2,hst2⟩:=hrel;have hl9:l9≤l:=hst2.cu.len (pB hu2 HN.out);have hl10:l10≤l':=hst2.cv.len (pB hv2 HN'.out);have HG2:=zh hg2;have HP2:=zh hp2;have HN2:=zh hn2;have HS2:=zh hst2;clear hg2 hp2 hn2 hst2;by_cases f1:0<l9
    ·obtain⟨bu2,ou2,xu2,rfl,cu2,pu2⟩:=HS2.out.cu.first f1
     by_cases f2:0<l10
     ·obtain⟨bv2,ov2,xv2,rfl,cv2,pv2⟩:=HS2.out.cv.first f2
      have hu0:=HS2.out.cu.pos f1;have hv0:=HS2.out.cv.pos f2;have hpp:=HP2.out;by_cases f3:u2 % 2=0
      ·have t5:(((xu2:Int) % 2)==0)=true:=by simp;omega
       have HE:Hid (Nat.gcd (u2 / 2) v2=Nat.gcd u v):=by show _=_;rw[gcd_half_left f3 zo];exact HG2.out
       have HV:Hid (v2 % 2=1):=zh zo;clear pu2 pv2 f3 hpp;go_wp2_with fail
       refine(shr_r 1 HS2.out.cu.v zo zo zo).mono ?_;rintro e w5 ⟨A7,c7,l7,rfl,h7,m7,b7⟩;have HST3:Hid (QSt w w5 a b 0 (u2 / 2) v2 A7 _ c7 c10 l7 l10):=⟨h7,HS2.out.cv.below b7,zAb HS2.out.below b7⟩;clear h7 b7 cu2 cv2;go_wp2_with fail
       go_roundg (u2 / 2+v2)
       case measure=>rw[HN2.out];omega
       case rel=>exact⟨u2 / 2,v2,_,_,c7,c10,l7,l10,rfl,rfl,rfl,zo,hv2,HE.out,.inr (.inr (.inr HV.out)),HST3.out⟩
      ·have t5:(((xu2:Int) % 2)==0)=false:=by simp;omega
       have HU:Hid (u2 % 2=1):=zh zo;by_cases f4:v2 % 2=0
       ·have t6:(((xv2:Int) % 2)==0)=true:=by simp;omega
        have HE:Hid (Nat.gcd u2 (v2 / 2)=Nat.gcd u v):=by show _=_;rw[gcd_half_right f4 HU.out];exact HG2.out
        clear pu2 pv2 f3 f4 hpp;go_wp2_with fail
        refine(shr_r 1 HS2.out.cv.v zo zo zo).mono ?_;rintro e w5 ⟨A7,c7,l7,rfl,h7,m7,b7⟩;have HST3:Hid (QSt w w5 a b 0 u2 (v2 / 2) _ A7 c9 c7 l9 l7):=⟨HS2.out.cu.below b7,h7,zAb HS2.out.below b7⟩;clear h7 b7 cu2 cv2;go_wp2_with fail
        go_roundg (u2+v2 / 2)
        case measure=>rw[HN2.out];omega
        case rel=>exact⟨u2,v2 / 2,_,_,c9,c7,l9,l7,rfl,rfl,rfl,hu2,zo,HE.out,.inr (.inr (.inl HU.out)),HST3.out⟩
       ·have t6:(((xv2:Int) % 2)==0)=false:=by simp;omega
        have HV:Hid (v2 % 2=1):=zh zo;clear pu2 pv2 f3 f4 hpp;by_cases f5:u2<v2
        ·have HE:Hid (Nat.gcd u2 (v2-u2)=Nat.gcd u v):=by show _=_;rw[gcd_sub_r zo];exact HG2.out
         go_wp2_with fail
         refine(cmp_r HS2.out.cu.v HS2.out.cv.v zo zo (-1) (cmpI_nat_lt f5)).mono ?_;rintro e w5 ⟨rfl,b5⟩;have h5:=HS2.out.cu.below b5;have h6:=HS2.out.cv.below b5;have b6:=zAb HS2.out.below b5;clear cu2 cv2 HS2 b5;go_wp2_with fail
         refine(sub_r h6.v h5.v zo zo).mono ?_;rintro e w6 ⟨A7,c7,l7,rfl,h7,m7,b7⟩;have HST3:Hid (QSt w w6 a b 0 u2 (v2-u2) _ A7 c9 c7 l9 l7):=⟨h5.below b7,h7,zAb b6 b7⟩;clear h5 h6 h7 b6 b7;go_wp2_with fail
         go_roundg (u2+(v2-u2))
         case measure=>rw[HN2.out];omega
         case rel=>exact⟨u2,v2-u2,_,_,c9,c7,l9,l7,rfl,rfl,rfl,hu2,zo,HE.out,.inr (.inr (.inl HU.out)),HST3.out⟩
        ·have HE:Hid (Nat.gcd (u2-v2) v2=Nat.gcd u v):=by show _=_;rw[gcd_sub_l zo];exact HG2.out
         obtain⟨z,hz⟩:∃z,cmpI (u2:Int) (v2:Int)=z:=⟨_,rfl⟩;have hz0:0≤z:=by rw[←hz];unfold cmpI;rw[fA zo];split<;>omega
         have HZ:=zh hz;clear hz;go_wp2_with fail
         refine(cmp_r HS2.out.cu.v HS2.out.cv.v zo zo z HZ.out).mono ?_;rintro e w5 ⟨rfl,b5⟩;have h5:=HS2.out.cu.below b5;have h6:=HS2.out.cv.below b5;have b6:=zAb HS2.out.below b5;clear cu2 cv2 HS2 b5;go_wp2_with fail
         refine(sub_r h5.v h6.v zo zo).mono ?_;rintro e w6 ⟨A7,c7,l7,rfl,h7,m7,b7⟩;have HST3:Hid (QSt w w6 a b 0 (u2-v2) v2 A7 _ c7 c10 l7 l10):=⟨h7,h6.below b7,zAb b6 b7⟩;clear h5 h6 h7 b6 b7;go_wp2_with fail
         go_roundg (u2-v2+v2)
         case measure=>rw[HN2.out];omega
         case rel=>exact⟨u2-v2,v2,_,_,c7,c10,l7,l10,rfl,rfl,rfl,zo,hv2,HE.out,.inr (.inr (.inr HV.out)),HST3.out⟩
     ·have hz2:u2=0∨v2=0:=.inr (HS2.out.cv.zero' zo);clear pu2;have hsum:shlv (u2+v2) (k:Int)=Nat.gcd a b:=by
       rw[←HG.out,←HG2.out];have:Nat.gcd u2 v2=u2+v2:=by
        rcases hz2 with hh | hh
        ·rw[hh,sE,xB]
        ·rw[hh,wE,jC]
       rw[this];unfold shlv
       rw[fA zo,tA];rfl
      have HSUM:=zh hsum;clear hsum hz2;go_wp2_with fail
      refine(add_r HS2.out.cu.v HS2.out.cv.v zo zo).mono ?_;rintro e w5 ⟨A7,c7,l7,rfl,h7,m7,b7⟩;go_wp2_with fail
      refine(shl_r (k:Int) h7.v zo zo).mono ?_;rintro e w6 ⟨A8,c8,l8,rfl,h8,m8,b8⟩;go_wp2_with fail
      go_ret
      exact⟨A8,c8,l8,rfl,by rw[←HSUM.out];exact h8,zo,zAb HS2.out.below (zAb b7 b8)⟩
    ·have hz2:u2=0∨v2=0:=.inl (HS2.out.cu.zero' zo);have hsum:shlv (u2+v2) (k:Int)=Nat.gcd a b:=by
      rw[←HG.out,←HG2.out];have:Nat.gcd u2 v2=u2+v2:=by
       rcases hz2 with hh | hh
       ·rw[hh,sE,xB]
       ·rw[hh,wE,jC]
      rw[this];unfold shlv
      rw[fA zo,tA];rfl
     have HSUM:=zh hsum;clear hsum hz2;go_wp2_with fail
     refine(add_r HS2.out.cu.v HS2.out.cv.v zo zo).mono ?_;rintro e w5 ⟨A7,c7,l7,rfl,h7,m7,b7⟩;go_wp2_with fail
     refine(shl_r (k:Int) h7.v zo zo).mono ?_;rintro e w6 ⟨A8,c8,l8,rfl,h8,m8,b8⟩;go_wp2_with fail
     go_ret
     exact⟨A8,c8,l8,rfl,by rw[←HSUM.out];exact h8,zo,zAb HS2.out.below (zAb b7 b8)⟩
end Go.Proofs.YteggjbgbknkoiaaGreatDoor
namespace Te
theorem val_set:∀(us:List Nat) (j d:Nat),j<us.length→val (us.set j d)+256 ^ j*Tw.dg us j=val us+256 ^ j*d
 | [],_,_,h=>absurd h (by simp)
 | x :: us,0,d,_=>by
  have:Tw.dg (x :: us) 0=x:=rfl;rw[this,List.set_cons_zero,val_cons,val_cons];omega
 | x :: us,j+1,d,h=>by
  have ih:=val_set us j d (by simpa using h);have:Tw.dg (x :: us) (j+1)=Tw.dg us j:=rfl;rw[this,List.set_cons_succ,val_cons,val_cons,B_eq,dB,tA (256 ^ j) 256,wA,wA];omega
def MulO (xs ys zs:List Nat) (i:Nat):Prop:=Ok zs∧val zs=val (xs.take i)*val ys
theorem MulO.start (xs ys:List Nat) (n:Nat):MulO xs ys (List.replicate n 0) 0:=⟨Ok.replicate n,by simp[val_replicate,val]⟩
def MulN (x:Nat) (ys zs us:List Nat) (i k cy:Nat):Prop:=Ok us∧cy<256∧val us+256 ^ (i+k)*cy=val zs+256 ^ i*(x*val (ys.take k))
theorem MulN.start (x:Nat) (ys:List Nat) {zs:List Nat} (h:Ok zs) (i:Nat):MulN x ys zs zs i 0 0:=⟨h,zo,by simp[val]⟩
theorem MulN.step {x:Nat} {ys zs us:List Nat} {i k cy s:Nat} (h:MulN x ys zs us i k cy) (hj:i+k<us.length) (hx:x<256) (hy:Ok ys) (hs:s=Tw.dg us (i+k)+cy+x*Tw.dg ys k):MulN x ys zs (us.set (i+k) (s % 256)) i (k+1) (s / 256):=by
 obtain⟨h1,h2,h3⟩:=h;have d1:Tw.dg us (i+k)<256:=dg_lt h1 _;have d2:Tw.dg ys k<256:=dg_lt hy _;have d3:x*Tw.dg ys k≤255*255:=pC zo zo;refine⟨h1.set _ _ (by rw[B_eq];omega),zo,?_⟩;have e1:=val_set us (i+k) (s % 256) hj;have e2:val (ys.take (k+1))=val (ys.take k)+B ^ k*Tw.dg ys k:=val_take_succ' ys k;rw[e2,B_eq,jA,jA];have e3:256 ^ (i+(k+1))*(s / 256)=256 ^ (i+k)*(256*(s / 256)):=by rw[←qE,dB,wA]
 have e4:256 ^ (i+k)*(s % 256)+256 ^ (i+k)*(256*(s / 256))=256 ^ (i+k)*s:=by rw[←jA,nF]
 have e5:256 ^ (i+k)*s=256 ^ (i+k)*Tw.dg us (i+k)+256 ^ (i+k)*cy+256 ^ (i+k)*(x*Tw.dg ys k):=by rw[hs,jA,jA]
 have e6:256 ^ i*(x*(256 ^ k*Tw.dg ys k))=256 ^ (i+k)*(x*Tw.dg ys k):=by rw[wB,kD x,wA]
 omega
theorem MulN.total {xs ys zs us:List Nat} {i k cy:Nat} (h:MulN (Tw.dg xs i) ys zs us i k cy) (h0:MulO xs ys zs i) (hx:Ok xs) (hy:Ok ys) (hk:0<cy):k≤ys.length:=by
 obtain⟨h1,h2,h3⟩:=h;have e1:val (xs.take (i+1))=val (xs.take i)+B ^ i*Tw.dg xs i:=val_take_succ' xs i;have l1:=val_take_lt hx (i+1);have l2:=val_lt hy;have l3:val (ys.take k)≤val ys:=by
  have:=val_split ys k;omega
 rw[B_eq] at e1 l1 l2;have h4:256 ^ (i+k)≤val (xs.take (i+1))*val ys:=by
  have a1:256 ^ (i+k)≤256 ^ (i+k)*cy:=Nat.le_mul_of_pos_right _ hk;have a2:256 ^ i*(Tw.dg xs i*val (ys.take k))≤256 ^ i*(Tw.dg xs i*val ys):=qB _ (qB _ l3);rw[e1,aC,wA];have:=h0.2;omega
 have h5:val (xs.take (i+1))*val ys<256 ^ (i+1)*256 ^ ys.length:=Nat.mul_lt_mul'' l1 l2;rw[←wB] at h5;have h6:256 ^ (i+k)<256 ^ (i+1+ys.length):=pB h4 h5;have:=(Nat.pow_lt_pow_iff_right zo).1 h6;omega
theorem MulN.done {xs ys zs us:List Nat} {i k:Nat} (h:MulN (Tw.dg xs i) ys zs us i k 0) (h0:MulO xs ys zs i) (hk:ys.length≤k):MulO xs ys us (i+1):=by
 obtain⟨h1,h2,h3⟩:=h;have e1:val (xs.take (i+1))=val (xs.take i)+B ^ i*Tw.dg xs i:=val_take_succ' xs i;refine⟨h1,?_⟩;rw[val_take_all hk,h0.2,pE,jC] at h3;rw[h3,e1,B_eq,aC,wA]
end Te
namespace Go.Proofs.YteggjbgbknkoiaaGreatDoor
open Go.RowKit Tw
def cellsS (ys:List Nat):Array Value:=(ys.map fun(y:Nat)=>Value.int .i64 (y:Int)).toArray
def RowS (w:World) (g:Nat) (ys:List Nat):Prop:=w.heap[g]?=some (.cells (cellsS ys) 3 (0,0))
section
variable {w w':World} {g:Nat} {ys:List Nat}
theorem RowS.lt (h:RowS w g ys):g<w.heap.size:=(uF.1 h).1
theorem RowS.cell (h:RowS w g ys) {k:Nat} (hk:k<ys.length):w.cell? ⟨g,k,none⟩=some (.int .i64 (dg ys k)):=by
 rw[cell_of_row w g k _ _ _ h];unfold cellsS
 rw[List.getElem?_toArray,rA,dg_get hk];rfl
theorem RowS.frozen (h:RowS w g ys) (k:Nat):w.frozen? ⟨g,k,none⟩=false:=frozen_of_row w g k _ _ h
theorem RowS.set (h:RowS w g ys) (k x:Nat):RowS (w.setCell ⟨g,k,none⟩ (.int .i64 (x:Int))) g (ys.set k x):=by
 have:=heap_setCell_same w g k _ _ (.int .i64 (x:Int)) h;unfold RowS
 rw[this];congr 2
 unfold cellsS
 rw[List.setIfInBounds_toArray,List.map_set]
theorem RowS.below (h:RowS w g ys) {B:Nat} (hb:Below B w w') (hB:g<B):RowS w' g ys:=(hb.block g hB).trans h
theorem RowS.drewN (h:RowS w g ys) (n:Nat):RowS (w.drewN n) g ys:=h
theorem RowS.new (w:World) (ys:List Nat):RowS (w.alloc (.cells (cellsS ys) 3)) w.heap.size ys:=heap_alloc_new w _
theorem RowS.sm (h:RowS w g ys) (ho:Te.Ok ys):Sm w (some ⟨g,0,none⟩) ys.length ys :=
 ⟨ho,cA _,(fun e=>by cases e),fun _=>⟨g,0,rfl,fun k hk=>by rw[xB];exact h.cell hk⟩⟩
end
theorem cellsS_zero (n:Nat):madeCells #[.int .i64 0] n=cellsS (List.replicate n 0):=by
 apply Array.ext'
 rw[toList_madeCells_one];simp[cellsS,List.map_replicate]
theorem und_ints:Tryz.prog.underlying 40=some (.slice 3):=Tryz.underlying40
theorem make_ints (n:Nat) (hn:n≤16000000) (w:World) :
  (Instr.makeSlice 40 (.int .i64 (n:Int)) (.int .i64 (n:Int))).run Tryz.prog w=.ok (.slice (some ⟨w.heap.size,0,none⟩) n n) (w.alloc (.cells (cellsS (List.replicate n 0)) 3)):=by
 rw[←cellsS_zero];exact run_make_row' 40 3 (.int .i64 0) 8 und_ints infoInt rfl .i64 .i64 n zo zo w
theorem mul_r {w:World} {A A':Option Addr} {c c' l l' n n':Nat} (h:V w A c l n) (h':V w A' c' l' n') (hl:l≤40000) (hl':l'≤40000) :
  Calls Tryz.prog 125 #[.slice A l c,.slice A' l' c'] w (Tells w (n*n') (l+l'+1)):=by
 have hn:=h.lt;have hn':=h'.lt;go_enter Tryz.func125,Tryz.ntmps125
 go_wp2_with fail
 refine(small_v h zo).mono ?_;rintro e w1 ⟨A1,c1,l1,rfl,h1,b1⟩;have s1:=h1.small hn;go_wp2_with fail
 refine(small_v (h'.below b1) zo).mono ?_;rintro e w2 ⟨A2,c2,l2,rfl,h2,b2⟩;have s2:=h2.small hn';replace h1:=h1.below b2;replace b2:=zAb b1 b2;clear h h' hn hn' b1;obtain⟨xs,hxs⟩:∃xs,xs=Te.limbs n:=⟨_,rfl⟩;obtain⟨ys,hys⟩:∃ys,ys=Te.limbs n':=⟨_,rfl⟩;have HX:Hid (Sm w2 A1 c1 xs∧xs.length=l1):=by rw[hxs];exact h1
 have HY:Hid (Sm w2 A2 c2 ys∧ys.length=l2):=by rw[hys];exact h2
 have HE:Hid (Te.val xs*Te.val ys=n*n'):=by show _=_;rw[hxs,hys,Te.val_limbs,Te.val_limbs]
 clear h1 h2 hxs hys;have hmk:=make_ints (l1+l2+1) zo;rw[show((l1+l2+1:Nat):Int)=(l1:Int)+l2+1 from by omega] at hmk;obtain⟨g,hg⟩:∃g,g=w2.heap.size:=⟨_,rfl⟩;go_wp2_with fail
 rw[←hg];have HG:=zh hg;clear hg hmk;go_loopw [8] (fun i wr=>∃k:Nat,k≤l1∧i=.int .i64 k∧∃zs,zs.length=l1+l2+1∧RowS wr g zs∧Te.MulO xs ys zs k∧Below w2.heap.size w2 wr) (fun i _=>l1-(intOf i).toNat)
 case atStart=>exact⟨0,nA _,rfl,List.replicate (l1+l2+1) 0,by simp,by rw[HG.out];exact RowS.new w2 _,Te.MulO.start _ _ _,(Below.refl _ _).alloc (cA _) _⟩
 case round =>
  obtain⟨k,hk,rfl,zs,hz,hr,hi,hb⟩:=hrel;by_cases hlt:k<l1
  ·have HZ:=zh hz;have HI:=zh hi;have dk:dg xs k<256:=Te.dg_lt HX.out.1.ok k;obtain⟨ba,oa,rfl,ca⟩:=HX.out.1.cells (by rw[HX.out.2];omega);have CA:=zh (ca k (by rw[HX.out.2];omega));clear hz hi ca;obtain⟨wo,hwo⟩:∃wo:World,wo=wr:=⟨_,rfl⟩;go_wp2_with fail
   go_loopw [9,10] (fun cv jv wi=>∃j cy:Nat,j≤l2+1∧jv=.int .i64 j∧cv=.int .i64 cy∧∃us,us.length=l1+l2+1∧RowS wi g us∧Te.MulN (dg xs k) ys zs us k j cy∧Below w2.heap.size w2 wi) (fun _ jv _=>l2+1-(intOf jv).toNat)
   case atStart=>exact⟨0,0,nA _,rfl,rfl,zs,HZ.out,hr,Te.MulN.start _ _ HI.out.1 _,hb⟩
   case round =>
    clear hr hb hwo;obtain⟨j,cy,hj,rfl,rfl,us,hu,hru,hin,hbi⟩:=hrel;have hcy:cy<256:=hin.2.1;have HUL:=zh hu;have hjt:0<cy→j≤l2:=fun hp=>by rw[←HY.out.2];exact hin.total HI.out HX.out.1.ok HY.out.1.ok hp
    have HIN:=zh hin;have du:dg us (k+j)<256:=Te.dg_lt hin.1 (k+j);clear hu hin;by_cases hjl:j<l2
    ·have hcu:=hru.cell (k:=k+j) (by rw[HUL.out];omega);have hfr:=hru.frozen (k+j);obtain⟨bb,ob,rfl,cb⟩:=HY.out.1.cells (by rw[HY.out.2];omega);have hcx:=(hbi.cell (World.block_lt_of_cell? w2 _ CA.out)).trans CA.out;have hcb:=(hbi.cell (World.block_lt_of_cell? w2 _ (cb j (by rw[HY.out.2];exact hjl)))).trans (cb j (by rw[HY.out.2];exact hjl));have dj:dg ys j<256:=Te.dg_lt HY.out.1.ok j;have i1:(k:Int)<l1:=zo;have i2:(j:Int)<l2:=zo;have i3:(0:Int)≤k:=zo;have i4:(0:Int)≤j:=zo;obtain⟨p,hp⟩:∃p,dg xs k*dg ys j=p:=⟨_,rfl⟩;have hpb:p≤65025:=by rw[←hp];exact pC (show dg xs k≤255 by omega) (show dg ys j≤255 by omega)
     have u1:IntKind.i64.wrap (((dg xs k:Nat):Int)*((dg ys j:Nat):Int))=(p:Int):=by rw[←hp,IntWalk.i64_in _ (by rw[←Int.natCast_mul,hp];omega)];simp
     have HS:=zh (HIN.out.step (s:=dg us (k+j)+cy+p) (by rw[HUL.out];omega) dk HY.out.1.ok (by rw[hp]));have u2:IntKind.i64.wrap (((dg us (k+j):Nat):Int)+(cy:Int)+(p:Int))=((dg us (k+j):Nat):Int)+(cy:Int)+(p:Int):=IntWalk.i64_in _ zo;clear hp cb hjt;go_wp2_with fail
     go_quiet (fail)
     go_wp2_with fail
     have hw:((((dg us (k+j):Nat):Int)+(cy:Int)+(p:Int)) % 256)=(((dg us (k+j)+cy+p) % 256:Nat):Int):=zo;rw[hw];clear hw;have HRU:=zh ((hru.set (k+j) ((dg us (k+j)+cy+p) % 256)).drewN nq);have HBI:=zh (zAj (hbi.setCell (p:=⟨g,k+j,none⟩) (by rw[HG.out];exact cA _) (.int .i64 (((dg us (k+j)+cy+p) % 256:Nat):Int))) nq);go_roundw
     case rel=>exact⟨j+1,(dg us (k+j)+cy+p) / 256,zo,by go_num,by go_num,_,by rw[nB];exact HUL.out,HRU.out,HS.out,HBI.out⟩
     case measure=>simp[intOf];omega
    ·have HYZ:Hid (dg ys j=0):=zh (Tw.dg_past (by rw[HY.out.2];omega));rcases mB cy with rfl | hcp
     ·have HD:=zh (HIN.out.done HI.out (by rw[HY.out.2];omega));go_wp2_with fail
      go_roundw
      case rel=>exact⟨k+1,zo,by go_num,us,HUL.out,hru,HD.out,hbi⟩
      case measure=>simp[intOf];omega
     ·have hjl2:=hjt hcp;have hcu:=hru.cell (k:=k+j) (by rw[HUL.out];omega);have hfr:=hru.frozen (k+j);have i3:(0:Int)≤k:=zo;have i4:(0:Int)≤j:=zo;have HS:=zh (HIN.out.step (s:=dg us (k+j)+cy) (by rw[HUL.out];omega) dk HY.out.1.ok (by rw[HYZ.out,pE,jC]));clear hjt;go_wp2_with fail
      have hw:((((dg us (k+j):Nat):Int)+(cy:Int)) % 256)=(((dg us (k+j)+cy) % 256:Nat):Int):=zo;rw[hw];clear hw;have HRU:=zh (hru.set (k+j) ((dg us (k+j)+cy) % 256));have HBI:=zh (hbi.setCell (p:=⟨g,k+j,none⟩) (by rw[HG.out];exact cA _) (.int .i64 (((dg us (k+j)+cy) % 256:Nat):Int)));go_roundw
      case rel=>exact⟨j+1,(dg us (k+j)+cy) / 256,zo,by go_num,by go_num,_,by rw[nB];exact HUL.out,HRU.out,HS.out,HBI.out⟩
      case measure=>simp[intOf];omega
  ·obtain rfl:k=l1:=zo;have hval:Te.val zs=n*n':=by rw[hi.2,←HE.out,Te.val_take_all (by rw[HX.out.2];omega)]
   have hsm:=hr.sm hi.1;rw[hz] at hsm;have HL:=zh (large_s hsm hz hval zo);clear hz hi hval hsm;go_wp2_with fail
   refine HL.out.mono ?_;rintro e w4 ⟨A4,c4,l4,rfl,h4,m4,b4⟩;go_wp2_with fail
   go_ret
   exact⟨A4,c4,l4,rfl,h4,zo,zAb b2 (zAb hb b4)⟩
end Go.Proofs.YteggjbgbknkoiaaGreatDoor
namespace Te
def DivI (a b t R:Nat) (q:List Nat):Prop:=Ok q∧R=a / 2 ^ t % b∧val q=a / 2 ^ t / b*2 ^ t
theorem DivI.start {a b n:Nat} (ha:a<2 ^ (8*n)):DivI a b (8*n) 0 (List.replicate n 0):=by
 refine⟨Ok.replicate n,?_,?_⟩
 ·rw[aD ha,Nat.zero_mod]
 ·rw[aD ha,val_replicate,Nat.zero_div,nG]
theorem half_pow (a t:Nat):a / 2 ^ t=2*(a / 2 ^ (t+1))+a / 2 ^ t % 2:=by
 have:a / 2 ^ (t+1)=a / 2 ^ t / 2:=by rw[dB,bF]
 rw[this];omega
theorem digit_bit (a i k:Nat) (hk:k<8):Tw.dg (limbs a) i / 2 ^ k % 2=a / 2 ^ (8*i+k) % 2:=by
 have h1:Tw.dg (limbs a) i=a / 256 ^ i % 256:=by
  obtain⟨t,ht⟩:∃t,val (limbs a) / 256 ^ i=Tw.dg (limbs a) i+256*t:=by
   have h1:=val_split (limbs a) i;have h2:=val_take_lt (ok_limbs a) i;rw[B_eq] at h1 h2;have h0:val (limbs a) / 256 ^ i=val ((limbs a).drop i):=by
    rw[h1,yD _ _ (rE zo),aD h2,xB]
   have h3:=val_split ((limbs a).drop i) 1;have e1:val (((limbs a).drop i).take 1)=Tw.dg (limbs a) i:=by
    rw[val_take_succ'];have a1:((limbs a).drop i).getD 0 0=Tw.dg (limbs a) i:=dg_drop (limbs a) i 0;rw[a1];simp[val]
   refine⟨val (((limbs a).drop i).drop 1),?_⟩;rw[h0,h3,e1,B_eq,Nat.pow_one]
  have h4:Tw.dg (limbs a) i<256:=dg_lt (ok_limbs a) i;rw[val_limbs] at ht;rw[ht];omega
 have h2:a / 2 ^ (8*i+k)=a / 256 ^ i / 2 ^ k:=by rw[wB,eE,bF]
 rw[h1,h2];generalize a / 256 ^ i=x
 obtain rfl | rfl | rfl | rfl | rfl | rfl | rfl | rfl:k=0∨k=1∨k=2∨k=3∨k=4∨k=5∨k=6∨k=7:=zo;all_goals omega
theorem DivI.less {a b t R d:Nat} {q:List Nat} (h:DivI a b (t+1) R q) (hd:d=a / 2 ^ t % 2) (hlt:2*R+d<b):DivI a b t (2*R+d) q:=by
 obtain⟨h1,h2,h3⟩:=h;have e:=half_pow a t;rw[←hd] at e;obtain⟨P,hP1⟩:∃P,a / 2 ^ (t+1)=P:=⟨_,rfl⟩;obtain⟨Q,hQ⟩:∃Q,P / b=Q:=⟨_,rfl⟩;rw[hP1] at h2 h3 e;rw[hQ] at h3;have hd1:=dC P b;rw[←h2,hQ] at hd1;have hP:a / 2 ^ t=b*(2*Q)+(2*R+d):=by
  rw[e,kD b 2 Q];omega
 have hb:0<b:=zo;refine⟨h1,?_,?_⟩
 ·rw[hP,Nat.mul_add_mod,jD hlt]
 ·rw[hP,Nat.mul_add_div hb,aD hlt,jC,h3,dB,tA 2 Q,wA,tA 2]
theorem DivI.more {a b i k R d:Nat} {q:List Nat} (h:DivI a b (8*i+k+1) R q) (hk:k<8) (hd:d=a / 2 ^ (8*i+k) % 2) (hge:b≤2*R+d) (hb:0<b) (hi:i<q.length) :
  Tw.dg q i+2 ^ k<256∧DivI a b (8*i+k) (2*R+d-b) (q.set i (Tw.dg q i+2 ^ k)):=by
 obtain⟨h1,h2,h3⟩:=h;have hR:R<b:=by rw[h2];exact gC _ hb
 have e:=half_pow a (8*i+k);rw[←hd] at e;have hd2:d≤1:=zo;obtain⟨P,hP1⟩:∃P,a / 2 ^ (8*i+k+1)=P:=⟨_,rfl⟩;obtain⟨Q,hQ⟩:∃Q,P / b=Q:=⟨_,rfl⟩;rw[hP1] at h2 h3 e;rw[hQ] at h3;have hd1:=dC P b;rw[←h2,hQ] at hd1;have hP:a / 2 ^ (8*i+k)=b*(2*Q+1)+(2*R+d-b):=by
  rw[e,jA,kD b 2 Q,wC];omega
 have hlt:2*R+d-b<b:=zo;have hq:Tw.dg q i+2 ^ k<256:=by
  obtain⟨t,ht⟩:∃t,val q / 256 ^ i=Tw.dg q i+256*t:=by
   have g1:=val_split q i;have g2:=val_take_lt h1 i;rw[B_eq] at g1 g2;have h0:val q / 256 ^ i=val (q.drop i):=by
    rw[g1,yD _ _ (rE zo),aD g2,xB]
   have g3:=val_split (q.drop i) 1;have e1:val ((q.drop i).take 1)=Tw.dg q i:=by
    rw[val_take_succ'];have a1:(q.drop i).getD 0 0=Tw.dg q i:=dg_drop q i 0;rw[a1];simp[val]
   refine⟨val ((q.drop i).drop 1),?_⟩;rw[h0,g3,e1,B_eq,Nat.pow_one]
  have h4:Tw.dg q i<256:=dg_lt h1 i;rw[h3] at ht;have h5:Q*2 ^ (8*i+k+1) / 256 ^ i=Q*2 ^ (k+1):=by
   rw[show 8*i+k+1=8*i+(k+1) from by omega,wB,eE,kD];exact Nat.mul_div_cancel_left _ (rE zo)
  rw[h5] at ht;obtain rfl | rfl | rfl | rfl | rfl | rfl | rfl | rfl:k=0∨k=1∨k=2∨k=3∨k=4∨k=5∨k=6∨k=7:=zo;all_goals omega
 refine⟨hq,h1.set _ _ (by rw[B_eq];exact hq),?_,?_⟩
 ·rw[hP,Nat.mul_add_mod,jD hlt]
 ·have h6:=val_set q i (Tw.dg q i+2 ^ k) hi;rw[hP,Nat.mul_add_div hb,aD hlt,jC];rw[h3] at h6;have h7:256 ^ i*2 ^ k=2 ^ (8*i+k):=by rw[wB,eE]
  rw[jA,h7] at h6;have h8:Q*2 ^ (8*i+k+1)=2*Q*2 ^ (8*i+k):=by rw[dB,tA 2 Q,wA,tA 2]
  rw[aC,dE];omega
theorem DivI.done {a b R:Nat} {q:List Nat} (h:DivI a b 0 R q):R=a % b∧val q=a / b:=by
 obtain⟨_,h2,h3⟩:=h;rw[Nat.pow_zero,Nat.div_one] at h2 h3;exact⟨h2,by rw[h3,wC]⟩
end Te
namespace Go.Proofs.YteggjbgbknkoiaaGreatDoor
open Go.RowKit Tw
theorem and_one:∀x,x<256→bits BinOp.and IntKind.i64 ((x:Nat):Int) 1=((x % 2:Nat):Int):=by decide +kernel
theorem wrap_bit (x j:Nat) (h:x+2 ^ j<256):wrap64 ((x:Int)+wrap64 (2 ^ j))=((x+2 ^ j:Nat):Int):=by
 have e1:((2:Int) ^ j)=((2 ^ j:Nat):Int):=by simp
 rw[e1];generalize 2 ^ j=p at *
 rw[IntWalk.wrap64_in (p:Int) ⟨zo,zo⟩,IntWalk.wrap64_in _ ⟨zo,zo⟩];omega
theorem D.none (w:World):D w none 0 0 0:=⟨by rw[Te.limbs_zero];exact Sm.nil w,Te.nl_zero⟩
theorem divmod_r {w:World} {A A':Option Addr} {c c' l l' a b:Nat} (h:V w A c l a) (h':V w A' c' l' b) (hl:l≤40000) (hl':l'≤40000) (hb0:b≠0) :
  Calls Tryz.prog 181 #[.slice A l c,.slice A' l' c'] w (Tells2 w (a / b) (a % b) (l+1) (l'+1)):=by
 have hn:=h.lt;have hn':=h'.lt;go_enter Tryz.func181,Tryz.ntmps181
 go_wp2_with fail
 refine(small_v h zo).mono ?_;rintro e w1 ⟨A1,c1,l1,rfl,h1,b1⟩;have s1:=h1.small hn;go_wp2_with fail
 refine(small_v (h'.below b1) zo).mono ?_;rintro e w2 ⟨A2,c2,l2,rfl,h2,b2⟩;have s2:=h2.small hn';replace h1:=h1.below b2;replace b2:=zAb b1 b2;have t0:((l2:Int)==0)=false:=by
  have:l2≠0:=by rintro rfl;exact hb0 h2.zero
  simp;omega
 have HB:=zh hn';have HA:Hid (a<2 ^ (8*l1)):=by
  show _<_
  have:=Te.lt_pow_nl a;rw[h1.2,Te.B_eq] at this;rw[eE];exact this
 clear h h' hn hn' b1;have HX:=zh h1;have HY:=zh h2;have hmk:=make_ints l1 zo;obtain⟨g,hg⟩:∃g,g=w2.heap.size:=⟨_,rfl⟩;clear h1 h2;go_wp2_with fail
 rw[←hg];have HG:=zh hg;clear hg hmk;go_loopw [9,10] (fun r i wr=>∃(k R:Nat) (A9:Option Addr) (c9 l9:Nat) (qs:List Nat),k≤l1∧i=.int .i64 ((k:Int)-1)∧r=.slice A9 l9 c9∧D wr A9 c9 l9 R∧RowS wr g qs∧qs.length=l1∧R<b∧(∀a9,A9=some a9→a9.block≠g)∧Te.DivI a b (8*k) R qs∧Below w2.heap.size w2 wr) (fun _ i _=>((intOf i)+1).toNat)
 case atStart=>exact⟨l1,0,none,0,0,List.replicate l1 0,cA _,rfl,rfl,D.none _,by rw[HG.out];exact RowS.new w2 _,by simp,zo,nofun,Te.DivI.start HA.out,(Below.refl _ _).alloc (cA _) _⟩
 case round =>
  obtain⟨k,R,A9,c9,l9,qs,hk,rfl,rfl,hd9,hrow,hql,hRb,hne,hdi,hbw⟩:=hrel;rcases mB k with rfl | hkp
  ·clear hne;obtain⟨e1,e2⟩:=hdi.done;have hsm:=hrow.sm hdi.1;rw[hql] at hsm;have HL:=zh (large_s hsm hql e2 zo);have HD:=zh hd9;have HE:=zh e1;have hRl:l9≤8*l':=hd9.small (Nat.lt_trans hRb HB.out);clear hsm hql e1 e2 hd9 hrow hdi;go_wp2_with fail
   refine HL.out.mono ?_;rintro e w4 ⟨A4,c4,l4,rfl,h4,m4,b4⟩;go_wp2_with fail
   refine(large_d (HD.out.below b4) zo).mono ?_;rintro e w5 ⟨A5,c5,l5,rfl,h5,m5,b5⟩;go_wp2_with fail
   go_ret2
   exact⟨A4,c4,l4,A5,c5,l5,rfl,h4.below b5,by rw[←HE.out];exact h5,zo,zo,zAb b2 (zAb hbw (zAb b4 b5))⟩
  ·obtain⟨i,rfl⟩:∃i,k=i+1:=⟨k-1,zo⟩;have ei:((i+1:Nat):Int)-1=(i:Int):=zo;rw[ei];clear ei;have HQ:=zh hql;have HNE:=zh hne;have HD:=zh hd9;have HR:=zh hrow;have HI:=zh hdi;have HBW:=zh hbw;obtain⟨ba,oa,rfl,ca⟩:=HX.out.1.cells (by show 0<Te.nl _;rw[HX.out.2];omega);have CA:=zh (ca i (by show i<Te.nl _;rw[HX.out.2];omega));have dk:dg (Te.limbs a) i<256:=Te.dg_lt (Te.ok_limbs a) i;clear hql hd9 hrow hdi ca hne;obtain⟨wo,hwo⟩:∃wo:World,wo=wr:=⟨_,rfl⟩;clear hbw;go_wp2_with fail
   go_loopw [9,11] (fun r bt wi=>∃(m R:Nat) (A9:Option Addr) (c9 l9:Nat) (qs:List Nat),m≤8∧bt=.int .i64 ((m:Int)-1)∧r=.slice A9 l9 c9∧D wi A9 c9 l9 R∧RowS wi g qs∧qs.length=l1∧R<b∧(∀a9,A9=some a9→a9.block≠g)∧Te.DivI a b (8*i+m) R qs∧Below w2.heap.size w2 wi) (fun _ bt _=>((intOf bt)+1).toNat)
   case atStart=>exact⟨8,R,A9,c9,l9,qs,zo,rfl,rfl,HD.out,HR.out,HQ.out,hRb,HNE.out,HI.out,HBW.out⟩
   case round =>
    clear HQ HD HR HI HBW hwo hRb HNE;obtain⟨m,R,A9,c9,l9,qs,hm,rfl,rfl,hd9,hrow,hql,hRb,hne,hdi,hbw⟩:=hrel;have HQ:=zh hql;have HNE:=zh hne;have HD:=zh hd9;have HI:=zh hdi;clear hne;have hl9:l9≤8*l':=hd9.small (Nat.lt_trans hRb HB.out);rcases mB m with rfl | hmp
    ·have HBW:=zh hbw;have HR:=zh hrow;clear hql hd9 hrow hdi hbw;go_wp2_with fail
     go_roundw
     case rel=>exact⟨i,R,A9,c9,l9,qs,zo,rfl,rfl,HD.out,HR.out,HQ.out,hRb,HNE.out,HI.out,HBW.out⟩
     case measure=>simp[intOf]
    ·obtain⟨j,rfl⟩:∃j,m=j+1:=⟨m-1,zo⟩;have ej:((j+1:Nat):Int)-1=(j:Int):=zo;rw[ej];clear ej;have hcx:=(hbw.cell (World.block_lt_of_cell? w2 _ CA.out)).trans CA.out;have i1:(0:Int)≤i:=zo;have i2:(i:Int)<l1:=zo;have i3:(0:Int)≤j:=zo;obtain⟨d,hd⟩:∃d,dg (Te.limbs a) i / 2 ^ j % 2=d:=⟨_,rfl⟩;have hdv:bits BinOp.and IntKind.i64 (((dg (Te.limbs a) i:Nat):Int) / 2 ^ j) 1=(d:Int):=by
      have e1:(((dg (Te.limbs a) i:Nat):Int) / 2 ^ j)=((dg (Te.limbs a) i / 2 ^ j:Nat):Int):=by simp
      rw[e1,and_one _ (pB (mE _ _) dk),hd]
     have hd1:d≤1:=zo;have HDD:Hid (d=a / 2 ^ (8*i+j) % 2):=by show _=_;rw[←hd,Te.digit_bit a i j zo]
     have hgr:g<wr.heap.size:=hrow.lt;clear hql hd9 hdi hd;go_wp2_with fail
     clear hdv;refine(twice_n HD.out zo d hd1).mono ?_;rintro e w5 ⟨A5,c5,l5,rfl,h5,b5,n5⟩;have HN5:Hid (∀a9,A5=some a9→a9.block≠g):=zh fun a9 e9=>by have:=n5 a9 e9;omega
     clear n5 HNE;have hrow5:=hrow.below b5 hgr;have hbw5:=zAb hbw b5;have hl5:l5≤8*l'+1:=h5.lt (by
      rw[dB,eE];have:=HB.out;have e:B ^ l'=(256 ^ 8) ^ l':=rfl;rw[e] at this;omega)
     have hy5:=HY.out.below hbw5;clear hbw hrow hcx b5 HD;obtain⟨z,hz⟩:∃z,cmpI ((2*R+d:Nat):Int) (b:Int)=z:=⟨_,rfl⟩;have HZ:=zh hz;by_cases hlt:2*R+d<b
     ·have t5:decide (0≤z)=false:=by rw[←hz,cmpI_nat_lt hlt];rfl
      have HI2:=zh (Te.DivI.less (t:=8*i+j) HI.out HDD.out hlt);clear hz HI;go_wp2_with fail
      refine(cmp8_d h5 hy5 zo zo z HZ).mono ?_;rintro e w6 ⟨rfl,nn,rfl⟩;have H5:=zh (h5.below (zAj (Below.refl _ _) nn));have HR5:=zh (hrow5.drewN nn);have HB5:=zh (zAj hbw5 nn);clear h5 hy5 hrow5 hbw5;go_wp2_with fail
      go_roundw
      case rel=>exact⟨j,2*R+d,A5,c5,l5,qs,zo,rfl,rfl,H5.out,HR5.out,HQ.out,hlt,HN5.out,HI2.out,HB5.out⟩
      case measure=>simp[intOf]
     ·have t5:decide (0≤z)=true:=by
       have:0≤z:=by rw[←hz];unfold cmpI;rw[fA zo];split<;>omega
       simpa using this
      obtain⟨f1,f2⟩:=Te.DivI.more (i:=i) (k:=j) HI.out zo HDD.out zo zo (by rw[HQ.out];omega);have HI2:=zh f2;have hR2:2*R+d-b<b:=zo;clear hz HI f2;go_wp2_with fail
      refine(cmp8_d h5 hy5 zo zo z HZ).mono ?_;rintro e w6 ⟨rfl,nn,rfl⟩;have h6:=h5.below (zAj (Below.refl w5.heap.size w5) nn);have hy6:=hy5.below (zAj (Below.refl w5.heap.size w5) nn);have hrow6:=hrow5.drewN nn;have hbw6:=zAj hbw5 nn;have hgr6:g<(w5.drewN nn).heap.size:=hrow6.lt;clear h5 hy5 hrow5 hbw5;go_wp2_with fail
      refine(sub8_n h6 hy6 zo zo zo).mono ?_;rintro e w7 ⟨A7,c7,l7,rfl,h7,b7,n7⟩;have HN7:Hid (∀a9,A7=some a9→a9.block≠g):=zh fun a9 e9=>by have:=n7 a9 e9;omega
      clear n7 HN5;have hrow7:=hrow6.below b7 hgr6;have hbw7:=zAb hbw6 b7;have hcu:=hrow7.cell (k:=i) (by rw[HQ.out];omega);have hfr:=hrow7.frozen i;clear h6 hy6 hrow6 hbw6 b7;go_wp2_with fail
      have hwv:=wrap_bit (dg qs i) j f1;rw[hwv];clear hwv;refine⟨⟨j,2*R+d-b,A7,c7,l7,qs.set i (dg qs i+2 ^ j),zo,rfl,rfl,⟨h7.1.keep fun p v ⟨a9,e9,hp9⟩ hc=>?_,h7.2⟩,hrow7.set i _,by rw[nB];exact HQ.out,hR2,HN7.out,HI2.out,hbw7.setCell (by rw[HG.out];exact cA _) _⟩,by simp[intOf]⟩;exact(World.cell?_setCell_other _ _ _ _ (fun e=>HN7.out a9 e9 (by rw[hp9,←e]))).trans hc
end Go.Proofs.YteggjbgbknkoiaaGreatDoor
