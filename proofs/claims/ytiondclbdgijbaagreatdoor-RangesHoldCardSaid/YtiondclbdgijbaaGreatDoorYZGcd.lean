import Derived.Test.YtiondclbdgijbaaGreatDoorYZV
import Derived.Test.YtiondclbdgijbaaGreatDoorYGcdNum
import Derived.Deep.LoopGhost
set_option maxHeartbeats 4000000
set_option maxRecDepth 100000
namespace Go.Proofs.YtiondclbdgijbaaGreatDoor
open Go.RowKit Tw
def TwosPost (w:World) (v:Nat) (e:Ending) (w':World):Prop:=∃t m:Nat,e=.returned (.int .i64 (t:Int))∧Twos v t m∧w=w'
theorem twos_any (A:Option Addr) (c n:Nat) (xs:List Nat) (w:World) (h:Nums w A c xs) (hn:Hid (xs.length=n)) (hs:n≤1000000000000) (hx:Hid (val xs≠0)) (hT:Hid (Tab w)) :
  Calls Tryz.prog 136 #[.slice A n c] w (TwosPost w (val xs)):=by
 have HC:=zh h.cells;go_enter Tryz.func136,Tryz.ntmps136
 go_wp2
 go_loop [3] (fun t=>∃k:Nat,k<n∧t=.int .i64 k∧ZeroTo xs k) (fun t=>n-(intOf t).toNat)
 case atStart=>exact⟨0,by have:=(ZeroTo.start xs).lt hx.out;rw[hn.out] at this;exact this,rfl,ZeroTo.start xs⟩
 case round =>
  obtain⟨k,hk,rfl,hz⟩:=hrel;obtain⟨b,off,rfl,hcell⟩:=HC.out (by rw[hn.out];omega);have hcell:=hcell k (by rw[hn.out];exact hk);by_cases hd:dg xs k=0
  ·have hd1:(((dg xs k:Nat):Int)==0)=true:=by simp[hd]
   have hz2:=hz.step hd;have hk2:=hz2.lt hx.out;rw[hn.out] at hk2;clear hd;go_wp2_with fail
   go_round
   case rel=>exact⟨k+1,hk2,by go_num,hz2⟩
   case measure=>simp[intOf];omega
  ·have hd1:(((dg xs k:Nat):Int)==0)=false:=by simp[hd]
   obtain⟨m,hm,hct⟩:=hz.done h.ok (by rw[hn.out];exact hk) hd;have HT:=zh (tz64 (dg xs k) (dg_lt h.ok k) hd w hT.out);generalize Lib.ctz 64 (dg xs k)=t at hm hct HT
   have HM:=zh hm;clear hd hm;go_wp2_with fail
   refine HT.out.mono ?_;rintro e w' ⟨rfl,rfl⟩;go_wp2_with fail
   go_ret
   exact⟨64*k+t,m,ret_int zo,HM.out,rfl⟩
def At (w:World) (g c v:Nat):Prop:=∃ys,Row w g ys∧ys.length=c∧nl v≤c∧ys.take (nl v)=limbs v∧Ok ys
theorem At.nums {w:World} {g c v:Nat} (h:At w g c v):Nums w (some ⟨g,0,none⟩) c (limbs v):=by
 obtain⟨ys,hr,rfl,hl,ht,ho⟩:=h;rw[←ht];exact(hr.nums ho).front _
theorem At.grown {w w':World} {g c v:Nat} {row:Option Nat} (h:At w g c v) (hg:w.grownBy w' row) (hne:some g≠row):At w' g c v:=by
 obtain⟨ys,hr,h2⟩:=h;exact⟨ys,hr.grown hg hne,h2⟩
theorem At.off {w:World} {g c v g':Nat} (_:At w g c v) (hne:g≠g'):Off (some ⟨g,0,none⟩) (limbs v) g':=fun _ a ha=>by cases ha;exact hne
theorem OwnAt.at_ {w:World} {g:Nat} {A:Option Addr} {c n:Nat} (h:OwnAt w g A c n) (h0:n≠0):A=some ⟨g,0,none⟩∧At w g c n:=by
 rcases h with h | ⟨_,hA,h2⟩
 ·exact absurd h.1 h0
 ·exact⟨hA,h2⟩
theorem down_at (g c v s:Nat) (w:World) (h:At w g c v) (hs:nl v≤1000000000000) (hs1:s≤9223372036854775807) :
  Calls Tryz.prog 137 #[.slice (some ⟨g,0,none⟩) (nl v) c,.int .i64 (s:Int)] w (DownPost w g (v / 2 ^ s)):=by
 obtain⟨ys,hr,rfl,hl,ht,ho⟩:=h;have:=down_any g (nl v) s ys w hr ho hl zo hs1;rwa [ht,val_limbs] at this
theorem lessen_at (g c v:Nat) (A':Option Addr) (c' u:Nat) (w:World) (h:At w g c v) (hs:nl v≤1000000000000) (h':Nums w A' c' (limbs u)) (hA:Off A' (limbs u) g) (hle:u≤v) :
  Calls Tryz.prog 107 #[.slice (some ⟨g,0,none⟩) (nl v) c,.slice A' (nl u) c'] w fun e w'=>e=.returned (.slice (some ⟨g,0,none⟩) (nl v) c)∧∃zs,Row w' g zs∧Ok zs∧zs.length=c∧val (zs.take (nl v))=v-u∧w.grownBy w' (some g):=by
 obtain⟨ys,hr,rfl,hl,ht,ho⟩:=h;have:=lessen_any g (nl v) ys A' c' (limbs u) w hr ho hl zo h' hA (by rw[ht,val_limbs,val_limbs];exact hle);rw[ht,val_limbs,val_limbs] at this;exact this
theorem grown_to {w w':World} {g B:Nat} (h:w.grownBy w' (some g)) (hg:B≤g) (hB:B≤w.heap.size):Below B w w' :=
 ⟨h.os,h.tape,h.output,h.size,fun i hi=>h.block i zo (by simp;omega)⟩
theorem At.lt {w:World} {g c v:Nat} (h:At w g c v):g<w.heap.size:=by obtain⟨ys,hr,_⟩:=h;exact hr.lt
theorem atLen {w:World} {g c v:Nat} (h:At w g c v):nl v≤c:=by obtain⟨ys,_,_,hl,_⟩:=h;exact hl
theorem At.drewN {w:World} {g c v:Nat} (h:At w g c v) (n:Nat):At (w.drewN n) g c v:=h
theorem cmp_nl (A A':Option Addr) (c c' u v:Nat) (w:World) (h:Nums w A c (limbs u)) (h':Nums w A' c' (limbs v)) (hu:nl u≤1000000000000) (hv:nl v≤1000000000000) (z:Int) (hz:cmpI (u:Int) (v:Int)=z) :
  Calls Tryz.prog 65 #[.slice A (nl u) c,.slice A' (nl v) c'] w fun e w'=>e=.returned (.int .i64 z)∧∃n,w'=w.drewN n:=by
 have:=cmp_any A A' c c' (limbs u) (limbs v) w h h' (by unfold nl at hu;omega) (by unfold nl at hv;omega);rw[val_limbs,val_limbs] at this;refine this.mono fun e w' ⟨he,hw⟩=>⟨by rw[he,hz],hw⟩
structure HSt (w wr:World) (B0 G u v gu gv cu cv:Nat):Prop where
 au:At wr gu cu u
 av:At wr gv cv v
 ne:gu≠gv
 bu:B0≤gu
 bv:B0≤gv
 ou:u % 2=1
 ov:v % 2=1
 lu:nl u≤900000000000
 lv:nl v≤900000000000
 gcd:Nat.gcd u v=G
 below:Below B0 w wr
def HRel (w:World) (B0 G k:Nat) (sx sy:Value) (wr:World):Prop :=
 ∃u v gu gv cu cv:Nat,sx=.slice (some ⟨gu,0,none⟩) (nl u) cu∧sy=.slice (some ⟨gv,0,none⟩) (nl v) cv∧k=u+v∧HSt w wr B0 G u v gu gv cu cv
theorem HSt.swap {w wr:World} {B0 G u v gu gv cu cv:Nat} (h:HSt w wr B0 G u v gu gv cu cv):HSt w wr B0 G v u gv gu cv cu :=
 ⟨h.av,h.au,h.ne.symm,h.bv,h.bu,h.ov,h.ou,h.lv,h.lu,by rw[Nat.gcd_comm];exact h.gcd,h.below⟩
def HalfPost (w:World) (B n:Nat) (e:Ending) (w':World):Prop:=∃A c,e=.returned (.slice A (nl n) c)∧Own w' B A c n∧Below B w w'
theorem tab_below {w w':World} {B:Nat} (h:Tab w) (hg:2<B) (hb:Below B w w'):Tab w':=fun j hj=>(hb.cell (p:=⟨2,j,none⟩) hg).trans (h j hj)
theorem halving_any (gx gy cx cy x y B0:Nat) (w:World) (hx:At w gx cx x) (hy:At w gy cy y) (hne:gx≠gy) (hgx:B0≤gx) (hgy:B0≤gy) (hx0:Hid (x≠0)) (hy0:Hid (y≠0)) (hlx:nl x≤900000000000) (hly:nl y≤900000000000) (hT:Hid (Tab w)) (hgt:2<B0) :
  Calls Tryz.prog 126 #[.slice (some ⟨gx,0,none⟩) (nl x) cx,.slice (some ⟨gy,0,none⟩) (nl y) cy] w (HalfPost w B0 (Nat.gcd x y)):=by
 go_enter Tryz.func126,Tryz.ntmps126
 go_wp2_with fail
 refine(twos_any _ cx (nl x) (limbs x) w hx.nums rfl zo (by rw[val_limbs];exact hx0) hT).mono ?_;rintro e w' ⟨p,a,rfl,hp,rfl⟩;rw[val_limbs] at hp;go_wp2_with fail
 refine(twos_any _ cy (nl y) (limbs y) w hy.nums rfl zo (by rw[val_limbs];exact hy0) hT).mono ?_;rintro e w' ⟨q,b,rfl,hq,rfl⟩;rw[val_limbs] at hq;have hpl:p≤100000000000000:=by
  have:=hp.lt (k:=64*nl x) (by rw[pow_B];exact lt_pow_nl x);omega
 have hql:q≤100000000000000:=by
  have:=hq.lt (k:=64*nl y) (by rw[pow_B];exact lt_pow_nl y);omega
 have HP:=zh (And.intro hp hq);clear hp hq;go_wp2_with fail
 refine(down_at gx cx x p w hx zo zo).mono ?_;rintro e w1 ⟨A1,c1,rfl,ho1,hg1⟩;rw[HP.out.1.div] at ho1 ⊢;have ha0:a≠0:=by have:=HP.out.1.2;intro e;rw[e] at this;simp at this
 have hb0:b≠0:=by have:=HP.out.2.2;intro e;rw[e] at this;simp at this
 obtain⟨rfl,hax⟩:=ho1.at_ ha0;have hy1:=hy.grown hg1 (by simp;exact fun e=>hne e.symm);go_wp2_with fail
 refine(down_at gy cy y q w1 hy1 zo zo).mono ?_;rintro e w2 ⟨A2,c2,rfl,ho2,hg2⟩;rw[HP.out.2.div] at ho2 ⊢;obtain⟨rfl,hby⟩:=ho2.at_ hb0;have hax2:=hax.grown hg2 (by simp;exact hne);have hwB:B0≤w.heap.size:=zi hx.lt;have hbw1:Below B0 w w1:=grown_to hg1 hgx hwB;have hbw2:Below B0 w w2:=hbw1.trans (grown_to hg2 hgy (wA hwB hg1.size));have hla:nl a≤900000000000:=wA (nl_mono (by rw[←HP.out.1.div];exact tE _ _)) hlx;have hlb:nl b≤900000000000:=wA (nl_mono (by rw[←HP.out.2.div];exact tE _ _)) hly;have HST:Hid (HSt w w2 B0 (Nat.gcd a b) a b gx gy c1 c2):=⟨hax2,hby,hne,hgx,hgy,HP.out.1.2,HP.out.2.2,hla,hlb,rfl,hbw2⟩;have HE:Hid (Nat.gcd x y=Nat.gcd a b*2 ^ min p q):=by
  show Nat.gcd x y=_
  rw[HP.out.1.1,HP.out.2.1,gcd_start HP.out.1.2 HP.out.2.2,qB]
 obtain⟨mn,hmn⟩:∃mn,mn=min p q:=⟨_,rfl⟩;have hmi:min (p:Int) (q:Int)=(mn:Int):=zo;have hmle:mn≤100000000000000:=zo;have HE2:Hid (Nat.gcd x y=Nat.gcd a b*2 ^ mn):=by show _=_;rw[hmn];exact HE.out
 clear hx hy hx0 hy0 hax hy1 hax2 hby hbw1 hbw2 hla hlb hmn HE ho1 ho2 hg1 hg2 ha0 hb0;go_wp2_with fail
 go_loopg [0,1] (a+b) (fun k sx sy wr=>HRel w B0 (Nat.gcd a b) k sx sy wr)
 case atStart=>exact⟨a,b,gx,gy,c1,c2,rfl,rfl,rfl,HST.out⟩
 case round =>
  obtain⟨u,v,gu,gv,cu,cv,rfl,rfl,hk,hst⟩:=hrel;have HK:=zh hk;have HS:=zh hst;clear hk hst;rcases Nat.lt_trichotomy u v with hlt | heq | hgt2
  ·have HC:=zh (cmp_nl (some ⟨gu,0,none⟩) (some ⟨gv,0,none⟩) cu cv u v wr HS.out.au.nums HS.out.av.nums (zi HS.out.lu) (zi HS.out.lv) (-1) (cmpI_lt zo));go_wp2_with fail
   refine HC.out.mono ?_;rintro e w3 ⟨rfl,n3,rfl⟩;go_wp2_with fail
   refine(lessen_at gv cv v (some ⟨gu,0,none⟩) cu u (wr.drewN n3) (HS.out.av.drewN n3) (zi HS.out.lv) (HS.out.au.nums.drewN n3) (HS.out.au.off HS.out.ne) zo).mono ?_;rintro e w4 ⟨rfl,zs,hrz,hoz,hlz,hvz,hg4⟩;have hb4:Below B0 w w4:=HS.out.below.trans ((below_drewN (Below.refl _ _) n3).trans (grown_to hg4 HS.out.bv (wA hwB HS.out.below.size)));have hnl:nl v≤zs.length:=by rw[hlz];exact atLen HS.out.av
   have hzl:(zs.take (nl v)).length=nl v:=by rw[mB];omega
   have hNz:Nums w4 (some ⟨gv,0,none⟩) cv (zs.take (nl v)):=by rw[←hlz];exact(hrz.nums hoz).front _
   have hay:At w4 gu cu u:=(HS.out.au.drewN n3).grown hg4 (by simp;exact HS.out.ne);have HV:=zh hvz;have HZ:=zh hlz;clear hvz hlz;go_wp2_with fail
   refine(twos_any _ cv (nl v) (zs.take (nl v)) w4 hNz hzl (zi HS.out.lv) (by rw[HV.out];show v-u≠0;omega) (tab_below hT.out hgt hb4)).mono ?_;rintro e w5 ⟨t,m,rfl,ht,rfl⟩;rw[HV.out] at ht;have htl:t≤100000000000000:=by
    have:=ht.lt (k:=64*nl v) (by rw[pow_B];have:=lt_pow_nl v;omega);have:=HS.out.lv;omega
   have hd:=down_any gv (nl v) t zs w4 hrz hoz hnl (zi HS.out.lv) zo;rw[HV.out,ht.div,HZ.out] at hd;have HT2:=zh ht;have HD:=zh hd;clear ht hd;go_wp2_with fail
   refine HD.out.mono ?_;rintro e w6 ⟨A6,c6,rfl,ho6,hg6⟩;have hm0:m≠0:=by have:=HT2.out.2;intro e;rw[e] at this;simp at this
   obtain⟨rfl,ham⟩:=ho6.at_ hm0;have hml:m<v:=half_lt zo HS.out.ov HS.out.ou HT2.out.2 HT2.out.1;have hst2:HSt w w6 B0 (Nat.gcd a b) m u gv gu c6 cu :=
    ⟨ham,hay.grown hg6 (by simp;exact HS.out.ne),HS.out.ne.symm,HS.out.bv,HS.out.bu,HT2.out.2,HS.out.ou,wA (nl_mono zo) HS.out.lv,HS.out.lu,by rw[gcd_round zo HS.out.ou HT2.out.1];exact(by rw[Nat.gcd_comm];exact HS.out.gcd),hb4.trans (grown_to hg6 HS.out.bv (wA hwB hb4.size))⟩
   have HST2:=zh hst2;clear hst2;go_wp2_with fail
   go_roundg (m+u)
   case measure=>rw[HK.out];omega
   case rel=>exact⟨m,u,gv,gu,c6,cu,rfl,rfl,rfl,HST2.out⟩
  ·have HC:=zh (cmp_nl (some ⟨gu,0,none⟩) (some ⟨gv,0,none⟩) cu cv u v wr HS.out.au.nums HS.out.av.nums (zi HS.out.lu) (zi HS.out.lv) 0 (by rw[heq,cmpI_eq]));have hu:u=Nat.gcd a b:=by rw[←HS.out.gcd,←heq,Nat.gcd_self]
   have hup:=up_any (some ⟨gu,0,none⟩) cu mn (limbs u) (wr.drewN 0) (HS.out.au.nums.drewN 0) (by have:=HS.out.lu;unfold nl at this;omega) hmle;have HUP:=zh (fun n3=>up_any (some ⟨gu,0,none⟩) cu mn (limbs u) (wr.drewN n3) (HS.out.au.nums.drewN n3) (by have:=HS.out.lu;unfold nl at this;omega) hmle);have HU:=zh hu;clear hu hup heq;go_wp2_with fail
   refine HC.out.mono ?_;rintro e w3 ⟨rfl,n3,rfl⟩;go_wp2_with fail
   refine(HUP.out n3).mono ?_;rintro e w4 ⟨A4,c4,rfl,ho4,hb4⟩;rw[val_limbs,HU.out,←HE2.out] at ho4 ⊢;go_wp2_with fail
   go_ret
   exact⟨A4,c4,rfl,ho4.mono (wA hwB HS.out.below.size),HS.out.below.trans ((below_drewN (Below.refl _ _) n3).trans (hb4.mono (wA hwB HS.out.below.size)))⟩
  ·have HC:=zh (cmp_nl (some ⟨gu,0,none⟩) (some ⟨gv,0,none⟩) cu cv u v wr HS.out.au.nums HS.out.av.nums (zi HS.out.lu) (zi HS.out.lv) 1 (cmpI_gt zo));go_wp2_with fail
   refine HC.out.mono ?_;rintro e w3 ⟨rfl,n3,rfl⟩;go_wp2_with fail
   refine(lessen_at gu cu u (some ⟨gv,0,none⟩) cv v (wr.drewN n3) (HS.out.au.drewN n3) (zi HS.out.lu) (HS.out.av.nums.drewN n3) (HS.out.av.off HS.out.ne.symm) zo).mono ?_;rintro e w4 ⟨rfl,zs,hrz,hoz,hlz,hvz,hg4⟩;have hb4:Below B0 w w4:=HS.out.below.trans ((below_drewN (Below.refl _ _) n3).trans (grown_to hg4 HS.out.bu (wA hwB HS.out.below.size)));have hnl:nl u≤zs.length:=by rw[hlz];exact atLen HS.out.au
   have hzl:(zs.take (nl u)).length=nl u:=by rw[mB];omega
   have hNz:Nums w4 (some ⟨gu,0,none⟩) cu (zs.take (nl u)):=by rw[←hlz];exact(hrz.nums hoz).front _
   have hay:At w4 gv cv v:=(HS.out.av.drewN n3).grown hg4 (by simp;exact HS.out.ne.symm);have HV:=zh hvz;have HZ:=zh hlz;clear hvz hlz;go_wp2_with fail
   refine(twos_any _ cu (nl u) (zs.take (nl u)) w4 hNz hzl (zi HS.out.lu) (by rw[HV.out];show u-v≠0;omega) (tab_below hT.out hgt hb4)).mono ?_;rintro e w5 ⟨t,m,rfl,ht,rfl⟩;rw[HV.out] at ht;have htl:t≤100000000000000:=by
    have:=ht.lt (k:=64*nl u) (by rw[pow_B];have:=lt_pow_nl u;omega);have:=HS.out.lu;omega
   have hd:=down_any gu (nl u) t zs w4 hrz hoz hnl (zi HS.out.lu) zo;rw[HV.out,ht.div,HZ.out] at hd;have HT2:=zh ht;have HD:=zh hd;clear ht hd;go_wp2_with fail
   refine HD.out.mono ?_;rintro e w6 ⟨A6,c6,rfl,ho6,hg6⟩;have hm0:m≠0:=by have:=HT2.out.2;intro e;rw[e] at this;simp at this
   obtain⟨rfl,ham⟩:=ho6.at_ hm0;have hml:m<u:=half_lt zo HS.out.ou HS.out.ov HT2.out.2 HT2.out.1;have hst2:HSt w w6 B0 (Nat.gcd a b) m v gu gv c6 cv :=
    ⟨ham,hay.grown hg6 (by simp;exact HS.out.ne.symm),HS.out.ne,HS.out.bu,HS.out.bv,HT2.out.2,HS.out.ov,wA (nl_mono zo) HS.out.lu,HS.out.lv,by rw[gcd_round zo HS.out.ov HT2.out.1];exact HS.out.gcd,hb4.trans (grown_to hg6 HS.out.bu (wA hwB hb4.size))⟩
   have HST2:=zh hst2;clear hst2;go_wp2_with fail
   go_roundg (m+v)
   case measure=>rw[HK.out];omega
   case rel=>exact⟨m,v,gu,gv,c6,cv,rfl,rfl,rfl,HST2.out⟩
def lenOf:Value→Nat | .slice _ n _=>n | _=>0
structure GSt (w wr:World) (G x y:Nat) (A A':Option Addr) (c c':Nat):Prop where
 ox:Own wr w.heap.size A c x
 oy:Own wr w.heap.size A' c' y
 ne:∀a a',A=some a→A'=some a'→a.block≠a'.block
 lx:nl x≤800000000000
 ly:nl y≤800000000000
 gcd:Nat.gcd x y=G
 below:Below w.heap.size w wr
theorem GSt.swap {w wr:World} {G x y:Nat} {A A':Option Addr} {c c':Nat} (h:GSt w wr G x y A A' c c'):GSt w wr G y x A' A c' c :=
 ⟨h.oy,h.ox,fun a a' ha ha'=>(h.ne a' a ha' ha).symm,h.ly,h.lx,by rw[Nat.gcd_comm];exact h.gcd,h.below⟩
theorem Own.at_ {w:World} {B:Nat} {A:Option Addr} {c n:Nat} (h:Own w B A c n) (h0:n≠0):∃g,A=some ⟨g,0,none⟩∧B≤g∧At w g c n:=by
 rcases h with h | ⟨_,g,ys,hA,hB,h2⟩
 ·exact absurd h.1 h0
 ·exact⟨g,hA,hB,ys,h2⟩
theorem Own.lt {w:World} {B:Nat} {A:Option Addr} {c n:Nat} (h:Own w B A c n) (a:Addr) (ha:A=some a):a.block<w.heap.size∧B≤a.block:=by
 rcases h with⟨_,rfl,_⟩ | ⟨_,g,ys,rfl,hB,hr,_⟩
 ·cases ha
 ·cases ha;exact⟨hr.lt,hB⟩
theorem GSt.step {w wr w':World} {G x y:Nat} {A A' A2:Option Addr} {c c' c2:Nat} (h:GSt w wr G x y A A' c c') (hy:y≠0) (_hlt:nl y<nl x) (ho:Own w' wr.heap.size A2 c2 (x % y)) (hb:Below wr.heap.size wr w') :
  GSt w w' G (x % y) y A2 A' c2 c'∧nl (x % y)≤nl y:=by
 have hm:x % y<y:=fC _ zo;have hl:nl (x % y)≤nl y:=nl_mono zo;refine⟨⟨ho.mono h.below.size,h.oy.below hb,fun a a' ha ha' e=>?_,by have:=h.ly;omega,h.ly,?_,below_trans h.below hb⟩,hl⟩
 ·have h1:=(ho.lt a ha).2;have h2:=(h.oy.lt a' ha').1;omega
 ·rw[←Nat.gcd_rec,Nat.gcd_comm];exact h.gcd
def GRel (w:World) (G:Nat) (sx sy:Value) (wr:World):Prop :=
 ∃x y A A' c c',sx=.slice A (nl x) c∧sy=.slice A' (nl y) c'∧GSt w wr G x y A A' c c'
theorem divmod_nl (A A':Option Addr) (c c' x y:Nat) (w:World) (h:Nums w A c (limbs x)) (h':Nums w A' c' (limbs y)) (hx:nl x≤800000000000) (hy:nl y≤800000000000) (h0:y≠0) :
  Calls Tryz.prog 105 #[.slice A (nl x) c,.slice A' (nl y) c'] w (Ret2 w (x / y) (x % y)):=by
 have:=divmod_any A A' c c' (limbs x) (limbs y) w h h' (by unfold nl at hx;omega) (by unfold nl at hy;omega) (by rw[val_limbs];exact h0);rwa [val_limbs,val_limbs] at this
theorem gcd_any (A A':Option Addr) (c c':Nat) (xs ys:List Nat) (w:World) (h:Nums w A c xs) (h':Nums w A' c' ys) (hs:xs.length≤800000000000) (hs':ys.length≤800000000000) (hT:Hid (Tab w)) :
  Calls Tryz.prog 104 #[.slice A xs.length c,.slice A' ys.length c'] w (Ret w (Nat.gcd (val xs) (val ys))):=by
 have hl:=nl_val h.ok;have hl':=nl_val h'.ok;have hgt:2<w.heap.size:=World.block_lt_of_cell? w ⟨2,0,none⟩ (hT.out 0 zd);have HT1:=zh (trim_any A c xs w h zo);obtain⟨G,hG0⟩:∃G,G=Nat.gcd (val xs) (val ys):=⟨_,rfl⟩;rw[←hG0];have HG0:=zh hG0;clear hG0;go_enter Tryz.func104,Tryz.ntmps104
 go_wp2_with fail
 refine HT1.out.mono ?_;rintro e w1 ⟨A1,c1,rfl,ho1,hb1⟩;go_wp2_with fail
 refine(trim_any A' c' ys w1 (h'.below hb1) zo).mono ?_;rintro e w2 ⟨A2,c2,rfl,ho2,hb2⟩;have hst:GSt w w2 G (val xs) (val ys) A1 A2 c1 c2:=⟨ho1.below hb2,ho2.mono hb1.size,fun a a' ha ha' e=>by have h1:=(ho1.lt a ha).1;have h2:=(ho2.lt a' ha').2;omega,zo,zo,HG0.out.symm,below_trans hb1 hb2⟩;have HST:=zh hst;clear hst ho1 ho2;go_wp2_with fail
 go_loopw [5,6] (fun sx sy wr=>GRel w G sx sy wr) (fun sx sy _=>lenOf sx+lenOf sy)
 case atStart=>exact⟨_,_,A1,A2,c1,c2,rfl,rfl,HST.out⟩
 case round =>
  obtain⟨x,y,A3,A4,c3,c4,rfl,rfl,hst⟩:=hrel;have HS:=zh hst;have hlx:=hst.lx;have hly:=hst.ly;clear hst;rcases Nat.lt_trichotomy (nl x) (nl y) with hlt | heq | hgt2
  ·have p1:(((nl x:Nat):Int) !=((nl y:Nat):Int))=true:=by rw[bne_iff_ne];omega
   by_cases h0:nl x=0
   ·have p2:(((nl x:Nat):Int)==0)=true:=by simp[h0]
    have hx0:=nl_eq_zero.1 h0;have hG:G=y:=by rw[←HS.out.gcd,hx0,Nat.gcd_zero_left]
    have HG:=zh hG;clear h0 hG hx0;go_wp2_with fail
    go_ret
    rw[HG.out];exact⟨A4,c4,rfl,HS.out.oy,HS.out.below⟩
   ·have p2:(((nl x:Nat):Int)==0)=false:=by simp[h0]
    have hx0:x≠0:=fun e=>h0 (by rw[e,nl_zero]);have HD:=zh (divmod_nl A4 A3 c4 c3 y x wr HS.out.oy.nums HS.out.ox.nums hly hlx hx0);clear h0;go_wp2_with fail
    refine HD.out.mono ?_;rintro e w3 ⟨A5,c5,A6,c6,rfl,ho5,ho6,hb3⟩;obtain⟨hs2,hl2⟩:=HS.out.swap.step hx0 hlt ho6 hb3;have HS2:=zh hs2;clear hs2;go_wp2_with fail
    go_roundw
    case rel=>exact⟨_,_,A6,A3,c6,c3,rfl,rfl,HS2.out⟩
    case measure=>simp[lenOf];omega
  ·have p1:(((nl x:Nat):Int) !=((nl y:Nat):Int))=false:=by simp[heq]
   by_cases h0:nl x=0
   ·have p2:(((nl x:Nat):Int)==0)=true:=by simp[h0]
    have hx0:=nl_eq_zero.1 h0;have hy0:=nl_eq_zero.1 (heq ▸ h0);have hG:G=0:=by rw[←HS.out.gcd,hx0,hy0];rfl
    have HG:=zh hG;clear h0 hG hx0 hy0 heq;go_wp2_with fail
    go_ret
    rw[HG.out];exact⟨none,0,rfl,.inl ⟨rfl,rfl,rfl⟩,HS.out.below⟩
   ·have p2:(((nl x:Nat):Int)==0)=false:=by simp[h0]
    have hx0:x≠0:=fun e=>h0 (by rw[e,nl_zero]);have hy0:y≠0:=fun e=>h0 (by rw[heq,e,nl_zero]);obtain⟨gx,rfl,hgx,hax⟩:=HS.out.ox.at_ hx0;obtain⟨gy,rfl,hgy,hay⟩:=HS.out.oy.at_ hy0;have HH:=zh (halving_any gx gy c3 c4 x y w.heap.size wr hax hay (by have:=HS.out.ne _ _ rfl rfl;simpa using this) hgx hgy hx0 hy0 zo zo (tab_below hT.out hgt HS.out.below) hgt);have HE:=zh heq;clear h0 heq;go_wp2_with fail
    refine HH.out.mono ?_;rintro e w3 ⟨A5,c5,rfl,ho5,hb3⟩;rw[HS.out.gcd] at ho5 ⊢;go_wp2_with fail
    go_ret
    exact⟨A5,c5,rfl,ho5,HS.out.below.trans hb3⟩
  ·have p1:(((nl x:Nat):Int) !=((nl y:Nat):Int))=true:=by rw[bne_iff_ne];omega
   by_cases h0:nl y=0
   ·have p2:(((nl y:Nat):Int)==0)=true:=by simp[h0]
    have hy0:=nl_eq_zero.1 h0;have hG:G=x:=by rw[←HS.out.gcd,hy0,Nat.gcd_zero_right]
    have HG:=zh hG;clear h0 hG hy0;go_wp2_with fail
    go_ret
    rw[HG.out];exact⟨A3,c3,rfl,HS.out.ox,HS.out.below⟩
   ·have p2:(((nl y:Nat):Int)==0)=false:=by simp[h0]
    have hy0:y≠0:=fun e=>h0 (by rw[e,nl_zero]);have HD:=zh (divmod_nl A3 A4 c3 c4 x y wr HS.out.ox.nums HS.out.oy.nums hlx hly hy0);clear h0;go_wp2_with fail
    refine HD.out.mono ?_;rintro e w3 ⟨A5,c5,A6,c6,rfl,ho5,ho6,hb3⟩;obtain⟨hs2,hl2⟩:=HS.out.step hy0 hgt2 ho6 hb3;have HS2:=zh hs2;clear hs2;go_wp2_with fail
    go_roundw
    case rel=>exact⟨_,_,A6,A4,c6,c4,rfl,rfl,HS2.out⟩
    case measure=>simp[lenOf];omega
section
variable {w:World} {A A':Option Addr} {c c' l l' a b:Nat}
theorem gcd_v (h:V w A c l a) (h':V w A' c' l' b) (hl:l+l'≤800000000000) (hT:Hid (Tab w)):Calls Tryz.prog 104 #[.slice A l c,.slice A' l' c'] w (Tells w (Nat.gcd a b) (l+l')):=by
 have hle:nl (Nat.gcd a b)≤l+l':=by
  rcases qC a with e | e
  ·rw[e,Nat.gcd_zero_left];have:=h'.le;omega
  ·have:=nl_mono (Nat.gcd_le_left b e);have:=h.le;omega
 obtain⟨xs,h1,rfl,rfl⟩:=h;obtain⟨ys,h2,rfl,rfl⟩:=h';exact(gcd_any A A' c c' xs ys w h1 h2 zo zo hT).mono fun _ _ hr=>hr.tells hle
end
end Go.Proofs.YtiondclbdgijbaaGreatDoor
