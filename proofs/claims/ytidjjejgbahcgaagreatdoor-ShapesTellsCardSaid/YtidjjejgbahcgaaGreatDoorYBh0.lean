/-
  tripwireref10.Behind. Written by wip/gen/bh.py.
-/
import Derived.Test.YtidjjejgbahcgaaGreatDoorYPic
set_option maxHeartbeats 16000000
set_option maxRecDepth 100000
namespace Go.Proofs.YtidjjejgbahcgaaGreatDoor
open Go.RowKit Tw
def TB2 (w:World) (f:Option (Int×Int)) (e:Ending) (w':World):Prop :=
 ∃a b:Int,e=.returned (.tuple #[.int .i64 a,.int .i64 b,.bool f.isSome])∧(∀u t,f=some (u,t)→a=u∧b=t)∧Below w.heap.size w w'
theorem TB2.no {w w':World} {f:Option (Int×Int)} {e:Ending} (hf:f=none) (a b:Int) (he:e=.returned (.tuple #[.int .i64 a,.int .i64 b,.bool false])) (hB:Below w.heap.size w w'):TB2 w f e w':=by
 subst hf;exact⟨a,b,he,nofun,hB⟩
theorem TB2.yes {w w':World} {f:Option (Int×Int)} {e:Ending} {u t:Int} (hf:f=some (u,t)) (he:e=.returned (.tuple #[.int .i64 u,.int .i64 t,.bool true])) (hB:Below w.heap.size w w'):TB2 w f e w':=by
 subst hf;exact⟨u,t,he,fun _ _ h=>by cases h;exact⟨rfl,rfl⟩,hB⟩
def sizB (y:Ly):Bool:=(nums y).any fun z=>decide (z≠0)
theorem plain_siz (y:Ly):plainB y=(decide (y.kn=0)&&!sizB y):=by
 unfold plainB sizB nums
 simp only[List.all_cons,List.all_nil,List.any_cons,List.any_nil,Bool.or_false,Bool.and_true,Bool.not_or,decide_not,Bool.not_not]
theorem siz_all {y:Ly} (h:sizB y=false):y.ch=0∧y.high=0∧y.wide=0∧y.out=0∧y.kh=0∧y.kw=0∧y.st=0∧y.pad=0:=by
 unfold sizB nums at h
 simp only[List.any_cons,List.any_nil,Bool.or_false,Bool.or_eq_false_iff,decide_eq_false_iff_not,Decidable.not_not] at h
 exact h
theorem pic_ch {y:Ly} (h:y.ch=0):picOk y=false:=by
 unfold picOk sides
 rw[h];simp
theorem none_of {α:Type} {f:Option α} {C:Prop} (h:f.isSome=true→C) (hn:¬C):f=none:=by
 cases f with
 | none=>rfl
 | some x=>exact absurd (h rfl) hn
theorem bh_aff {y:Ly} {n:Int} (k:y.kind=1) (h:(zAd y n).isSome=true):sizB y=false∧y.kn=0∧y.gn=0∧1≤y.rn∧y.rn=y.bn∧(y.rows.all fun v=>rightB v.L n)=true∧(y.bias.all fun x=>x.ex)=true:=by
 unfold zAd at h
 rw[if_pos k] at h;unfold affineF at h
 rw[plain_siz] at h;repeat (split at h;· cases h)
 rename_i h1 h2 h3 h4 h5 h6
 simp only[Bool.not_eq_false,Bool.and_eq_true,decide_eq_true_eq,Bool.not_eq_true'] at h1 h5 h6
 exact⟨h1.2,h1.1,zo,zo,zo,h5,h6⟩
theorem bh_aff_yes {y:Ly} {n:Int} (k:y.kind=1) (h1:sizB y=false) (h2:y.kn+y.gn=0) (h3:1≤y.rn) (h4:y.rn=y.bn) (h5:(y.rows.all fun v=>rightB v.L n)=true) (h6:(y.bias.all fun x=>x.ex)=true):zAd y n=some ((y.rn:Int),(lens y.rows:Int)):=by
 unfold zAd affineF
 rw[if_pos k,plain_siz,decide_eq_true (show y.kn=0 by omega),h1,h5,h6,if_neg (by simp),if_neg zo,if_neg zo,if_neg (fun h=>h h4),if_neg (by simp),if_neg (by simp)]
theorem bh_pool {y:Ly} {n:Int} (k:y.kind=4) (h:(zAd y n).isSome=true):sizB y=false∧y.kn=0∧y.rn=0∧y.bn=0∧1≤y.gn∧(y.groups.all fun v=>groupB n v)=true:=by
 unfold zAd at h
 rw[if_neg zo,if_neg zo,if_neg zo,if_pos k] at h;unfold poolF at h
 rw[plain_siz] at h;repeat (split at h;· cases h)
 rename_i h1 h2 h3 h4 h5
 simp only[Bool.not_eq_false,Bool.and_eq_true,decide_eq_true_eq,Bool.not_eq_true'] at h1 h5
 exact⟨h1.2,h1.1,zo,zo,zo,h5⟩
theorem bh_pool_yes {y:Ly} {n:Int} (k:y.kind=4) (h1:sizB y=false) (h2:y.rn+y.bn+y.kn=0) (h3:1≤y.gn) (h5:(y.groups.all fun v=>groupB n v)=true):zAd y n=some ((y.gn:Int),(glens y.groups:Int)):=by
 unfold zAd poolF
 rw[if_neg zo,if_neg zo,if_neg zo,if_pos k,plain_siz,decide_eq_true (show y.kn=0 by omega),h1,h5,if_neg (by simp),if_neg zo,if_neg zo,if_neg zo,if_neg (by simp)]
theorem bh_relu {y:Ly} {n:Int} (k:y.kind=3):zAd y n=if sizB y=false∧y.rn+y.bn+y.kn+y.gn=0 then some (n,0) else none:=by
 unfold zAd reluB
 rw[if_neg zo,if_neg zo,if_pos k,plain_siz];refine ite_congr (propext ⟨fun h=>?_,fun h=>?_⟩) (fun _=>rfl) (fun _=>rfl)
 ·simp only[Bool.and_eq_true,decide_eq_true_eq,Bool.not_eq_true'] at h
  exact⟨h.1.2,zo⟩
 ·simp only[Bool.and_eq_true,decide_eq_true_eq,Bool.not_eq_true']
  exact⟨⟨zo,h.1⟩,zo,zo,zo⟩
theorem bh_other {y:Ly} {n:Int} (k1:y.kind≠1) (k2:y.kind≠2) (k3:y.kind≠3) (k4:y.kind≠4):zAd y n=none:=by
 unfold zAd
 rw[if_neg k1,if_neg k2,if_neg k3,if_neg k4]
theorem bh_conv {y:Ly} {n:Int} (k:y.kind=2) (h:(zAd y n).isSome=true):picOk y=true∧0≤cHigh y∧0≤cWide y∧y.rn+y.gn=0∧y.ch*y.high*y.wide=n∧(y.kn:Int)=y.out*cEach y∧(y.bn:Int)=y.out∧(y.kern.all fun x=>x.ex)=true∧(y.bias.all fun x=>x.ex)=true:=by
 unfold zAd at h
 rw[if_neg zo,if_pos k] at h;unfold convF at h
 have h1:¬(((sides y).all fun z=>decide (1≤z)&&decide (z≤256))=false):=fun c=>by rw[if_pos c] at h;cases h
 rw[if_neg h1] at h;have h2:¬(y.pad<0):=fun c=>by rw[if_pos c] at h;cases h
 rw[if_neg h2] at h;have h3:¬(y.kh≤y.pad):=fun c=>by rw[if_pos c] at h;cases h
 rw[if_neg h3] at h;have h4:¬(y.kw≤y.pad):=fun c=>by rw[if_pos c] at h;cases h
 rw[if_neg h4] at h;have h5:¬(y.ch*y.high*y.wide≠n):=fun c=>by rw[if_pos c] at h;cases h
 rw[if_neg h5] at h;have h6:¬(cHigh y<0):=fun c=>by rw[if_pos c] at h;cases h
 rw[if_neg h6] at h;have h7:¬(cWide y<0):=fun c=>by rw[if_pos c] at h;cases h
 rw[if_neg h7] at h;have h8:¬((y.kn:Int)≠y.out*cEach y):=fun c=>by rw[if_pos c] at h;cases h
 rw[if_neg h8] at h;have h9:¬((y.bn:Int)≠y.out):=fun c=>by rw[if_pos c] at h;cases h
 rw[if_neg h9] at h;have h10:¬(0<y.rn):=fun c=>by rw[if_pos c] at h;cases h
 rw[if_neg h10] at h;have h11:¬(0<y.gn):=fun c=>by rw[if_pos c] at h;cases h
 rw[if_neg h11] at h;have h12:¬((y.kern.all fun x=>x.ex)=false):=fun c=>by rw[if_pos c] at h;cases h
 rw[if_neg h12] at h;have h13:¬((y.bias.all fun x=>x.ex)=false):=fun c=>by rw[if_pos c] at h;cases h
 rw[if_neg h13] at h;simp only[Bool.not_eq_false] at h1 h12 h13
 exact⟨by unfold picOk;rw[h1,decide_eq_true (show 0≤y.pad by omega),decide_eq_true (show y.pad<y.kh by omega),decide_eq_true (show y.pad<y.kw by omega)];rfl,zo,zo,zo,Classical.not_not.1 h5,Classical.not_not.1 h8,Classical.not_not.1 h9,h12,h13⟩
theorem bh_conv_yes {y:Ly} {n:Int} (k:y.kind=2) (h1:picOk y=true) (h2:0≤cHigh y) (h3:0≤cWide y) (h4:y.rn+y.gn=0) (h5:y.ch*y.high*y.wide=n) (h6:(y.kn:Int)=y.out*cEach y) (h7:(y.bn:Int)=y.out) (h8:(y.kern.all fun x=>x.ex)=true) (h9:(y.bias.all fun x=>x.ex)=true):zAd y n=some (cUnits y,cUnits y*cEach y):=by
 unfold picOk at h1
 simp only[Bool.and_eq_true,decide_eq_true_eq] at h1
 obtain⟨a,b,c,d⟩:=h1;unfold zAd convF
 rw[if_neg zo,if_pos k,if_neg (by rw[a];simp),if_neg zo,if_neg zo,if_neg zo,if_neg (fun h=>h h5),if_neg zo,if_neg zo,if_neg (fun h=>h h6),if_neg (fun h=>h h7),if_neg zo,if_neg zo,if_neg (by rw[h8];simp),if_neg (by rw[h9];simp)]
theorem bh_bias {w:World} {m:Nat} {y:Ly} {n:Int} (h:LyOk w m y) (hb:(y.bias.all fun x=>x.ex)=false):zAd y n=none:=by
 have hl:=h.bias.1;have hz:y.bn≠0:=fun e=>by
  rw[e] at hl;rw[List.length_eq_zero_iff.1 hl] at hb;cases hb
 by_cases k1:y.kind=1
 ·exact none_of (bh_aff k1) (fun c=>by rw[c.2.2.2.2.2.2] at hb;cases hb)
 ·by_cases k2:y.kind=2
  ·exact none_of (bh_conv k2) (fun c=>by rw[c.2.2.2.2.2.2.2.2] at hb;cases hb)
  ·by_cases k3:y.kind=3
   ·rw[bh_relu k3,if_neg zo]
   ·by_cases k4:y.kind=4
    ·exact none_of (bh_pool k4) (fun c=>hz c.2.2.2.1)
    ·exact bh_other k1 k2 k3 k4
theorem bh_kern {w:World} {m:Nat} {y:Ly} {n:Int} (h:LyOk w m y) (hb:(y.kern.all fun x=>x.ex)=false):zAd y n=none:=by
 have hl:=h.kern.1;have hz:y.kn≠0:=fun e=>by
  rw[e] at hl;rw[List.length_eq_zero_iff.1 hl] at hb;cases hb
 by_cases k1:y.kind=1
 ·exact none_of (bh_aff k1) (fun c=>hz c.2.1)
 ·by_cases k2:y.kind=2
  ·exact none_of (bh_conv k2) (fun c=>by rw[c.2.2.2.2.2.2.2.1] at hb;cases hb)
  ·by_cases k3:y.kind=3
   ·rw[bh_relu k3,if_neg zo]
   ·by_cases k4:y.kind=4
    ·exact none_of (bh_pool k4) (fun c=>hz c.2.1)
    ·exact bh_other k1 k2 k3 k4
def BA1 (w:World) (cs:Array Value) (y:Ly) (n:Int) (gk:Nat) (s8 s9:Value) (wr:World):Prop :=
 ∃i:Nat,i≤y.rn∧y.rn-i=gk∧s8=.int .i64 (lens (y.rows.take i):Int)∧s9=.int .i64 (i:Int)∧Bx wr w.heap.size cs 49∧Below w.heap.size w wr∧(y.rows.take i).all (fun v=>rightB v.L n)=true
theorem cnt_pos {h s:Int} (hs:1≤s):0<cnt h s↔0≤h:=by
 unfold cnt
 by_cases c:h<0
 ·rw[if_pos c];omega
 ·rw[if_neg c];have:=Int.ediv_nonneg (a:=h) (b:=s) zo zo;omega
theorem cnt_bd {h s B:Int} (hs:1≤s) (hB:0≤B) (hh:h≤B):0≤cnt h s∧cnt h s≤B+1:=by
 unfold cnt
 by_cases c:h<0
 ·rw[if_pos c];omega
 ·rw[if_neg c];have h1:=Int.ediv_nonneg (a:=h) (b:=s) zo zo;have h2:=Int.ediv_le_self (a:=h) s zo;omega
structure PicN (y:Ly) (R C:Int) (b:Bool):Prop where
 r:cnt (cHigh y) y.st=R
 c:cnt (cWide y) y.st=C
 e:(decide (0<R)&&decide (0<C))=b
 iff:b=true↔0≤cHigh y∧0≤cWide y
theorem pic_nums {y:Ly} (h:picOk y=true):∃(R C:Int) (b:Bool),Hid (PicN y R C b)∧(0≤R∧R≤1000)∧(0≤C∧C≤1000)∧ConvOk y:=by
 have h0:=h;unfold picOk at h
 rw[Bool.and_eq_true] at h;obtain⟨h1,h2⟩:=h;simp only[Bool.and_eq_true,decide_eq_true_eq] at h2
 have q:=sides_ok h1;have s1:=q.st.1;have b1:cHigh y≤800:=by unfold cHigh;have:=q.high;have:=q.kh;omega
 have b2:cWide y≤800:=by unfold cWide;have:=q.wide;have:=q.kw;omega
 have c1:=cnt_bd s1 zo b1;have c2:=cnt_bd s1 zo b2;refine⟨_,_,_,zh ⟨rfl,rfl,rfl,?_⟩,zo,zo,q⟩;rw[Bool.and_eq_true,decide_eq_true_eq,decide_eq_true_eq,cnt_pos s1,cnt_pos s1]
theorem pic_is {w:World} {y:Ly} (h:Hid (picOk y=true)) {R C:Int} {b:Bool} (hn:Hid (PicN y R C b)) :
  Calls Tryz.prog 43 #[.agg #[.int .u8 y.kind,.slice y.rA y.rn y.rc,.slice y.bA y.bn y.bc,.int .i64 y.ch,.int .i64 y.high,.int .i64 y.wide,.int .i64 y.out,.int .i64 y.kh,.int .i64 y.kw,.int .i64 y.st,.int .i64 y.pad,.slice y.kA y.kn y.kc,.slice y.gA y.gn y.gc]] w fun e w'=>e=.returned (.tuple #[.int .i64 R,.int .i64 C,.bool b])∧Below w.heap.size w w':=by
 obtain⟨r,c,e,i⟩:=hn.out;subst r c e;exact pic_yes h.out
theorem pic_res {y:Ly} {n R C:Int} (k:y.kind=2) (h1:picOk y=true) (hn:PicN y R C true) (h4:y.rn+y.gn=0) (h5:y.ch*y.high*y.wide=n) (h6:(y.kn:Int)=y.out*y.ch*y.kh*y.kw) (h7:(y.bn:Int)=y.out) (h8:(y.kern.all fun x=>x.ex)=true) (h9:(y.bias.all fun x=>x.ex)=true):zAd y n=some (y.out*R*C,y.out*R*C*y.ch*y.kh*y.kw):=by
 obtain⟨i1,i2⟩:=hn.iff.1 rfl;have eR:R=cHigh y / y.st+1:=by rw[←hn.r];unfold cnt;rw[if_neg zo]
 have eC:C=cWide y / y.st+1:=by rw[←hn.c];unfold cnt;rw[if_neg zo]
 rw[bh_conv_yes k h1 i1 i2 h4 h5 (by rw[h6];unfold cEach;simp only[Int.mul_assoc]) h7 h8 h9];unfold cUnits cEach
 rw[←eR,←eC];simp only[Int.mul_assoc]
def BP1 (w:World) (cs:Array Value) (y:Ly) (n:Int) (gk:Nat) (s8 s13:Value) (wr:World):Prop :=
 ∃i:Nat,i≤y.gn∧y.gn-i=gk∧s8=.int .i64 (glens (y.groups.take i):Int)∧s13=.int .i64 (i:Int)∧Bx wr w.heap.size cs 49∧Below w.heap.size w wr∧(y.groups.take i).all (fun v=>groupB n v)=true
def BP2 (w:World) (cs:Array Value) (L:List Int) (n:Int) (vn gk:Nat) (s15:Value) (wr:World):Prop :=
 ∃k:Nat,k≤vn∧vn-k=gk∧s15=.int .i64 (k:Int)∧Bx wr w.heap.size cs 49∧Below w.heap.size w wr∧risesB n (-1) (L.take k)=true
theorem lastOf_ge {n:Int}:∀{L:List Int} {a:Int},risesB n a L=true→a≤lastOf a L
 | [],a,_=>Int.le_refl _
 | x :: xs,a,h=>by
  replace h:((decide (a<x)&&decide (x<n))&&risesB n x xs)=true:=h;simp only[Bool.and_eq_true,decide_eq_true_eq] at h
  have e:lastOf a (x :: xs)=lastOf x xs:=by simp[lastOf,List.getLast?_cons]
  have:=lastOf_ge h.2;rw[e];omega
theorem group_no {n:Int} {v:Gp} (h:v.n<1):groupB n v=false:=by unfold groupB;rw[decide_eq_false zo];rfl
theorem group_bad {n:Int} {v:Gp} {k:Nat} {x:Int} (hx:v.L[k]?=some x) (h:¬(lastOf (-1) (v.L.take k)<x∧x<n)):groupB n v=false:=by
 unfold groupB
 have:risesB n (-1) (v.L.take (k+1))=false:=by
  have hd:(decide (lastOf (-1) (v.L.take k)<x)&&decide (x<n))=false:=by rw[←Bool.decide_and];exact decide_eq_false h
  rw[take_snoc hx,risesB_snoc,hd,Bool.and_false]
 rw[risesB_no this,Bool.and_false]
theorem rises_on {n:Int} {L:List Int} {k:Nat} {x:Int} (h:risesB n (-1) (L.take k)=true) (hx:L[k]?=some x) (h1:lastOf (-1) (L.take k)<x) (h2:x<n):risesB n (-1) (L.take (k+1))=true:=by
 rw[take_snoc hx,risesB_snoc,h,decide_eq_true h1,decide_eq_true h2];rfl
theorem last_at {L:List Int} {j:Nat} {p:Int} (h:L[j]?=some p):lastOf (-1) (L.take (j+1))=p:=by rw[take_snoc h,lastOf_snoc]
theorem group_yes {n:Int} {v:Gp} (h:1≤v.n) (hr:risesB n (-1) v.L=true):groupB n v=true:=by unfold groupB;rw[decide_eq_true zo,hr];rfl
theorem behind_bias {w:World} {m:Nat} {y:Ly} {n:Int} (h:LyOk w m y) (hm:m≤1900) (HFb:Hid ((y.bias.all fun x=>x.ex)=false)) (_hT:Hid (Tab w)) :
  Calls Tryz.prog 25 #[.agg #[.int .u8 y.kind,.slice y.rA y.rn y.rc,.slice y.bA y.bn y.bc,.int .i64 y.ch,.int .i64 y.high,.int .i64 y.wide,.int .i64 y.out,.int .i64 y.kh,.int .i64 y.kw,.int .i64 y.st,.int .i64 y.pad,.slice y.kA y.kn y.kc,.slice y.gA y.gn y.gc],.int .i64 n] w (TB2 w (zAd y n)):=by
 have hl:=h.lens;obtain⟨W,hW,x0,hB⟩:=zY w y;have HX0:=zh x0;clear x0;have Bz:=zr W;go_enter Tryz.func25,Tryz.ntmps25
 go_upto_region 1 with(fail)
 rw[←hW];clear hW;go_cut [7] (fun v wx=>v=.bool (sizB y)∧Bx wx w.heap.size #[.int .u8 y.kind,.slice y.rA y.rn y.rc,.slice y.bA y.bn y.bc,.int .i64 y.ch,.int .i64 y.high,.int .i64 y.wide,.int .i64 y.out,.int .i64 y.kh,.int .i64 y.kw,.int .i64 y.st,.int .i64 y.pad,.slice y.kA y.kn y.kc,.slice y.gA y.gn y.gc] 49∧Below w.heap.size w wx)
 case first =>
  by_cases z0:y.ch=0
  rotate_left
  ·have HS:Hid (sizB y=true):=zh (by unfold sizB nums;simp[z0]);have n0:(y.ch != 0)=true:=bne_iff_ne.2 z0;have Bz:=zr W;have pa3:=(zxb HX0 Bz).cell 3 (.int .i64 y.ch) rfl;go_wp2_with fail
   go_meet
   case rel=>exact⟨by rw[HS.out],HX0.out.below Bz,bT hB Bz⟩
  have n0:(y.ch != 0)=false:=by rw[z0];rfl
  by_cases z1:y.high=0
  rotate_left
  ·have HS:Hid (sizB y=true):=zh (by unfold sizB nums;simp[z0,z1]);have n1:(y.high != 0)=true:=bne_iff_ne.2 z1;have Bz:=zr W;obtain⟨-,-,-,pa3,pa4,-⟩:=(zxb HX0 Bz).cz;go_wp2_with fail
   go_meet
   case rel=>exact⟨by rw[HS.out],HX0.out.below Bz,bT hB Bz⟩
  have n1:(y.high != 0)=false:=by rw[z1];rfl
  by_cases z2:y.wide=0
  rotate_left
  ·have HS:Hid (sizB y=true):=zh (by unfold sizB nums;simp[z0,z1,z2]);have n2:(y.wide != 0)=true:=bne_iff_ne.2 z2;have Bz:=zr W;obtain⟨-,-,-,pa3,pa4,pa5,-⟩:=(zxb HX0 Bz).cz;go_wp2_with fail
   go_meet
   case rel=>exact⟨by rw[HS.out],HX0.out.below Bz,bT hB Bz⟩
  have n2:(y.wide != 0)=false:=by rw[z2];rfl
  by_cases z3:y.out=0
  rotate_left
  ·have HS:Hid (sizB y=true):=zh (by unfold sizB nums;simp[z0,z1,z2,z3]);have n3:(y.out != 0)=true:=bne_iff_ne.2 z3;have Bz:=zr W;obtain⟨-,-,-,pa3,pa4,pa5,pa6,-⟩:=(zxb HX0 Bz).cz;go_wp2_with fail
   go_meet
   case rel=>exact⟨by rw[HS.out],HX0.out.below Bz,bT hB Bz⟩
  have n3:(y.out != 0)=false:=by rw[z3];rfl
  by_cases z4:y.kh=0
  rotate_left
  ·have HS:Hid (sizB y=true):=zh (by unfold sizB nums;simp[z0,z1,z2,z3,z4]);have n4:(y.kh != 0)=true:=bne_iff_ne.2 z4;have Bz:=zr W;obtain⟨-,-,-,pa3,pa4,pa5,pa6,pa7,-⟩:=(zxb HX0 Bz).cz;go_wp2_with fail
   go_meet
   case rel=>exact⟨by rw[HS.out],HX0.out.below Bz,bT hB Bz⟩
  have n4:(y.kh != 0)=false:=by rw[z4];rfl
  by_cases z5:y.kw=0
  rotate_left
  ·have HS:Hid (sizB y=true):=zh (by unfold sizB nums;simp[z0,z1,z2,z3,z4,z5]);have n5:(y.kw != 0)=true:=bne_iff_ne.2 z5;have Bz:=zr W;obtain⟨-,-,-,pa3,pa4,pa5,pa6,pa7,pa8,-⟩:=(zxb HX0 Bz).cz;go_wp2_with fail
   go_meet
   case rel=>exact⟨by rw[HS.out],HX0.out.below Bz,bT hB Bz⟩
  have n5:(y.kw != 0)=false:=by rw[z5];rfl
  by_cases z6:y.st=0
  rotate_left
  ·have HS:Hid (sizB y=true):=zh (by unfold sizB nums;simp[z0,z1,z2,z3,z4,z5,z6]);have n6:(y.st != 0)=true:=bne_iff_ne.2 z6;have Bz:=zr W;obtain⟨-,-,-,pa3,pa4,pa5,pa6,pa7,pa8,pa9,-⟩:=(zxb HX0 Bz).cz;go_wp2_with fail
   go_meet
   case rel=>exact⟨by rw[HS.out],HX0.out.below Bz,bT hB Bz⟩
  have n6:(y.st != 0)=false:=by rw[z6];rfl
  by_cases z7:y.pad=0
  rotate_left
  ·have HS:Hid (sizB y=true):=zh (by unfold sizB nums;simp[z0,z1,z2,z3,z4,z5,z6,z7]);have n7:(y.pad != 0)=true:=bne_iff_ne.2 z7;have Bz:=zr W;obtain⟨-,-,-,pa3,pa4,pa5,pa6,pa7,pa8,pa9,paa,-⟩:=(zxb HX0 Bz).cz;go_wp2_with fail
   go_meet
   case rel=>exact⟨by rw[HS.out],HX0.out.below Bz,bT hB Bz⟩
  have n7:(y.pad != 0)=false:=by rw[z7];rfl
  have HS:Hid (sizB y=false):=zh (by unfold sizB nums;simp[z0,z1,z2,z3,z4,z5,z6,z7]);have Bz:=zr W;obtain⟨-,-,-,pa3,pa4,pa5,pa6,pa7,pa8,pa9,paa,-⟩:=(zxb HX0 Bz).cz;go_wp2_with fail
  go_meet
  case rel=>exact⟨by rw[HS.out],HX0.out.below Bz,bT hB Bz⟩
 case rest =>
  obtain⟨rfl,hx1,hB0⟩:=hcut;obtain⟨wx,rfl,hB1⟩:∃wx,wx=_∧Below w.heap.size w wx:=⟨_,rfl,hB0⟩;replace HX0:=zh hx1;clear hB hB0 hx1 Bz;have hB:=hB1;clear hB1;obtain⟨s,hs⟩:∃s,s=sizB y:=⟨_,rfl⟩;have HS:=zh hs.symm;rw[←hs];clear hs;have Bz:=zr wx;have pa2:=(zxb HX0 Bz).cell 2 (.slice y.bA y.bn y.bc) rfl;go_wp2_with fail
  with_reducible refine(zAi (h.bias.below (bT hB (bT (b:=wx) Bz))) (zh fun x hx=>(h.bok x hx).below (bT hB (bT (b:=wx) Bz))) hm zo false HFb).mono ?_
  rintro e w11 ⟨rfl,b11⟩;replace b11:=zq (a:=wx) b11;replace Bz:=bT Bz b11;clear b11;clear pa2;go_wp2_with fail
  go_ret3
  have hF:=bT (c:=w11) hB Bz;exact TB2.no (bh_bias h HFb.out) 0 0 rfl (bT hF)
theorem behind_kern {w:World} {m:Nat} {y:Ly} {n:Int} (h:LyOk w m y) (hm:m≤1900) (HFb:Hid ((y.bias.all fun x=>x.ex)=true)) (HFk:Hid ((y.kern.all fun x=>x.ex)=false)) (_hT:Hid (Tab w)) :
  Calls Tryz.prog 25 #[.agg #[.int .u8 y.kind,.slice y.rA y.rn y.rc,.slice y.bA y.bn y.bc,.int .i64 y.ch,.int .i64 y.high,.int .i64 y.wide,.int .i64 y.out,.int .i64 y.kh,.int .i64 y.kw,.int .i64 y.st,.int .i64 y.pad,.slice y.kA y.kn y.kc,.slice y.gA y.gn y.gc],.int .i64 n] w (TB2 w (zAd y n)):=by
 have hl:=h.lens;obtain⟨W,hW,x0,hB⟩:=zY w y;have HX0:=zh x0;clear x0;have Bz:=zr W;go_enter Tryz.func25,Tryz.ntmps25
 go_upto_region 1 with(fail)
 rw[←hW];clear hW;go_cut [7] (fun v wx=>v=.bool (sizB y)∧Bx wx w.heap.size #[.int .u8 y.kind,.slice y.rA y.rn y.rc,.slice y.bA y.bn y.bc,.int .i64 y.ch,.int .i64 y.high,.int .i64 y.wide,.int .i64 y.out,.int .i64 y.kh,.int .i64 y.kw,.int .i64 y.st,.int .i64 y.pad,.slice y.kA y.kn y.kc,.slice y.gA y.gn y.gc] 49∧Below w.heap.size w wx)
 case first =>
  by_cases z0:y.ch=0
  rotate_left
  ·have HS:Hid (sizB y=true):=zh (by unfold sizB nums;simp[z0]);have n0:(y.ch != 0)=true:=bne_iff_ne.2 z0;have Bz:=zr W;have pa3:=(zxb HX0 Bz).cell 3 (.int .i64 y.ch) rfl;go_wp2_with fail
   go_meet
   case rel=>exact⟨by rw[HS.out],HX0.out.below Bz,bT hB Bz⟩
  have n0:(y.ch != 0)=false:=by rw[z0];rfl
  by_cases z1:y.high=0
  rotate_left
  ·have HS:Hid (sizB y=true):=zh (by unfold sizB nums;simp[z0,z1]);have n1:(y.high != 0)=true:=bne_iff_ne.2 z1;have Bz:=zr W;obtain⟨-,-,-,pa3,pa4,-⟩:=(zxb HX0 Bz).cz;go_wp2_with fail
   go_meet
   case rel=>exact⟨by rw[HS.out],HX0.out.below Bz,bT hB Bz⟩
  have n1:(y.high != 0)=false:=by rw[z1];rfl
  by_cases z2:y.wide=0
  rotate_left
  ·have HS:Hid (sizB y=true):=zh (by unfold sizB nums;simp[z0,z1,z2]);have n2:(y.wide != 0)=true:=bne_iff_ne.2 z2;have Bz:=zr W;obtain⟨-,-,-,pa3,pa4,pa5,-⟩:=(zxb HX0 Bz).cz;go_wp2_with fail
   go_meet
   case rel=>exact⟨by rw[HS.out],HX0.out.below Bz,bT hB Bz⟩
  have n2:(y.wide != 0)=false:=by rw[z2];rfl
  by_cases z3:y.out=0
  rotate_left
  ·have HS:Hid (sizB y=true):=zh (by unfold sizB nums;simp[z0,z1,z2,z3]);have n3:(y.out != 0)=true:=bne_iff_ne.2 z3;have Bz:=zr W;obtain⟨-,-,-,pa3,pa4,pa5,pa6,-⟩:=(zxb HX0 Bz).cz;go_wp2_with fail
   go_meet
   case rel=>exact⟨by rw[HS.out],HX0.out.below Bz,bT hB Bz⟩
  have n3:(y.out != 0)=false:=by rw[z3];rfl
  by_cases z4:y.kh=0
  rotate_left
  ·have HS:Hid (sizB y=true):=zh (by unfold sizB nums;simp[z0,z1,z2,z3,z4]);have n4:(y.kh != 0)=true:=bne_iff_ne.2 z4;have Bz:=zr W;obtain⟨-,-,-,pa3,pa4,pa5,pa6,pa7,-⟩:=(zxb HX0 Bz).cz;go_wp2_with fail
   go_meet
   case rel=>exact⟨by rw[HS.out],HX0.out.below Bz,bT hB Bz⟩
  have n4:(y.kh != 0)=false:=by rw[z4];rfl
  by_cases z5:y.kw=0
  rotate_left
  ·have HS:Hid (sizB y=true):=zh (by unfold sizB nums;simp[z0,z1,z2,z3,z4,z5]);have n5:(y.kw != 0)=true:=bne_iff_ne.2 z5;have Bz:=zr W;obtain⟨-,-,-,pa3,pa4,pa5,pa6,pa7,pa8,-⟩:=(zxb HX0 Bz).cz;go_wp2_with fail
   go_meet
   case rel=>exact⟨by rw[HS.out],HX0.out.below Bz,bT hB Bz⟩
  have n5:(y.kw != 0)=false:=by rw[z5];rfl
  by_cases z6:y.st=0
  rotate_left
  ·have HS:Hid (sizB y=true):=zh (by unfold sizB nums;simp[z0,z1,z2,z3,z4,z5,z6]);have n6:(y.st != 0)=true:=bne_iff_ne.2 z6;have Bz:=zr W;obtain⟨-,-,-,pa3,pa4,pa5,pa6,pa7,pa8,pa9,-⟩:=(zxb HX0 Bz).cz;go_wp2_with fail
   go_meet
   case rel=>exact⟨by rw[HS.out],HX0.out.below Bz,bT hB Bz⟩
  have n6:(y.st != 0)=false:=by rw[z6];rfl
  by_cases z7:y.pad=0
  rotate_left
  ·have HS:Hid (sizB y=true):=zh (by unfold sizB nums;simp[z0,z1,z2,z3,z4,z5,z6,z7]);have n7:(y.pad != 0)=true:=bne_iff_ne.2 z7;have Bz:=zr W;obtain⟨-,-,-,pa3,pa4,pa5,pa6,pa7,pa8,pa9,paa,-⟩:=(zxb HX0 Bz).cz;go_wp2_with fail
   go_meet
   case rel=>exact⟨by rw[HS.out],HX0.out.below Bz,bT hB Bz⟩
  have n7:(y.pad != 0)=false:=by rw[z7];rfl
  have HS:Hid (sizB y=false):=zh (by unfold sizB nums;simp[z0,z1,z2,z3,z4,z5,z6,z7]);have Bz:=zr W;obtain⟨-,-,-,pa3,pa4,pa5,pa6,pa7,pa8,pa9,paa,-⟩:=(zxb HX0 Bz).cz;go_wp2_with fail
  go_meet
  case rel=>exact⟨by rw[HS.out],HX0.out.below Bz,bT hB Bz⟩
 case rest =>
  obtain⟨rfl,hx1,hB0⟩:=hcut;obtain⟨wx,rfl,hB1⟩:∃wx,wx=_∧Below w.heap.size w wx:=⟨_,rfl,hB0⟩;replace HX0:=zh hx1;clear hB hB0 hx1 Bz;have hB:=hB1;clear hB1;obtain⟨s,hs⟩:∃s,s=sizB y:=⟨_,rfl⟩;have HS:=zh hs.symm;rw[←hs];clear hs;have Bz:=zr wx;have pa2:=(zxb HX0 Bz).cell 2 (.slice y.bA y.bn y.bc) rfl;go_wp2_with fail
  with_reducible refine(zAi (h.bias.below (bT hB (bT (b:=wx) Bz))) (zh fun x hx=>(h.bok x hx).below (bT hB (bT (b:=wx) Bz))) hm zo true HFb).mono ?_
  rintro e w11 ⟨rfl,b11⟩;replace b11:=zq (a:=wx) b11;replace Bz:=bT Bz b11;clear b11;clear pa2;have pab:=(zxb HX0 Bz).cell 11 (.slice y.kA y.kn y.kc) rfl;go_wp2_with fail
  with_reducible refine(zAi (h.kern.below (bT hB (bT (b:=w11) Bz))) (zh fun x hx=>(h.kok x hx).below (bT hB (bT (b:=w11) Bz))) hm zo false HFk).mono ?_
  rintro e w12 ⟨rfl,b12⟩;replace b12:=zq (a:=w11) b12;replace Bz:=bT Bz b12;clear b12;clear pab;go_wp2_with fail
  go_ret3
  have hF:=bT (c:=w12) hB Bz;exact TB2.no (bh_kern h HFk.out) 0 0 rfl (bT hF)
end Go.Proofs.YtidjjejgbahcgaaGreatDoor
