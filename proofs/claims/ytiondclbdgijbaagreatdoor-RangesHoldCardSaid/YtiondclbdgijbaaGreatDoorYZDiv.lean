import Derived.Test.YtiondclbdgijbaaGreatDoorYZBits
import Derived.Deep.DeepCutAuto
import Derived.Deep.CutBlock
import Derived.Lib.ItoaNum
set_option maxHeartbeats 4000000
set_option maxRecDepth 100000
namespace Go.Proofs.YtiondclbdgijbaaGreatDoor
open Go.RowKit Tw
theorem wr {z:Int} {n:Nat} (h:z=(n:Int)) (hn:n<B):IntKind.u64.wrap z=(n:Int):=by
 rw[B_eq] at hn;rw[IntKind.wrap_u64,h];omega
theorem wrm (z:Int):∃m:Nat,IntKind.u64.wrap z=(m:Int)∧(m:Int)=z % 18446744073709551616:=by
 refine⟨(z % 18446744073709551616).toNat,?_,?_⟩
 ·rw[IntKind.wrap_u64];omega
 ·omega
theorem sub_wrap {x d p:Int} {t:Nat} (h:x+d=p+t) (ht:t<B):IntKind.u64.wrap (IntKind.u64.wrap (IntKind.u64.wrap x+d)-IntKind.u64.wrap p)=(t:Int):=by
 rw[B_eq] at ht;simp only[IntKind.wrap_u64]
 omega
theorem dec_true {p:Prop} [Decidable p] (h:p):decide p=true:=jA h
theorem dec_false {p:Prop} [Decidable p] (h:¬p):decide p=false:=yA h
theorem round_facts {u d y1 y0 q r:Nat} (hi:HIn u d y1 y0) (hr:r<H) :
  (q<H→IntKind.u64.wrap ((q:Int)*(y0:Int))=((q*y0:Nat):Int))∧IntKind.u64.wrap (4294967296*(r:Int))=((H*r:Nat):Int)∧IntKind.u64.wrap (((H*r:Nat):Int)+(d:Int))=((H*r+d:Nat):Int)∧
   IntKind.u64.wrap ((r:Int)+(y1:Int))=((r+y1:Nat):Int):=by
 have h1:=hi.hd;have h2:=hi.hy0;have h3:=hi.hy1;have h4:H*r+H≤B:=by rw[←HH,←Nat.mul_succ];exact aC _ hr
 have h5:H≤B:=by decide
 refine⟨fun hq=>wr (by simp) ?_,wr (by rw[H_eq];omega) zo,wr zo zo,wr zo ?_⟩
 ·have:q*y0≤q*H:=aC _ zo;have:q*H<H*H:=Nat.mul_lt_mul_of_pos_right hq H_pos;rw[←HH];omega
 ·rw[B_eq];rw[H_eq] at hr h3;omega
theorem dec_facts {u d y1 y0 q r:Nat} (hi:HIn u d y1 y0) (hr:r<H) (hv:HInv u d y1 y0 q r) (ht:H≤q∨H*r+d<q*y0) :
  ∃q' r':Nat,IntKind.u64.wrap ((q:Int)-1)=(q':Int)∧IntKind.u64.wrap ((r:Int)+(y1:Int))=(r':Int)∧
   ((decide ((4294967296:Int)≤(r':Int))=false∧Hid (q'<q∧r'<H∧HInv u d y1 y0 q' r'))∨(decide ((4294967296:Int)≤(r':Int))=true∧Hid (q'=(u*H+d) / (y1*H+y0)))):=by
 obtain⟨h1,h2,h3⟩:=hv.dec hi ht;have hb:H<B:=by decide
 refine⟨q-1,r+y1,wr zo zo,(round_facts (q:=q) hi hr).2.2.2,?_⟩;by_cases h:H≤r+y1
 ·exact .inr ⟨dec_true (by rw[H_eq] at h;omega),h2.break_ hi h3 h⟩
 ·exact .inl ⟨dec_false (by rw[H_eq] at h;omega),zo,zo,h2⟩
def RoundA (_u _d y1 _y0 q r:Nat) (q' r':Nat):Prop:=decide ((4294967296:Int)≤(q:Int))=true∧IntKind.u64.wrap ((q:Int)-1)=(q':Int)∧IntKind.u64.wrap ((r:Int)+(y1:Int))=(r':Int)
def RoundB (_u d _y1 y0 q r:Nat) (m k1 k2:Nat):Prop:=decide ((4294967296:Int)≤(q:Int))=false∧IntKind.u64.wrap ((q:Int)*(y0:Int))=(m:Int)∧IntKind.u64.wrap (4294967296*(r:Int))=(k1:Int)∧IntKind.u64.wrap ((k1:Int)+(d:Int))=(k2:Int)
theorem round_cases {u d y1 y0 q r:Nat} (hi:HIn u d y1 y0) (hr:r<H) (hv:HInv u d y1 y0 q r) :
  (∃q' r',RoundA u d y1 y0 q r q' r'∧decide ((4294967296:Int)≤(r':Int))=false∧Hid (q'<q∧r'<H∧HInv u d y1 y0 q' r'))∨
  (∃q' r',RoundA u d y1 y0 q r q' r'∧decide ((4294967296:Int)≤(r':Int))=true∧Hid (q'=(u*H+d) / (y1*H+y0)))∨
  (∃m k1 k2 q' r':Nat,RoundB u d y1 y0 q r m k1 k2∧k2<m∧IntKind.u64.wrap ((q:Int)-1)=(q':Int)∧IntKind.u64.wrap ((r:Int)+(y1:Int))=(r':Int)∧decide ((4294967296:Int)≤(r':Int))=false∧Hid (q'<q∧r'<H∧HInv u d y1 y0 q' r'))∨
  (∃m k1 k2 q' r':Nat,RoundB u d y1 y0 q r m k1 k2∧k2<m∧IntKind.u64.wrap ((q:Int)-1)=(q':Int)∧IntKind.u64.wrap ((r:Int)+(y1:Int))=(r':Int)∧decide ((4294967296:Int)≤(r':Int))=true∧Hid (q'=(u*H+d) / (y1*H+y0)))∨
  (∃m k1 k2:Nat,RoundB u d y1 y0 q r m k1 k2∧m≤k2∧Hid (q=(u*H+d) / (y1*H+y0))):=by
 by_cases hq:H≤q
 ·obtain⟨q',r',a1,a2,a3⟩:=dec_facts hi hr hv (.inl hq);have T:decide ((4294967296:Int)≤(q:Int))=true:=dec_true (by rw[H_eq] at hq;omega);rcases a3 with a3 | a3
  ·exact .inl ⟨q',r',⟨T,a1,a2⟩,a3⟩
  ·exact .inr (.inl ⟨q',r',⟨T,a1,a2⟩,a3⟩)
 ·have T:decide ((4294967296:Int)≤(q:Int))=false:=dec_false (by rw[H_eq] at hq;omega);obtain⟨w1,w2,w3,_⟩:=round_facts (q:=q) hi hr;have R:RoundB u d y1 y0 q r (q*y0) (H*r) (H*r+d):=⟨T,w1 zo,w2,w3⟩;by_cases ht:H*r+d<q*y0
  ·obtain⟨q',r',a1,a2,a3⟩:=dec_facts hi hr hv (.inr ht);rcases a3 with a3 | a3
   ·exact .inr (.inr (.inl ⟨_,_,_,q',r',R,ht,a1,a2,a3⟩))
   ·exact .inr (.inr (.inr (.inl ⟨_,_,_,q',r',R,ht,a1,a2,a3⟩)))
  ·exact .inr (.inr (.inr (.inr ⟨_,_,_,R,zo,hv.test hi zo⟩)))
theorem div64_walk (hi lo y s Y y1 y0 h2 u v d1 d0 qa za ra qb zb rb e1 e2 e3 u2 f1 f2 f3 f4 quo g1 rem:Nat) (w:World) (h0:0<hi) (h1:hi<y) (hs1:s<64)
  (HL:Hid (∀W,Calls Tryz.prog 140 #[.int .u64 (y:Int)] W fun e w'=>e=.returned (.int .i64 (s:Int))∧W=w'))
  (r1:IntKind.u64.wrap ((y:Int)*2 ^ s)=(Y:Int)) (r2:(Y:Int) / 4294967296=(y1:Int)) (r3:bits BinOp.and IntKind.u64 (Y:Int) 4294967295=(y0:Int)) (r4:IntKind.u64.wrap ((hi:Int)*2 ^ s)=(h2:Int))
  (r5:bits BinOp.or IntKind.u64 (h2:Int) ((lo:Int) / 2 ^ (64-s))=(u:Int)) (r6:IntKind.u64.wrap ((lo:Int)*2 ^ s)=(v:Int)) (r7:(v:Int) / 4294967296=(d1:Int)) (r8:bits BinOp.and IntKind.u64 (v:Int) 4294967295=(d0:Int))
  (r9:IntKind.u64.wrap ((u:Int) / (y1:Int))=(qa:Int)) (r10:IntKind.u64.wrap ((qa:Int)*(y1:Int))=(za:Int)) (r11:IntKind.u64.wrap ((u:Int)-(za:Int))=(ra:Int))
  (p1:0<y1) (HI:Hid (HIn u d1 y1 y0)) (HS:Hid (HInv u d1 y1 y0 qa ra∧ra<H)) (HY:Hid (Y=y1*H+y0))
  (x1:IntKind.u64.wrap ((u:Int)*4294967296)=(e1:Int)) (x2:IntKind.u64.wrap ((e1:Int)+(d1:Int))=(e2:Int)) (x3:IntKind.u64.wrap ((((u*H+d1) / Y:Nat):Int)*(Y:Int))=(e3:Int)) (x4:IntKind.u64.wrap ((e2:Int)-(e3:Int))=(u2:Int))
  (x5:IntKind.u64.wrap ((u2:Int) / (y1:Int))=(qb:Int)) (x6:IntKind.u64.wrap ((qb:Int)*(y1:Int))=(zb:Int)) (x7:IntKind.u64.wrap ((u2:Int)-(zb:Int))=(rb:Int))
  (HI2:Hid (HIn u2 d0 y1 y0)) (HS2:Hid (HInv u2 d0 y1 y0 qb rb∧rb<H))
  (z1:IntKind.u64.wrap ((((u*H+d1) / Y:Nat):Int)*4294967296)=(g1:Int)) (z2:IntKind.u64.wrap ((g1:Int)+(((u2*H+d0) / Y:Nat):Int))=(quo:Int))
  (z3:IntKind.u64.wrap ((u2:Int)*4294967296)=(f1:Int)) (z4:IntKind.u64.wrap ((f1:Int)+(d0:Int))=(f2:Int)) (z5:IntKind.u64.wrap ((((u2*H+d0) / Y:Nat):Int)*(Y:Int))=(f3:Int)) (z6:IntKind.u64.wrap ((f2:Int)-(f3:Int))=(f4:Int))
  (z7:(f4:Int) / 2 ^ s=(rem:Int)) :
  Calls Tryz.prog 139 #[.int .u64 (hi:Int),.int .u64 (lo:Int),.int .u64 (y:Int)] w fun e w'=>e=.returned (.tuple #[.int .u64 (quo:Int),.int .u64 (rem:Int)])∧w=w':=by
 have t1:((y:Int)==0)=false:=by simp;omega
 have t2:((hi:Int)==0)=false:=by simp;omega
 obtain⟨Q1,hQ1⟩:∃Q,Q=(u*H+d1) / Y:=⟨_,rfl⟩;obtain⟨Q0,hQ0⟩:∃Q,Q=(u2*H+d0) / Y:=⟨_,rfl⟩;rw[←hQ1] at x3 z1;rw[←hQ0] at z2 z5;have HQ1:=zh hQ1;have HQ0:=zh hQ0;clear hQ1 hQ0;go_enter Tryz.func139,Tryz.ntmps139
 go_upto_block 0 with(go_at_call 140;refine(HL.out _).mono ?_;rintro e w' ⟨rfl,rfl⟩)
 go_cut [15] (fun q wx=>q=.int .u64 (Q1:Int)∧wx=w)
 case first =>
  clear r1 r2 r3 r4 r5 r6 r7 r8 r9 r10 r11 x1 x2 x3 x4 x5 x6 x7 z1 z2 z3 z4 z5 z6 z7;go_wp2_with fail
  go_loop [15,16] (fun a b=>∃q r:Nat,a=.int .u64 q∧b=.int .u64 r∧r<H∧HInv u d1 y1 y0 q r) (fun a _=>(intOf a).toNat)
  case atStart=>exact⟨qa,ra,rfl,rfl,HS.out.2,HS.out.1⟩
  case round =>
   obtain⟨q,r,rfl,rfl,hr,hi⟩:=hrel;have HC:=zh (round_cases HI.out hr hi);clear hi hr;rcases HC.out with⟨q',r',⟨w1,w2,w3⟩,w4,HV⟩ | ⟨q',r',⟨w1,w2,w3⟩,w4,HV⟩ | ⟨m,k1,k2,q',r',⟨w1,w2,w3,w4⟩,w5,w6,w7,w8,HV⟩ | ⟨m,k1,k2,q',r',⟨w1,w2,w3,w4⟩,w5,w6,w7,w8,HV⟩ | ⟨m,k1,k2,⟨w1,w2,w3,w4⟩,w5,HV⟩
   ·clear HC;go_wp2_with fail
    go_round
    case rel=>exact⟨q',r',rfl,rfl,HV.out.2.1,HV.out.2.2⟩
    case measure=>have:=HV.out.1;simp[intOf];omega
   ·clear HC;go_wp2_with fail
    go_meet
    exact⟨by rw[HV.out,HQ1.out,HY.out],rfl⟩
   ·clear HC;go_wp2_with fail
    go_round
    case rel=>exact⟨q',r',rfl,rfl,HV.out.2.1,HV.out.2.2⟩
    case measure=>have:=HV.out.1;simp[intOf];omega
   ·clear HC;go_wp2_with fail
    go_meet
    exact⟨by rw[HV.out,HQ1.out,HY.out],rfl⟩
   ·clear HC;go_wp2_with fail
    go_meet
    exact⟨by rw[HV.out,HQ1.out,HY.out],rfl⟩
 case rest =>
  obtain⟨rfl,rfl⟩:=hcut;clear r1 r2 r3 r4 r5 r6 r7 r8 r9 r10 r11;go_upto_block 2 with fail
  go_cut [18] (fun q wx=>q=.int .u64 (Q0:Int)∧wx=wc)
  case first =>
   clear x1 x2 x3 x4 x5 x6 x7 z1 z2 z3 z4 z5 z6 z7;go_wp2_with fail
   go_loop [18,16] (fun a b=>∃q r:Nat,a=.int .u64 q∧b=.int .u64 r∧r<H∧HInv u2 d0 y1 y0 q r) (fun a _=>(intOf a).toNat)
   case atStart=>exact⟨qb,rb,rfl,rfl,HS2.out.2,HS2.out.1⟩
   case round =>
    obtain⟨q,r,rfl,rfl,hr,hi⟩:=hrel;have HC:=zh (round_cases HI2.out hr hi);clear hi hr;rcases HC.out with⟨q',r',⟨w1,w2,w3⟩,w4,HV⟩ | ⟨q',r',⟨w1,w2,w3⟩,w4,HV⟩ | ⟨m,k1,k2,q',r',⟨w1,w2,w3,w4⟩,w5,w6,w7,w8,HV⟩ | ⟨m,k1,k2,q',r',⟨w1,w2,w3,w4⟩,w5,w6,w7,w8,HV⟩ | ⟨m,k1,k2,⟨w1,w2,w3,w4⟩,w5,HV⟩
    ·clear HC;go_wp2_with fail
     go_round
     case rel=>exact⟨q',r',rfl,rfl,HV.out.2.1,HV.out.2.2⟩
     case measure=>have:=HV.out.1;simp[intOf];omega
    ·clear HC;go_wp2_with fail
     go_meet
     exact⟨by rw[HV.out,HQ0.out,HY.out],rfl⟩
    ·clear HC;go_wp2_with fail
     go_round
     case rel=>exact⟨q',r',rfl,rfl,HV.out.2.1,HV.out.2.2⟩
     case measure=>have:=HV.out.1;simp[intOf];omega
    ·clear HC;go_wp2_with fail
     go_meet
     exact⟨by rw[HV.out,HQ0.out,HY.out],rfl⟩
    ·clear HC;go_wp2_with fail
     go_meet
     exact⟨by rw[HV.out,HQ0.out,HY.out],rfl⟩
  case rest =>
   obtain⟨rfl,rfl⟩:=hcut;clear x1 x2 x3 x4 x5 x6 x7;go_wp2_with fail
   go_ret2
   exact⟨rfl,rfl⟩
theorem cast_pow (a s:Nat):((a*2 ^ s:Nat):Int)=(a:Int)*2 ^ s:=by simp
theorem cast_div (a s:Nat):((a / 2 ^ s:Nat):Int)=(a:Int) / 2 ^ s:=by simp
theorem bitLen_bounds {y:Nat} (h0:y≠0) (h:y<B):1≤Lib.bitLen y∧Lib.bitLen y≤64∧2 ^ (Lib.bitLen y-1)≤y∧y<2 ^ Lib.bitLen y:=by
 obtain⟨a,b,c⟩:=Lib.bitLenAux_bounds 64 y h h0;exact⟨a,Lib.bitLen_le y 64 (aA _) h,b,c⟩
theorem top_set {y:Nat} (h0:y≠0) (h:y<B):H≤2*(y*2 ^ (64-Lib.bitLen y) / H)∧y*2 ^ (64-Lib.bitLen y)<B:=by
 obtain⟨a,b,c,d⟩:=bitLen_bounds h0 h;have e1:2 ^ (Lib.bitLen y-1)*2 ^ (64-Lib.bitLen y)≤y*2 ^ (64-Lib.bitLen y):=fB _ c;have e2:y*2 ^ (64-Lib.bitLen y)<2 ^ Lib.bitLen y*2 ^ (64-Lib.bitLen y):=Nat.mul_lt_mul_of_pos_right d (dD _);rw[←tC,show Lib.bitLen y-1+(64-Lib.bitLen y)=63 from by omega] at e1;rw[←tC,show Lib.bitLen y+(64-Lib.bitLen y)=64 from by omega] at e2;refine⟨?_,e2⟩;rw[H_eq];omega
theorem start_facts {u y1:Nat} (hu:u<B) (hp:0<y1):IntKind.u64.wrap ((u:Int) / (y1:Int))=((u / y1:Nat):Int)∧IntKind.u64.wrap (((u / y1:Nat):Int)*(y1:Int))=((u / y1*y1:Nat):Int)∧IntKind.u64.wrap ((u:Int)-((u / y1*y1:Nat):Int))=((u % y1:Nat):Int):=by
 have h1:=bC u y1;have h2:u / y1≤u:=tE _ _;have h3:u % y1<y1:=fC _ hp;rw[qB] at h1;refine⟨wr (by simp) zo,wr (by simp) zo,wr zo zo⟩
theorem rest_facts {u d q Y t:Nat} (h:u*H+d=q*Y+t) (ht:t<B) :
  ∃e1 e2 e3:Nat,IntKind.u64.wrap ((u:Int)*4294967296)=(e1:Int)∧IntKind.u64.wrap ((e1:Int)+(d:Int))=(e2:Int)∧IntKind.u64.wrap ((q:Int)*(Y:Int))=(e3:Int)∧IntKind.u64.wrap ((e2:Int)-(e3:Int))=(t:Int):=by
 obtain⟨e1,a1,_⟩:=wrm ((u:Int)*4294967296);obtain⟨e2,a2,_⟩:=wrm ((e1:Int)+(d:Int));obtain⟨e3,a3,_⟩:=wrm ((q:Int)*(Y:Int));refine⟨e1,e2,e3,a1,a2,a3,?_⟩;have:=sub_wrap (x:=(u:Int)*4294967296) (d:=(d:Int)) (p:=(q:Int)*(Y:Int)) (t:=t) (by
  have e:((u*H+d:Nat):Int)=((q*Y+t:Nat):Int):=by rw[h]
  rw[H_eq] at e;simpa using e) ht
 rw[a1,a2,a3] at this;exact this
theorem div64_pos (hi lo y:Nat) (w:World) (h0:0<hi) (h1:hi<y) (hlo:lo<B) (hy:y<B) :
  Calls Tryz.prog 139 #[.int .u64 (hi:Int),.int .u64 (lo:Int),.int .u64 (y:Int)] w fun e w'=>e=.returned (.tuple #[.int .u64 (((hi*B+lo) / y:Nat):Int),.int .u64 (((hi*B+lo) % y:Nat):Int)])∧w=w':=by
 have hy0:y≠0:=zo;obtain⟨b1,b2,b3,b4⟩:=bitLen_bounds hy0 hy;obtain⟨t1,t2⟩:=top_set hy0 hy;obtain⟨s,hs⟩:∃s,s=64-Lib.bitLen y:=⟨_,rfl⟩;rw[←hs] at t1 t2;have hs64:s<64:=zo;obtain⟨m1,m2,m3⟩:=moved (s:=s) zo h1 hlo t2;generalize hY:y*2 ^ s=Y at *
 generalize hu:hi*2 ^ s+lo / 2 ^ (64-s)=u at *
 generalize hv:lo*2 ^ s % B=v at *
 have hvB:v<B:=by rw[←hv];exact fC _ B_pos
 have hYe:Y=Y / H*H+Y % H:=by rw[qB];exact(bC Y H).symm
 have hy1:Y / H<H:=by rw[eC H_pos,HH];exact t2
 have hI:HIn u (v / H) (Y / H) (Y % H):=⟨zo,by rw[eC H_pos,HH];exact hvB,fC _ H_pos,hy1,t1⟩;have hp:=hI.pos;have hYp:0<Y:=zo;have hmod:=fC (u*H+v / H) hYp;have hI2:HIn ((u*H+v / H) % Y) (v % H) (Y / H) (Y % H):=⟨zo,fC _ H_pos,fC _ H_pos,hy1,t1⟩;obtain⟨a1,a2,a3⟩:=start_facts (u:=u) (y1:=Y / H) zo hp;obtain⟨c1,c2,c3⟩:=start_facts (u:=(u*H+v / H) % Y) (y1:=Y / H) zo hp;obtain⟨e1,e2,e3,x1,x2,x3,x4⟩:=rest_facts (u:=u) (d:=v / H) (q:=(u*H+v / H) / Y) (Y:=Y) (t:=(u*H+v / H) % Y) (Nat.div_add_mod' _ _).symm zo;have hmod2:=fC ((u*H+v / H) % Y*H+v % H) hYp;obtain⟨f1,f2,f3,z3,z4,z5,z6⟩:=rest_facts (u:=(u*H+v / H) % Y) (d:=v % H) (q:=((u*H+v / H) % Y*H+v % H) / Y) (Y:=Y) (t:=((u*H+v / H) % Y*H+v % H) % Y) (Nat.div_add_mod' _ _).symm zo;obtain⟨q1,q2⟩:=halves (N:=(hi*B+lo)*2 ^ s) (Y:=Y) (u:=u) (d1:=v / H) (d0:=v % H) (by rw[m1,qB (v / H)];rw[bC]) rfl rfl rfl rfl hYp;have hp2:0<2 ^ s:=dD s;rw[←hY] at q1 q2;obtain⟨k1,k2⟩:=scaled (n:=hi*B+lo) (y:=y) hp2;rw[k1] at q1;rw[q2] at k2;rw[hY] at q1 k2;have hqB:(hi*B+lo) / y<B:=by
  rw[eC zo];have:(hi+1)*B≤y*B:=fB _ h1;rw[xB,fE] at this;rw[qB B];omega
 have e5:IntKind.u64.wrap ((((u*H+v / H) / Y:Nat):Int)*4294967296)=(((u*H+v / H) / Y*H:Nat):Int):=wr (by rw[H_eq];simp) (aD (Nat.le_add_right _ _) (by rw[←q1];exact hqB));have hib:hi*2 ^ s<B:=aD (by rw[←hu];exact Nat.le_add_right _ _) (Nat.lt_trans m2 t2);have hlb:lo / 2 ^ (64-s)<B:=aD (tE _ _) hlo;have horr:bits BinOp.or IntKind.u64 ((hi*2 ^ s:Nat):Int) ((lo:Int) / 2 ^ (64-s))=(u:Int):=by
  rw[←cast_div,bits_or_u64_nat _ _ hib hlb,qB hi,←Nat.two_pow_add_eq_or_of_lt m3,qB,hu]
 have r6:IntKind.u64.wrap ((lo:Int)*2 ^ s)=(v:Int):=by
  rw[←cast_pow,IntKind.wrap_u64,←hv,B_eq];omega
 rw[←k2,q1];refine div64_walk hi lo y s Y (Y / H) (Y % H) (hi*2 ^ s) u v (v / H) (v % H) (u / (Y / H)) _ _ _ _ _ e1 e2 e3 _ f1 f2 f3 _ _ _ _ w h0 h1 hs64 ?_ (wr (by rw[←hY,cast_pow]) t2) (by rw[H_eq];omega) (Mul64.maskN Y t2) (wr (by rw[cast_pow]) hib) horr r6 (by rw[H_eq];omega) (Mul64.maskN v hvB) a1 a2 a3 hp hI
  (HInv.start hI) hYe x1 x2 x3 x4 c1 c2 c3 hI2 (HInv.start hI2) e5 (wr zo (by rw[←q1];exact hqB)) z3 z4 z5 z6 (cast_div _ _).symm
 exact fun W=>(lead64 y hy W).mono fun e w' ⟨he,hw⟩=>⟨by rw[he];exact ret_int zo,hw⟩
theorem div64_zero (lo y:Nat) (w:World) (h1:0<y) (hlo:lo<B) :
  Calls Tryz.prog 139 #[.int .u64 (0:Int),.int .u64 (lo:Int),.int .u64 (y:Int)] w fun e w'=>e=.returned (.tuple #[.int .u64 ((lo / y:Nat):Int),.int .u64 ((lo % y:Nat):Int)])∧∃n,w'=w.drewN n:=by
 have t1:((y:Int)==0)=false:=by simp;omega
 have r1:IntKind.u64.wrap ((lo:Int) / (y:Int))=((lo / y:Nat):Int):=wr (by simp) (aD (tE _ _) hlo);have r2:(lo:Int) % (y:Int)=((lo % y:Nat):Int):=by simp
 generalize lo / y=q at *
 generalize lo % y=r at *
 have HR:=zh r2;clear r2;go_enter Tryz.func139,Tryz.ntmps139
 go_wp2_with fail
 go_quiet (fail)
 go_wp2_with fail
 go_ret2
 refine⟨?_,_,rfl⟩;show Ending.returned (.tuple #[.int .u64 (q:Int),.int .u64 ((lo:Int) % (y:Int))])=_
 rw[HR.out]
theorem div64 (hi lo y:Nat) (w:World) (h1:hi<y) (hlo:lo<B) (hy:y<B) :
  Calls Tryz.prog 139 #[.int .u64 (hi:Int),.int .u64 (lo:Int),.int .u64 (y:Int)] w fun e w'=>e=.returned (.tuple #[.int .u64 (((hi*B+lo) / y:Nat):Int),.int .u64 (((hi*B+lo) % y:Nat):Int)])∧∃n,w'=w.drewN n:=by
 rcases qC hi with rfl | h0
 ·have:=div64_zero lo y w zo hlo;rw[yF,mC];exact this
 ·exact(div64_pos hi lo y w h0 h1 hlo hy).mono fun e w' ⟨he,hw⟩=>⟨he,0,hw.symm⟩
theorem max_zero (z:Int):max z 0=((z.toNat:Nat):Int):=zo
theorem down_nil (m:Nat) (w:World) (hm:m≤9223372036854775807):Calls Tryz.prog 137 #[.slice none 0 0,.int .i64 (m:Int)] w fun e w'=>e=.returned (.slice none 0 0)∧w=w':=by
 have q:∃W:Nat,(m:Int) / 64=(W:Int)∧wrap64 (W:Int)=(W:Int):=⟨m / 64,zo,IntWalk.wrap64_in _ ⟨zo,zo⟩⟩;obtain⟨W,q1,q2⟩:=q;clear hm;go_enter Tryz.func137,Tryz.ntmps137
 go_wp2_with fail
 go_ret
 exact⟨rfl,rfl⟩
theorem shr_any (A:Option Addr) (c:Nat) (z:Int) (xs:List Nat) (w:World) (h:Nums w A c xs) (hs:xs.length≤1000000000000) (hz:z≤9223372036854775807) :
  Calls Tryz.prog 142 #[.slice A xs.length c,.int .i64 z] w (Ret w (val xs / 2 ^ z.toNat)):=by
 have hm:=max_zero z;have hz2:z.toNat≤9223372036854775807:=zo;generalize z.toNat=m at hm hz2 ⊢
 have HZ:=zh hz2;clear hz hz2;have hl:=nl_val h.ok;have HT:=zh (trim_any A c xs w h zo);go_enter Tryz.func142,Tryz.ntmps142
 go_wp2_with fail
 refine HT.out.mono ?_;rintro e w1 ⟨A1,c1,rfl,ho1,hb1⟩;rcases ho1 with⟨h0,rfl,rfl⟩ | ⟨h0,g,zs,rfl,hg,hr,rfl,hln,ht,ho⟩
 ·have HR:Hid (Ret w (val xs / 2 ^ m) (.returned (.slice none 0 0)) w1):=by rw[h0,Nat.zero_div];exact⟨none,0,rfl,.inl ⟨rfl,rfl,rfl⟩,hb1⟩
  rw[h0];go_wp2_with fail
  refine(down_nil m w1 HZ.out).mono ?_;rintro e w2 ⟨rfl,rfl⟩;go_wp2_with fail
  go_ret
  exact HR.out
 ·have hd:=down_any g (nl (val xs)) m zs w1 hr ho hln zo HZ.out;rw[ht,val_limbs] at hd;have HD:=zh hd;clear hd;go_wp2_with fail
  refine HD.out.mono ?_;rintro e w2 ⟨A2,c2,rfl,ho2,hgr⟩;go_wp2_with fail
  go_ret
  exact⟨A2,c2,rfl,ho2.own hg,below_row hb1 hgr hg⟩
def nbits (v:Nat):Nat:=if v=0 then 0 else Nat.log2 v+1
theorem nbits_of {v m:Nat} (h0:v≠0) (h1:2 ^ m≤v) (h2:v<2 ^ (m+1)):m+1=nbits v:=by
 unfold nbits
 rw[dA h0];have a:=(Nat.le_log2 h0).2 h1;have b:=(Nat.log2_lt h0).2 h2;omega
theorem top_digit {v:Nat} (h:v≠0):v=val ((limbs v).take (nl v-1))+B ^ (nl v-1)*dg (limbs v) (nl v-1)∧val ((limbs v).take (nl v-1))<B ^ (nl v-1):=by
 have hp:=nl_pos h;have h1:=val_take_succ' (limbs v) (nl v-1);rw[show nl v-1+1=nl v from by omega,fA (by exact aA _),val_limbs] at h1;exact⟨h1,val_take_lt (ok_limbs v) _⟩
theorem nbits_top {v:Nat} (h:v≠0):64*(nl v-1)+Lib.bitLen (dg (limbs v) (nl v-1))=nbits v:=by
 obtain⟨e,hlt⟩:=top_digit h;have ht:dg (limbs v) (nl v-1)≠0:=top_ne h;obtain⟨b1,b2,b3,b4⟩:=bitLen_bounds ht (dg_lt (ok_limbs v) _);generalize dg (limbs v) (nl v-1)=d at *
 generalize val ((limbs v).take (nl v-1))=r at *
 generalize nl v-1=k at *
 have:=nbits_of (v:=v) (m:=64*k+(Lib.bitLen d-1)) h ?_ ?_
 ·omega
 ·rw[tC,pow_B];exact wA (aC _ b3) zo
 ·rw[show 64*k+(Lib.bitLen d-1)+1=64*k+Lib.bitLen d from by omega,tC,pow_B];have h1:B ^ k*(d+1)≤B ^ k*2 ^ Lib.bitLen d:=aC _ b4;rw[zA,kC] at h1;omega
theorem bitLen_le64 {d:Nat} (h:d<B):Lib.bitLen d≤64:=Lib.bitLen_le d 64 (aA _) h
theorem bits_any (A:Option Addr) (c:Nat) (xs:List Nat) (w:World) (h:Nums w A c xs) (hs:xs.length≤1000000000000) :
  Calls Tryz.prog 93 #[.slice A xs.length c] w fun e w'=>e=.returned (.int .i64 (nbits (val xs)))∧w=w':=by
 have hl:=nl_val h.ok;have HU:=zh (used_any A c xs w h zo);by_cases h0:val xs=0
 ·rw[h0] at HU ⊢;rw[nl_zero] at HU;clear h0;go_enter Tryz.func93,Tryz.ntmps93
  go_wp2_with fail
  refine HU.out.mono ?_;rintro e w1 ⟨rfl,rfl⟩;go_wp2_with fail
  go_ret
  exact⟨rfl,rfl⟩
 ·have hp:=nl_pos h0;have hb:=nbits_top h0;have hd:dg (limbs (val xs)) (nl (val xs)-1)=dg xs (nl (val xs)-1):=(getD_limbs h.ok _).symm;rw[hd] at hb;obtain⟨m,hm⟩:∃m,nl (val xs)=m+1:=⟨nl (val xs)-1,zo⟩;rw[hm] at HU hl hb;rw[xD] at hb;obtain⟨b,off,rfl,hcx⟩:=h.cells zo;have hc:=hcx m zo;have hbl:=(bitLen_le64 (dg_lt h.ok m));have HB:=zh hb;have HL:=zh (fun W=>len64 (dg xs m) (dg_lt h.ok m) W);clear hcx hp hd hm h0 hb;go_enter Tryz.func93,Tryz.ntmps93
  go_wp2_with fail
  refine HU.out.mono ?_;rintro e w1 ⟨rfl,rfl⟩;go_wp2_with fail
  refine(HL.out _).mono ?_;rintro e w1 ⟨rfl,rfl⟩;go_wp2_with fail
  go_ret
  exact⟨ret_int (zi HB.out),rfl⟩
theorem quiet_draws {P:Program} {f:FuncId} {args:Array Value} {w:World} {n:Nat} {v:Value} (h:Calls P f args (w.drewN n) fun e w'=>e=.returned v∧∃k,w'=(w.drewN n).drewN k) :
  Calls P f args (w.drewN n) fun e w''=>e=.returned v∧∃m,w''=w.drewN m:=h.mono fun _ _ ⟨he,k,hm⟩=>⟨he,n+k,by rw[hm,World.drewN_drewN]⟩
theorem quiet_draws2 {P:Program} {f:FuncId} {args:Array Value} {w:World} {a n:Nat} {v:Value} (h:Calls P f args (w.drewN (a+n)) fun e w'=>e=.returned v∧∃k,w'=(w.drewN (a+n)).drewN k) :
  Calls P f args (w.drewN (a+n)) fun e w''=>e=.returned v∧∃m,w''=w.drewN (a+m):=h.mono fun _ _ ⟨he,k,hm⟩=>⟨he,n+k,by rw[hm,World.drewN_drewN,gE]⟩
theorem wrq {z:Int} {n:Nat} (h:z=(n:Int)) (hn:n<B):IntKind.u64.wrap z=(n:Int):=wr h hn
def GLoop (X vs:List Nat) (n G r:Nat):Prop:=G*dg vs (n-1)+r=dg X n*B+dg X (n-1)∧val X / val vs≤G∧G<B∧r<B
def GDone (X vs:List Nat) (G:Nat):Prop:=val X / val vs≤G∧G<B
theorem GLoop.cases {X vs:List Nat} {n G r:Nat} (h:GLoop X vs n G r) (hi:GuessIn X vs n):∃h0 l0:Nat,
  Hid (∀W,Calls Tryz.prog 97 #[.int .u64 (G:Int),.int .u64 ((dg vs (n-2):Nat):Int)] W fun e w'=>e=.returned (.tuple #[.int .u64 (h0:Int),.int .u64 (l0:Int)])∧W=w')∧
  (h0<r∨(((h0:Int)==(r:Int))=true∧r≤h0∧l0≤dg X (n-2))∨
   (((((h0:Int)==(r:Int))=true∧r≤h0∧dg X (n-2)<l0)∨(((h0:Int)==(r:Int))=false∧r≤h0))∧∃G' r':Nat,IntKind.u64.wrap ((G:Int)-1)=(G':Int)∧IntKind.u64.wrap ((r:Int)+((dg vs (n-1):Nat):Int))=(r':Int)∧
    ((r'<dg vs (n-1)∧Hid (GDone X vs G'))∨(dg vs (n-1)≤r'∧Hid (G'<G∧GLoop X vs n G' r'))))):=by
 obtain⟨he,hq,hG,hr⟩:=h;have hnB:=dg_lt hi.okV (n-2);have htB:=dg_lt hi.okV (n-1);have hxB:=dg_lt hi.okX (n-2);have hdm:=bC (G*dg vs (n-2)) B;have hml:=fC (G*dg vs (n-2)) B_pos;refine⟨G*dg vs (n-2) / B,G*dg vs (n-2) % B,fun W=>mul64 G _ hG hnB W,?_⟩;generalize G*dg vs (n-2) / B=h0 at *
 generalize G*dg vs (n-2) % B=l0 at *
 by_cases c1:h0<r
 ·exact .inl c1
 by_cases c2:h0=r∧l0≤dg X (n-2)
 ·exact .inr (.inl ⟨by simp[c2.1],zo,c2.2⟩)
 refine .inr (.inr ⟨?_,?_⟩)
 ·by_cases c3:h0=r
  ·exact .inl ⟨by simp[c3],zo,zo⟩
  ·exact .inr ⟨by simp;omega,zo⟩
 ·have hgt:r*B+dg X (n-2)<G*dg vs (n-2):=by
   rw[←hdm,qB B h0];by_cases c3:h0=r
   ·subst c3;omega
   ·have:(r+1)*B≤h0*B:=fB _ zo;rw[xB,fE] at this;omega
  have hlt:=hi.two_digits he hgt;have hG1:1≤G:=aD (uA _) hlt;have hqG:val X / val vs≤G-1:=Nat.le_sub_one_of_lt hlt;have hr':IntKind.u64.wrap ((r:Int)+((dg vs (n-1):Nat):Int))=(((r+dg vs (n-1)) % B:Nat):Int):=by
   rw[IntKind.wrap_u64,B_eq];omega
  refine⟨G-1,(r+dg vs (n-1)) % B,wr zo zo,hr',?_⟩;by_cases c4:r+dg vs (n-1)<B
  ·refine .inr ⟨by rw[cD c4];omega,zo,?_,hqG,zo,fC _ B_pos⟩;rw[cD c4,←he];obtain⟨p,rfl⟩:∃p,G=p+1:=⟨G-1,zo⟩;rw[xD,xB,fE];omega
  ·refine .inl ⟨?_,hqG,zo⟩;rw[show r+dg vs (n-1)=(r+dg vs (n-1)-B)+B from by omega,Nat.add_mod_right,cD zo];omega
theorem digit_any (g j n cap:Nat) (P X S:List Nat) (A':Option Addr) (c':Nat) (vs:List Nat) (w:World) (hr:Row w g (P++(X++S))) (hj:Hid (P.length=j)) (hG:Hid (GuessIn X vs n)) (h':Nums w A' c' vs)
  (hA:Off A' vs g) (hs:n≤4000000000000) (hn:2≤n) :
  Calls Tryz.prog 141 #[.slice (some ⟨g,j,none⟩) (n+1) cap,.slice A' n c'] w fun e w'=>e=.returned (.int .u64 ((val X / val vs:Nat):Int))∧∃Y,Row w' g (P++(Y++S))∧Ok Y∧Y.length=n+1∧val Y=val X % val vs∧w.grownBy w' (some g):=by
 have hlX:=hG.out.lX;have hlV:=hG.out.lV;obtain⟨b',off',rfl,hcy⟩:=h'.cells zo;have cv1:=hcy (n-1) zo;have cv2:=hcy (n-2) zo;have HJ:=hj.out;have cx0:=hr.cell (k:=P.length+n) (by simp;omega);have cx1:=hr.cell (k:=P.length+(n-1)) (by simp;omega);have cx2:=hr.cell (k:=P.length+(n-2)) (by simp;omega);rw[dg_mid P X S zo,HJ] at cx0 cx1 cx2;have i1:(0:Int)≤(n:Int)-1:=zo;have i2:(0:Int)≤(n:Int)-2:=zo;have i3:(n:Int)-1<n:=zo;have i4:(n:Int)-2<n:=zo;have i5:(n:Int)-1<((n+1:Nat):Int):=zo;have HLX:=zh hlX;have HLV:=zh hlV;have HA:=zh hA;clear hlX hlV hcy HJ hA;go_enter Tryz.func141,Tryz.ntmps141
 go_wp2_with fail
 go_quiet (fail)
 go_upto_if 30 with fail
 obtain⟨M,hM,hM2⟩:∃M:Nat,(18446744073709551615:Int)=(M:Int)∧M=B-1:=⟨18446744073709551615,rfl,rfl⟩;rw[hM];have HM:=zh hM2;clear hM hM2;go_cut [8] (fun gv wx=>∃G k:Nat,gv=.int .u64 G∧wx=w.drewN k∧GDone X vs G)
 case first =>
  by_cases hlt:dg X n<dg vs (n-1)
  ·rw[dec_true hlt];have hs0:=hG.out.start;have hdv:=div64 (dg X n) (dg X (n-1)) (dg vs (n-1));have hx1:=dg_lt hG.out.okX (n-1);have ht1:=dg_lt hG.out.okV (n-1);have hdm:=bC (dg X n*B+dg X (n-1)) (dg vs (n-1));have hml:=fC (dg X n*B+dg X (n-1)) hG.out.top;have hqB:(dg X n*B+dg X (n-1)) / dg vs (n-1)<B:=by
    rw[eC hG.out.top];have:(dg X n+1)*B≤dg vs (n-1)*B:=fB _ hlt;rw[xB,fE] at this;rw[qB B];omega
   have HDV:=zh (fun W=>hdv W hlt hx1 ht1);have HS:Hid (GLoop X vs n ((dg X n*B+dg X (n-1)) / dg vs (n-1)) ((dg X n*B+dg X (n-1)) % dg vs (n-1))):=⟨by rw[qB];exact hdm,hs0,hqB,zo⟩;generalize (dg X n*B+dg X (n-1)) / dg vs (n-1)=G0 at HDV HS
   generalize (dg X n*B+dg X (n-1)) % dg vs (n-1)=r0 at HDV HS
   clear hs0 hdv hdm hml hqB hx1 ht1 hlt;go_wp2_with fail
   go_quiet ((go_at_call 139;first | exact quiet_draws (HDV.out _) | exact quiet_draws2 (HDV.out _)))
   go_wp2_with fail
   rw[World.drewN_drewN];go_loop [8,9] (fun a b=>∃G r:Nat,a=.int .u64 G∧b=.int .u64 r∧GLoop X vs n G r) (fun a _=>(intOf a).toNat)
   case atStart=>exact⟨G0,r0,rfl,rfl,HS.out⟩
   case round =>
    obtain⟨G,r,rfl,rfl,hgl⟩:=hrel;have HGL:=zh hgl;obtain⟨h0,l0,F1,hc⟩:=hgl.cases hG.out;clear hgl;rcases hc with hc | ⟨c1,c2,c3⟩ | ⟨hc,G',r',f1,f2,hd⟩
    ·go_wp2_with fail
     refine(F1.out _).mono ?_;rintro e w' ⟨rfl,rfl⟩;go_wp2_with fail
     go_meet
     exact⟨G,_,rfl,rfl,HGL.out.2.1,HGL.out.2.2.1⟩
    ·go_wp2_with fail
     refine(F1.out _).mono ?_;rintro e w' ⟨rfl,rfl⟩;go_wp2_with fail
     go_meet
     exact⟨G,_,rfl,rfl,HGL.out.2.1,HGL.out.2.2.1⟩
    ·rcases hd with⟨d1,d2⟩ | ⟨d1,d2⟩
     ·rcases hc with⟨c1,c2,c3⟩ | ⟨c1,c2⟩
      all_goals
       go_wp2_with fail
       refine(F1.out _).mono ?_;rintro e w' ⟨rfl,rfl⟩;go_wp2_with fail
       go_meet
       exact⟨G',_,rfl,rfl,d2.out⟩
     ·rcases hc with⟨c1,c2,c3⟩ | ⟨c1,c2⟩
      all_goals
       go_wp2_with fail
       refine(F1.out _).mono ?_;rintro e w' ⟨rfl,rfl⟩;go_wp2_with fail
       go_round
       case rel=>exact⟨G',r',rfl,rfl,d2.out.2⟩
       case measure=>have:=d2.out.1;simp[intOf];omega
  ·rw[dec_false hlt];clear hlt;go_wp2_with fail
   go_meet
   exact⟨M,_,rfl,rfl,by rw[HM.out];exact Nat.le_sub_one_of_lt hG.out.q_lt,by rw[HM.out];have:=B_pos;omega⟩
 case rest =>
  obtain⟨G,k,rfl,rfl,hGd⟩:=hcut;have HGd:=zh hGd;clear hGd;clear cv1 cv2 cx0 cx1 cx2;go_wp2_with fail
  refine(takeOff_any g j n G cap P X S _ c' vs (w.drewN k) (hr.drewN k) hG.out.okX HLX hj (h'.drewN k) HLV HA.out HGd.out.2 hs zo).mono ?_;rintro e w1 ⟨Y,bw,rfl,hrY,hoY,hlY,hbw,hvY,hg1⟩;go_wp2_with fail
  have HVY:=zh hvY;have HLY:=zh hlY;clear hvY hlY;go_loopw [8,12] (fun gv bv wr=>∃G b:Nat,gv=.int .u64 G∧bv=.int .u64 b∧b≤1∧∃Y,Row wr g (P++(Y++S))∧Ok Y∧Y.length=n+1∧val Y+G*val vs=val X+B ^ (n+1)*b∧GDone X vs G∧w.grownBy wr (some g)) (fun gv _ _=>(intOf gv).toNat)
  case atStart=>exact⟨G,bw,rfl,rfl,hbw,Y,hrY,hoY,HLY.out,HVY.out,HGd.out,grown_trans (grown_drewN (World.grownBy.refl _ _) k) hg1⟩
  case round =>
   obtain⟨G2,b,rfl,rfl,hb,Z,hrZ,hoZ,hlZ,hvZ,hGZ,hgZ⟩:=hrel;have HVZ:=zh (And.intro hvZ (And.intro hGZ hlZ));clear hvZ hGZ hlZ;rcases qC b with rfl | hbp
   ·go_wp2_with fail
    go_ret
    obtain⟨e1,e2,e3⟩:=HVZ.out;rw[mE,bD] at e1;have hvp:=hG.out.vpos;have hq:G2≤val X / val vs:=(Nat.le_div_iff_mul_le hvp).2 zo;have hqe:G2=val X / val vs:=Nat.le_antisymm hq e2.1;have hdm:=bC (val X) (val vs);rw[←hqe,qB] at hdm;exact⟨by rw[←hqe];rfl,Z,hrZ,hoZ,e3,zo,hgZ⟩
   ·obtain rfl:b=1:=zo;have hvp:=hG.out.vpos;have hlt2:val X / val vs<G2:=by
     obtain⟨e1,e2,e3⟩:=HVZ.out;rw[eC hvp];have:=val_lt hoZ;rw[e3] at this;omega
    obtain⟨G3,rfl⟩:∃G3,G2=G3+1:=⟨G2-1,by have:=aD (uA _) hlt2;omega⟩;have w4:IntKind.u64.wrap (G3:Int)=(G3:Int):=wrq rfl (zi HVZ.out.2.1.2);have HLT:=zh hlt2;clear hlt2 hvp;go_wp2_with fail
    refine(giveBack_any g j n cap P Z S _ c' vs wr hrZ hoZ HVZ.out.2.2 hj (h'.grownOff hgZ HA.out) HLV HA.out hs zo).mono ?_;rintro e w2 ⟨U,cy,rfl,hrU,hoU,hlU,hcy,hvU,hg2⟩;have w5:IntKind.u64.wrap (1-(cy:Int))=((1-cy:Nat):Int):=wrq zo (zi B_two);have HVU:=zh hvU;clear hvU;go_wp2_with fail
    go_roundw
    case rel =>
     obtain⟨e1,e2,e3⟩:=HVZ.out;have e4:=HVU.out;refine⟨G3,1-cy,rfl,rfl,zo,U,hrU,hoU,hlU,?_,⟨Nat.le_of_lt_succ HLT.out,by have:=e2.2;omega⟩,grown_trans hgZ hg2⟩;rw[xB,fE,kC] at e1;rcases qC cy with rfl | hc
     ·rw[mE] at e4;rw[Nat.sub_zero,kC];omega
     ·obtain rfl:cy=1:=zo;rw[kC] at e4;rw[Nat.sub_self,mE];omega
    case measure=>simp[intOf]
def Ret2 (w:World) (q r:Nat) (e:Ending) (w':World):Prop :=
 ∃A c A' c',e=.returned (.tuple #[.slice A (nl q) c,.slice A' (nl r) c'])∧Own w' w.heap.size A c q∧Own w' w.heap.size A' c' r∧Below w.heap.size w w'
theorem short_any (A:Option Addr) (c d n:Nat) (xs:List Nat) (w:World) (h:Nums w A c xs) (hn:Hid (xs.length=n)) (hs:n≤1000000000000) (hd:Hid (0<d∧d<B)) :
  Calls Tryz.prog 127 #[.slice A n c,.int .u64 (d:Int)] w (Ret2 w (val xs / d) (val xs % d)):=by
 have hmk:=make_words n zo;obtain⟨g,hg⟩:∃g,g=w.heap.size:=⟨_,rfl⟩;have HX:=zh h.cells;go_enter Tryz.func127,Tryz.ntmps127
 go_wp2_with fail
 rw[←hg];have HG:=zh hg;clear hg hmk;go_loopw [8,16] (fun rv i wr=>∃k r:Nat,k≤n∧i=.int .i64 k∧rv=.int .u64 r∧∃qs,qs.length=n∧Row wr g qs∧ShortInv xs d qs (n-k) r∧Below w.heap.size w wr) (fun _ i _=>n-(intOf i).toNat)
 case atStart=>exact⟨0,0,uA _,rfl,rfl,List.replicate n 0,by simp,by rw[HG.out];exact Row.new w _,by have:=ShortInv.start (xs:=xs) (qs:=List.replicate n 0) (d:=d) (Ok.replicate n) (by simp[hn.out]);rw[hn.out] at this;exact this,(Below.refl _ _).alloc (aA _) _⟩
 case round =>
  obtain⟨k,r,hk,rfl,rfl,qs,hq,hr,hi,hb⟩:=hrel;by_cases hlt:k<n
  ·obtain⟨b,off,rfl,hcx⟩:=HX.out (by rw[hn.out];omega);have hcell:=(hb.cell (p:=⟨b,off+(n-1-k),none⟩) (World.block_lt_of_cell? w _ (hcx (n-1-k) (by rw[hn.out];omega)))).trans (hcx (n-1-k) (by rw[hn.out];omega));have hxl:n-1-k<xs.length:=by rw[hn.out];omega
   rw[show n-k=n-1-k+1 from by omega] at hi;obtain⟨hst,hrd⟩:=hi.step hd.out.1 hd.out.2 h.ok hxl (by rw[hq,hn.out]);have hdv:=fun W=>div64 r (dg xs (n-1-k)) d W hrd (dg_lt h.ok _) hd.out.2;generalize (r*B+dg xs (n-1-k)) / d=q1 at hst hdv
   generalize (r*B+dg xs (n-1-k)) % d=r1 at hst hdv
   have hcq:=hr.cell (k:=n-1-k) zo;have hfr:=hr.frozen (n-1-k);have HST:=zh (And.intro hst hq);have HDV:=zh hdv;clear hcx hi hst hdv hq hrd;go_wp2_with fail
   refine(HDV.out _).mono ?_;rintro e w' ⟨rfl,m,rfl⟩;go_wp2_with fail
   go_roundw
   case rel=>exact⟨k+1,r1,zo,by go_num,rfl,qs.set (n-1-k) q1,by rw[nC];exact HST.out.2,(hr.set (n-1-k) q1).drewN _,by rw[show n-(k+1)=n-1-k from by omega];exact HST.out.1,below_drewN (hb.setCell (by rw[HG.out];exact aA _) _) _⟩
   case measure=>simp[intOf];omega
  ·obtain rfl:k=n:=zo;rw[Nat.sub_self] at hi;obtain⟨ho,hv,hrr⟩:=hi;rw[List.drop_zero,List.drop_zero] at hv;rw[List.drop_zero] at hrr;have ht:=tidy_row g k qs wr hr ho zo zo w.heap.size (val xs / d) (by rw[HG.out];exact aA _) (by rw[fA zo];exact hv);rw[hq] at ht;have HT:=zh ht;have HR:=zh hrr;clear ht hv hq hrr;go_wp2_with fail
   refine HT.out.mono ?_;rintro e w1 ⟨A1,c1,rfl,ho1,rfl⟩;go_wp2_with fail
   have hrB:r<B:=by rw[HR.out];exact Nat.lt_trans (fC _ hd.out.1) hd.out.2
   have ht2:=tidy_row wr.heap.size 1 [r] (wr.alloc (.cells (cellsOf [r]) 114)) (Row.new wr [r]) (Ok.cons hrB Ok.nil) (by simp) zo w.heap.size (val xs % d) hb.size (by rw[←HR.out];simp[val]);refine ht2.mono ?_;rintro e w2 ⟨A2,c2,rfl,ho2,rfl⟩;go_wp2_with fail
   go_ret2
   have hb2:Below wr.heap.size wr (wr.alloc (.cells (cellsOf [r]) 114)):=(Below.refl _ _).alloc (aA _) _;exact⟨A1,c1,A2,c2,rfl,ho1.below hb2,ho2,below_trans hb hb2⟩
end Go.Proofs.YtiondclbdgijbaaGreatDoor
namespace Tw
def LongInv (U V:Nat) (us qs:List Nat) (j:Nat):Prop:=Ok us∧Ok qs∧U=val us+B ^ j*(val (qs.drop j)*V)∧val (us.drop j)<V
theorem LongInv.start {U V m:Nat} {us qs:List Nat} (ho:Ok us) (hq:Ok qs) (hU:val us=U) (hlq:qs.length=m) (ht:val (us.drop m)<V):LongInv U V us qs m :=
 ⟨ho,hq,by rw[qD zo,val_nil,yF,mE,bD,hU],ht⟩
theorem LongInv.window {U V j n:Nat} {us qs vs:List Nat} (h:LongInv U V us qs (j+1)) (_hv:val vs=V) (hV:V<B ^ n) (hl:j+n+1≤us.length) :
  us=us.take j++((us.drop j).take (n+1)++us.drop (j+n+1))∧((us.drop j).take (n+1)).length=n+1∧val ((us.drop j).take (n+1))<B*V∧val (us.drop j)=val ((us.drop j).take (n+1))∧val (us.drop (j+n+1))=0:=by
 obtain⟨ho,hq,he,ht⟩:=h;have e1:=val_drop_cons (xs:=us) (k:=j) zo;have e2:=dg_lt ho j;have e3:val (us.drop j)<B*V:=by
  have:B*(val (us.drop (j+1))+1)≤B*V:=aC _ ht;rw[zA] at this;omega
 have e4:val (us.drop j)<B ^ (n+1):=by
  have:B*V<B*B ^ n:=Nat.mul_lt_mul_of_pos_left hV B_pos;rw[yB,qB _ B];omega
 have e5:val ((us.drop j).take (n+1))=val (us.drop j):=val_take_nl (ho.drop j) (nl_le_of_lt e4);have e6:=val_split (us.drop j) (n+1);rw[e5] at e6;have e7:val ((us.drop j).drop (n+1))=0:=by
  have:B ^ (n+1)*val ((us.drop j).drop (n+1))=0:=zo;rcases Nat.mul_eq_zero.1 this with h | h
  ·have:=Nat.pow_pos (n:=n+1) B_pos;omega
  ·exact h
 rw[List.drop_drop] at e7;refine⟨?_,by rw[mB,List.length_drop];omega,by rw[e5];exact e3,e5.symm,by rw[gE];exact e7⟩;rw[gE,←List.drop_drop,mD,mD]
theorem LongInv.step {U V j n:Nat} {us qs Y:List Nat} (h:LongInv U V us qs (j+1)) (hV:V<B ^ n) (hVp:0<V) (hl:j+n+1≤us.length) (hj:j<qs.length) (hoY:Ok Y) (hlY:Y.length=n+1) (hvY:val Y=val ((us.drop j).take (n+1)) % V) (hqB:val ((us.drop j).take (n+1)) / V<B) :
  LongInv U V (us.take j++(Y++us.drop (j+n+1))) (qs.set j (val ((us.drop j).take (n+1)) / V)) j:=by
 obtain⟨w1,w2,w3,w4,w5⟩:=h.window (vs:=limbs V) (val_limbs V) hV hl;obtain⟨ho,hq,he,ht⟩:=h;have hlt:(us.take j).length=j:=by rw[mB];omega
 have hd:(us.take j++(Y++us.drop (j+n+1))).drop j=Y++us.drop (j+n+1):=by
  rw[List.drop_append,hlt,Nat.sub_self,List.drop_zero,List.drop_of_length_le zo,uE]
 have hvd:val (Y++us.drop (j+n+1))=val Y:=by rw[val_append,w5,mE,bD]
 refine⟨(ho.take j).append (hoY.append (ho.drop _)),hq.set _ _ hqB,?_,by rw[hd,hvd,hvY];exact fC _ hVp⟩;have e1:val us=val (us.take j)+B ^ j*val (us.drop j):=val_split us j;have e2:val (us.take j++(Y++us.drop (j+n+1)))=val (us.take j)+B ^ j*val Y:=by rw[val_append,hlt,hvd]
 have e3:val ((qs.set j (val ((us.drop j).take (n+1)) / V)).drop j)=val ((us.drop j).take (n+1)) / V+B*val (qs.drop (j+1)):=by rw[drop_set hj,val_cons]
 have e4:=bC (val ((us.drop j).take (n+1))) V;rw[e2,e3,he,e1,w4,hvY,xB,zA,yB];generalize val ((us.drop j).take (n+1))=x at *
 have e5:B ^ j*x=B ^ j*(x / V*V)+B ^ j*(x % V):=by rw[←zA,qB (x / V),e4]
 have e6:B ^ j*B*(val (qs.drop (j+1))*V)=B ^ j*(B*val (qs.drop (j+1))*V):=by rw[nB,nB]
 rw[e5,e6];omega
theorem LongInv.done {U V:Nat} {us qs:List Nat} (h:LongInv U V us qs 0) (hV:0<V):val qs=U / V∧val us=U % V:=by
 obtain⟨ho,hq,he,ht⟩:=h;rw[List.drop_zero] at he ht;rw[Nat.pow_zero,fE,qB] at he;rw[he];exact⟨by rw[kE _ _ hV,vD ht,mC],by rw[uF,cD ht]⟩
end Tw
namespace Go.Proofs.YtiondclbdgijbaaGreatDoor
open Go.RowKit Tw
structure LongIn (xs ys:List Nat) (la n s V U:Nat):Prop where
 okX:Ok xs
 okY:Ok ys
 lX:xs.length=la
 lY:ys.length=n
 two:2≤n
 top:dg ys (n-1)≠0
 le:n≤la
 hs:s=64-Lib.bitLen (dg ys (n-1))
 hV:V=val ys*2 ^ s
 hU:U=val xs*2 ^ s
theorem LongIn.facts {xs ys:List Nat} {la n s V U:Nat} (h:LongIn xs ys la n s V U):nl V=n∧V<B ^ n∧0<V∧U<B ^ (la+1)∧nl U≤la+1∧U / B ^ (la+1-n)<V∧s<64:=by
 obtain⟨oX,oY,lX,lY,h2,ht,hle,hs,hV,hU⟩:=h;have htB:=dg_lt oY (n-1);obtain⟨b1,b2,b3,b4⟩:=bitLen_bounds ht htB;obtain⟨m,rfl⟩:∃m,n=m+1:=⟨n-1,zo⟩;rw[xD] at *;have e1:=top2 lY;have e2:=val_take_lt oY m;have p2:2 ^ Lib.bitLen (dg ys m)*2 ^ s=B:=by rw[←tC,hs,show Lib.bitLen (dg ys m)+(64-Lib.bitLen (dg ys m))=64 from by omega];rfl
 have hVlt:V<B ^ (m+1):=by
  have h1:(val ys+1)*2 ^ s≤B ^ m*2 ^ Lib.bitLen (dg ys m)*2 ^ s:=fB _ (by
   have:B ^ m*(dg ys m+1)≤B ^ m*2 ^ Lib.bitLen (dg ys m):=aC _ b4;rw[zA,kC] at this;omega)
  rw[nB,p2,xB] at h1;rw[hV,yB];have:=dD s;omega
 have hys:B ^ m≤val ys:=by
  have:B ^ m*1≤B ^ m*dg ys m:=aC _ zo;omega
 have hps:=dD s;have hVge:B ^ m*2 ^ s≤V:=by rw[hV];exact fB _ hys
 have hBm:0<B ^ m:=Nat.pow_pos B_pos;have hVp:0<V:=gC (Nat.mul_pos hBm hps) hVge;have hVm:B ^ m≤V:=wA (Nat.le_mul_of_pos_right _ hps) hVge;have hs64:2 ^ s≤B:=by rw[show B=2 ^ 64 from rfl];exact wD zo zo
 have hxs:=val_lt oX;rw[lX] at hxs;have hUlt:U<B ^ la*2 ^ s:=by rw[hU];exact Nat.mul_lt_mul_of_pos_right hxs hps
 have hU1:U<B ^ (la+1):=by
  rw[yB];exact gC hUlt (aC _ hs64)
 refine⟨?_,hVlt,hVp,hU1,nl_le_of_lt hU1,?_,zo⟩
 ·have a1:=nl_le_of_lt hVlt;rcases eB (nl V) (m+1) with a2 | a2
  ·have:=(nl_le_iff (n:=V) (k:=m)).1 zo;omega
  ·omega
 ·rw[show la+1-(m+1)=la-m from by omega];refine gC ?_ hVge;rw[eC (Nat.pow_pos B_pos)];have:B ^ m*2 ^ s*B ^ (la-m)=B ^ la*2 ^ s:=by
   rw[Nat.mul_right_comm,←tC,show m+(la-m)=la from by omega]
  rw[this];exact hUlt
theorem splice_front (n:Nat) (xs:List Nat) (_h:xs.length≤n):splice (cellsOf (List.replicate n 0)).toList 0 (cellsOf xs).toList=(cellsOf (xs++List.replicate (n-xs.length) 0)).toList:=by
 unfold splice cellsOf
 simp
theorem nums_src {w:World} {A:Option Addr} {c:Nat} {xs:List Nat} (h:Nums w A c xs) (hp:0<xs.length):∃ad,A=some ad∧∀j v,(cellsOf xs).toList[j]?=some v→w.cell? (ad.add j)=some v:=by
 obtain⟨b,off,rfl,hcell⟩:=h.cells hp;refine⟨_,rfl,fun j v hv=>?_⟩;have hj:j<xs.length:=by
  rcases eB j xs.length with hj | hj
  ·exact hj
  ·rw[cB (by simpa [cellsOf] using hj)] at hv;cases hv
 have hadd:(⟨b,off,none⟩:Addr).add j=⟨b,off+j,none⟩:=by unfold Addr.add;split<;>simp_all
 rw[hadd,hcell j hj];simp only[cellsOf,mA,dg_get hj] at hv
 exact hv
theorem long_any (A A':Option Addr) (c c' la n s V U:Nat) (xs ys:List Nat) (w:World) (h:Nums w A c xs) (h':Nums w A' c' ys) (hI:Hid (LongIn xs ys la n s V U)) (hs:la≤900000000000) :
  Calls Tryz.prog 128 #[.slice A la c,.slice A' n c'] w (Ret2 w (val xs / val ys) (val xs % val ys)):=by
 have HF:=zh hI.out.facts;have hle:=hI.out.le;have hn2:=hI.out.two;obtain⟨b',off',rfl,hcy⟩:=h'.cells (by rw[hI.out.lY];omega);have hct:=hcy (n-1) (by rw[hI.out.lY];omega);have i1:(0:Int)≤(n:Int)-1:=zo;have i2:(n:Int)-1<n:=zo;have HLZ:Hid (∀W,Calls Tryz.prog 140 #[.int .u64 ((dg ys (n-1):Nat):Int)] W fun e w'=>e=.returned (.int .i64 (s:Int))∧W=w'):=fun W =>
  (lead64 _ (dg_lt hI.out.okY _) W).mono fun e w' ⟨he,hw⟩=>⟨by rw[he];exact ret_int (zj hI.out.hs (bitLen_le64 (dg_lt hI.out.okY (n-1)))),hw⟩
 have HUP1:Hid (∀W,Nums W (some ⟨b',off',none⟩) c' ys→Calls Tryz.prog 138 #[.slice (some ⟨b',off',none⟩) n c',.int .i64 (s:Int)] W (Ret W V)):=fun W hW=>by
  have:=up_any _ c' s ys W hW (by rw[hI.out.lY];omega) (zi HF.out.2.2.2.2.2.2);rwa [hI.out.lY,←hI.out.hV] at this
 have HUP2:Hid (∀W,Nums W A c xs→Calls Tryz.prog 138 #[.slice A la c,.int .i64 (s:Int)] W (Ret W U)):=fun W hW=>by
  have:=up_any _ c s xs W hW (by rw[hI.out.lX];omega) (zi HF.out.2.2.2.2.2.2);rwa [hI.out.lX,←hI.out.hU] at this
 clear hcy;go_enter Tryz.func128,Tryz.ntmps128
 go_wp2_with fail
 refine(HLZ.out _).mono ?_;rintro e w' ⟨rfl,rfl⟩;go_wp2_with fail
 refine(HUP1.out _ h').mono ?_;rintro e w1 ⟨A1,c1,rfl,ho1,hb1⟩;rw[HF.out.1];clear hct;have hmk:=make_words (la+1) zo;rw[show((la+1:Nat):Int)=(la:Int)+1 from by omega] at hmk;obtain⟨g,hg⟩:∃g,g=w1.heap.size:=⟨_,rfl⟩;go_wp2_with fail
 have hb2:Below w1.heap.size w1 (w1.alloc (.cells (cellsOf (List.replicate (la+1) 0)) 114)):=(Below.refl _ _).alloc (aA _) _;have hr2:=Row.new w1 (List.replicate (la+1) 0);rw[←hg] at hr2;have hlt2:=hr2.lt;generalize hw2:w1.alloc (.cells (cellsOf (List.replicate (la+1) 0)) 114)=w2 at hb2 hr2 hlt2 ⊢
 rw[←hg];have HG:=zh hg;clear hmk hw2 hg;refine(HUP2.out _ (h.below (below_trans hb1 hb2))).mono ?_;rintro e w3 ⟨A3,c3,rfl,ho3,hb3⟩;have hb13:Below w1.heap.size w1 w3:=hb2.trans (hb3.mono hb2.size);have hr3:=hr2.below hb3 hlt2;have hnU:=HF.out.2.2.2.2.1;have HN:Hid ((cellsOf (limbs U)).toList.length=Nat.min (nl U) (la+1)):=by
  show(cellsOf (limbs U)).toList.length=_
  rw[show Nat.min (nl U) (la+1)=nl U from sC hnU];simp[cellsOf,nl]
 have HFit:Hid (0+(cellsOf (limbs U)).toList.length≤(cellsOf (List.replicate (la+1) 0)).toList.length):=by
  show 0+(cellsOf (limbs U)).toList.length≤_
  simpa [cellsOf,nl] using hnU
 have HP:Hid (0<(cellsOf (limbs U)).toList.length→∃ad,A3=some ad∧∀j v,(cellsOf (limbs U)).toList[j]?=some v→w3.cell? (ad.add j)=some v):=fun hp=>nums_src ho3.nums (by simpa [cellsOf] using hp);have HSP:=zh (splice_front (la+1) (limbs U) hnU);obtain⟨m,hm⟩:∃m,m+n=la+1:=⟨la+1-n,zo⟩;have q1:(la:Int)+1-(n:Int)=(m:Int):=zo;have hmk:=make_words m zo;have HM:=zh hm;have hm1:m≤la:=zo;have hm0:0<m:=zo;clear hm;have HR3:Hid (w3.heap[g]?=some (.cells (cellsOf (List.replicate (la+1) 0)).toList.toArray 114 (0,0))):=hr3;have hBg:w1.heap.size≤g:=by rw[HG.out];exact aA _
 clear hr3 hr2 hnU;go_wp2_with (with_reducible refine wpList_copy_splice rfl (.tmp 29) (.tmp 32) 43 43 rfl 114 und_words u64_size (some ⟨g,0,none⟩) A3 (la+1) (la+1) (nl U) c3 rfl rfl g 0 (cellsOf (List.replicate (la+1) 0)).toList 114 HR3.out (cellsOf (limbs U)).toList HN.out (fun hp=>⟨rfl,HP.out hp⟩) HFit.out (oneCell_cellsOf _) w1.heap.size w1 hb13 hBg ?_;intro w4 hr4 hb4)
 obtain⟨gq,hgq⟩:∃gq,gq=w4.heap.size:=⟨_,rfl⟩;go_wp2_with fail
 have hr4':Row w4 g (limbs U++List.replicate (la+1-nl U) 0):=by have:=hr4.out;rw[HSP.out] at this;exact this
 have hgl:=hr4'.lt;have hlen4:(limbs U++List.replicate (la+1-nl U) 0).length=la+1:=by have:=HF.out.2.2.2.2.1;rw[eD,List.length_replicate];unfold nl at *;omega
 have hok4:Ok (limbs U++List.replicate (la+1-nl U) 0):=(ok_limbs U).append (Ok.replicate _);have hval4:val (limbs U++List.replicate (la+1-nl U) 0)=U:=by rw[val_append,val_replicate,mE,bD,val_limbs]
 have hdrop4:val ((limbs U++List.replicate (la+1-nl U) 0).drop m)<V:=by
  have e1:=val_split (limbs U++List.replicate (la+1-nl U) 0) m;have e2:=val_take_lt hok4 m;have e3:=HF.out.2.2.2.2.2.1;rw[show la+1-n=m from by have:=HM.out;omega] at e3;rw[hval4] at e1;have:U / B ^ m=val ((limbs U++List.replicate (la+1-nl U) 0).drop m):=by
   conv=>lhs;rw[e1]
   rw[kE _ _ (Nat.pow_pos B_pos),vD e2,mC]
  omega
 generalize limbs U++List.replicate (la+1-nl U) 0=us0 at hr4' hlen4 hok4 hval4 hdrop4
 have HST:=zh (And.intro hlen4 (LongInv.start hok4 (Ok.replicate m) hval4 (by simp) hdrop4));rw[←hgq];have HGQ:=zh hgq;clear hmk hgq q1 hlen4 hok4 hval4 hdrop4 hr4;go_loopw [41] (fun i wr=>∃k:Nat,k≤m∧i=.int .i64 k∧∃us qs,us.length=la+1∧qs.length=m∧Row wr g us∧Row wr gq qs∧LongInv U V us qs (m-k)∧Below w1.heap.size w1 wr) (fun i _=>m-(intOf i).toNat)
 case atStart=>exact⟨0,uA _,rfl,us0,List.replicate m 0,HST.out.1,by simp,hr4'.alloc _,by rw[HGQ.out];exact Row.new w4 _,HST.out.2,hb4.alloc hb4.size _⟩
 case round =>
  obtain⟨k,hk,rfl,us,qs,hlu,hlq,hru,hrq,hi,hb⟩:=hrel;by_cases hlt:k<m
  ·obtain⟨J,hJ⟩:∃J,k+J+1=m:=⟨m-1-k,zo⟩;have q2:(m:Int)-1-(k:Int)=(J:Int):=zo;have hJn:J+n+1≤la+1:=zi HM.out;rw[show m-k=J+1 from by omega] at hi;have hcq:=hrq.cell (k:=J) zo;have hfr:=hrq.frozen J;have HJ:=zh (And.intro hJ (And.intro hlu hlq));have HI:=zh hi;clear hJ hlu hlq hi;go_wp2_with fail
   rw[show J+n+1-J=n+1 from by omega];obtain⟨x1,x2,x3,x4,x5⟩:=HI.out.window (vs:=limbs V) (val_limbs V) HF.out.2.1 (by rw[HJ.out.2.1];exact hJn);have hoX:=(HI.out.1.drop J).take (n+1);have hGI:GuessIn ((us.drop J).take (n+1)) (limbs V) n:=⟨hoX,ok_limbs V,x2,HF.out.1,hn2,Nat.pos_of_ne_zero (by have:=top_ne (n:=V) (zi HF.out.2.2.1);rw[HF.out.1] at this;exact this),by rw[val_limbs];exact x3⟩;have hPl:(us.take J).length=J:=by rw[mB,HJ.out.2.1];omega
   have hru':Row wr g (us.take J++((us.drop J).take (n+1)++us.drop (J+n+1))):=by rw[←x1];exact hru
   have hN1:=(ho1.below hb).nums;have hd:=digit_any g J n (la+1-J) (us.take J) ((us.drop J).take (n+1)) (us.drop (J+n+1)) A1 c1 (limbs V) wr hru' hPl hGI hN1 (ho1.nums.off (by rw[HG.out];exact aA _)) zo hn2;rw[val_limbs] at hd;have hqB:=hGI.q_lt;rw[val_limbs] at hqB;have HD:=zh hd;have HQ:=zh hqB;clear hd hGI hPl hru' hN1 x1 x2 x3 x4 x5 hqB;refine HD.out.mono ?_;rintro e w5 ⟨rfl,Y,hrY,hoY,hlY,hvY,hgr⟩;have hrq5:=hrq.grown hgr (by simp;have:=HGQ.out;omega);have hcq5:=hrq5.cell (k:=J) (by rw[HJ.out.2.2];have:=HJ.out.1;omega);have hfr5:=hrq5.frozen J;have hb5:Below w1.heap.size w1 w5:=below_row hb hgr hBg;have HY:=zh (And.intro hlY hvY);clear hlY hvY hcq hfr;go_wp2_with fail
   go_roundw
   case rel =>
    refine⟨k+1,zo,by go_num,us.take J++(Y++us.drop (J+n+1)),qs.set J _,?_,by rw[nC];exact HJ.out.2.2,hrY.far (by simp;have:=HGQ.out;omega) _,hrq5.set J _,?_,hb5.setCell (by have:=HGQ.out;simp;omega) _⟩
    ·have a1:=HJ.out.2.1;have a2:=HY.out.1;simp only[eD,mB,List.length_drop]
     omega
    ·rw[show m-(k+1)=J from by have:=HJ.out.1;omega];exact HI.out.step HF.out.2.1 HF.out.2.2.1 (by rw[HJ.out.2.1];exact hJn) (by rw[HJ.out.2.2];have:=HJ.out.1;omega) hoY HY.out.1 HY.out.2 HQ.out
   case measure=>simp[intOf];omega
  ·obtain rfl:k=m:=zo;rw[Nat.sub_self] at hi;obtain⟨hvq,hvu⟩:=hi.done HF.out.2.2.1;have hps:=dD s;have hsc:=scaled (n:=val xs) (y:=val ys) hps;rw[hI.out.hU,hI.out.hV,hsc.1] at hvq;have ht:=tidy_row gq k qs wr hrq hi.2.1 zo zo w.heap.size (val xs / val ys) (by have:=HGQ.out;have:=hb1.size;have:=hb4.size;omega) (by rw[fA zo];exact hvq);rw[hlq] at ht;have hsh:=fun W (hW:Nums W (some ⟨g,0,none⟩) (la+1) us)=>shr_any (some ⟨g,0,none⟩) (la+1) (s:Int) us W hW zo (zi HF.out.2.2.2.2.2.2);rw[hlu] at hsh;have hres:val us / 2 ^ (s:Int).toNat=val xs % val ys:=by
    rw[Int.toNat_natCast,hvu,hI.out.hU,hI.out.hV,hsc.2]
   rw[hres] at hsh;have HT:=zh ht;have HSH:=zh hsh;have hNu:Nums wr (some ⟨g,0,none⟩) (la+1) us:=by rw[←hlu];exact hru.nums hi.1
   clear ht hsh hres hvq hvu hsc hps hlq;go_wp2_with fail
   refine HT.out.mono ?_;rintro e w6 ⟨A6,c6,rfl,ho6,rfl⟩;go_wp2_with fail
   refine(HSH.out _ hNu).mono ?_;rintro e w7 ⟨A7,c7,rfl,ho7,hb7⟩;go_wp2_with fail
   go_ret2
   exact⟨A6,c6,A7,c7,rfl,ho6.below hb7,ho7.mono (wA hb1.size hb.size),below_trans (below_trans hb1 hb) hb7⟩
end Go.Proofs.YtiondclbdgijbaaGreatDoor
