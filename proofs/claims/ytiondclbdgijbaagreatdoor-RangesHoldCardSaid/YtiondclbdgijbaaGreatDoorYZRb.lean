import Derived.Test.YtiondclbdgijbaaGreatDoorYZRa
import Derived.Deep.LoopGhost
namespace Go.Proofs.YtiondclbdgijbaaGreatDoor
open Go.RowKit Tw
theorem C.first {w:World} {A:Option Addr} {c l u:Nat} (h:C w A c l u) (hl:0<l):∃b off x,A=some ⟨b,off,none⟩∧w.cell? ⟨b,off,none⟩=some (.int .u64 ((x:Nat):Int))∧x % 2=u % 2:=by
 obtain⟨b,off,e,hc⟩:=h.1.cells (by show 0<nl u;rw[h.2];exact hl);refine⟨b,off,dg (limbs u) 0,e,by simpa using hc 0 (by show 0<nl u;rw[h.2];exact hl),?_⟩;have hu:u≠0:=by rintro rfl;have:=h.2;rw[nl_zero] at this;omega
 have:dg (limbs u) 0=u % B:=by rw[limbs_pos hu];rfl
 rw[this,B_eq];omega
theorem C.pos {w:World} {A:Option Addr} {c l n:Nat} (h:C w A c l n) (hl:0<l):n≠0:=by
 rintro rfl;have:=h.2;rw[nl_zero] at this;omega
theorem C.zero {w:World} {A:Option Addr} {c n:Nat} (h:C w A c 0 n):n=0:=nl_eq_zero.1 h.2
theorem C.len {w:World} {A:Option Addr} {c l n m:Nat} (h:C w A c l n) (hn:n<B ^ m):l≤m:=by rw[←h.2];exact nl_le_of_lt hn
end Go.Proofs.YtiondclbdgijbaaGreatDoor
namespace Te
theorem val_set:∀(us:List Nat) (j d:Nat),j<us.length→val (us.set j d)+256 ^ j*Tw.dg us j=val us+256 ^ j*d
 | [],_,_,h=>absurd h (by simp)
 | x :: us,0,d,_=>by
  have:Tw.dg (x :: us) 0=x:=rfl;rw[this,sD,val_cons,val_cons];omega
 | x :: us,j+1,d,h=>by
  have ih:=val_set us j d (by simpa using h);have:Tw.dg (x :: us) (j+1)=Tw.dg us j:=rfl;rw[this,yD,val_cons,val_cons,B_eq,yB,qB (256 ^ j) 256,nB,nB];omega
def MulO (xs ys zs:List Nat) (i:Nat):Prop:=Ok zs∧val zs=val (xs.take i)*val ys
def MulN (x:Nat) (ys zs us:List Nat) (i k cy:Nat):Prop:=Ok us∧cy<256∧val us+256 ^ (i+k)*cy=val zs+256 ^ i*(x*val (ys.take k))
theorem MulN.step {x:Nat} {ys zs us:List Nat} {i k cy s:Nat} (h:MulN x ys zs us i k cy) (hj:i+k<us.length) (hx:x<256) (hy:Ok ys) (hs:s=Tw.dg us (i+k)+cy+x*Tw.dg ys k):MulN x ys zs (us.set (i+k) (s % 256)) i (k+1) (s / 256):=by
 obtain⟨h1,h2,h3⟩:=h;have d1:Tw.dg us (i+k)<256:=dg_lt h1 _;have d2:Tw.dg ys k<256:=dg_lt hy _;have d3:x*Tw.dg ys k≤255*255:=xE zo zo;refine⟨h1.set _ _ (by rw[B_eq];omega),zo,?_⟩;have e1:=val_set us (i+k) (s % 256) hj;have e2:val (ys.take (k+1))=val (ys.take k)+B ^ k*Tw.dg ys k:=val_take_succ' ys k;rw[e2,B_eq,zA,zA];have e3:256 ^ (i+(k+1))*(s / 256)=256 ^ (i+k)*(256*(s / 256)):=by rw[←gE,yB,nB]
 have e4:256 ^ (i+k)*(s % 256)+256 ^ (i+k)*(256*(s / 256))=256 ^ (i+k)*s:=by rw[←zA,kF]
 have e5:256 ^ (i+k)*s=256 ^ (i+k)*Tw.dg us (i+k)+256 ^ (i+k)*cy+256 ^ (i+k)*(x*Tw.dg ys k):=by rw[hs,zA,zA]
 have e6:256 ^ i*(x*(256 ^ k*Tw.dg ys k))=256 ^ (i+k)*(x*Tw.dg ys k):=by rw[tC,jD x,nB]
 omega
theorem MulN.done {xs ys zs us:List Nat} {i k:Nat} (h:MulN (Tw.dg xs i) ys zs us i k 0) (h0:MulO xs ys zs i) (hk:ys.length≤k):MulO xs ys us (i+1):=by
 obtain⟨h1,h2,h3⟩:=h;have e1:val (xs.take (i+1))=val (xs.take i)+B ^ i*Tw.dg xs i:=val_take_succ' xs i;refine⟨h1,?_⟩;rw[val_take_all hk,h0.2,mE,bD] at h3;rw[h3,e1,B_eq,xB,nB]
end Te
namespace Go.Proofs.YtiondclbdgijbaaGreatDoor
open Go.RowKit Tw
def cellsS (ys:List Nat):Array Value:=(ys.map fun(y:Nat)=>Value.int .i64 (y:Int)).toArray
def RowS (w:World) (g:Nat) (ys:List Nat):Prop:=w.heap[g]?=some (.cells (cellsS ys) 3 (0,0))
section
variable {w w':World} {g:Nat} {ys:List Nat}
theorem RowS.lt (h:RowS w g ys):g<w.heap.size:=(wE.1 h).1
theorem RowS.cell (h:RowS w g ys) {k:Nat} (hk:k<ys.length):w.cell? ⟨g,k,none⟩=some (.int .i64 (dg ys k)):=by
 rw[cell_of_row w g k _ _ _ h];unfold cellsS
 rw[fF,mA,dg_get hk];rfl
theorem RowS.frozen (h:RowS w g ys) (k:Nat):w.frozen? ⟨g,k,none⟩=false:=frozen_of_row w g k _ _ h
theorem RowS.set (h:RowS w g ys) (k x:Nat):RowS (w.setCell ⟨g,k,none⟩ (.int .i64 (x:Int))) g (ys.set k x):=by
 have:=heap_setCell_same w g k _ _ (.int .i64 (x:Int)) h;unfold RowS
 rw[this];congr 2
 unfold cellsS
 rw[jC,List.map_set]
theorem RowS.below (h:RowS w g ys) {B:Nat} (hb:Below B w w') (hB:g<B):RowS w' g ys:=(hb.block g hB).trans h
theorem RowS.drewN (h:RowS w g ys) (n:Nat):RowS (w.drewN n) g ys:=h
theorem RowS.new (w:World) (ys:List Nat):RowS (w.alloc (.cells (cellsS ys) 3)) w.heap.size ys:=heap_alloc_new w _
end
end Go.Proofs.YtiondclbdgijbaaGreatDoor
namespace Te
def DivI (a b t R:Nat) (q:List Nat):Prop:=Ok q∧R=a / 2 ^ t % b∧val q=a / 2 ^ t / b*2 ^ t
theorem half_pow (a t:Nat):a / 2 ^ t=2*(a / 2 ^ (t+1))+a / 2 ^ t % 2:=by
 have:a / 2 ^ (t+1)=a / 2 ^ t / 2:=by rw[yB,Nat.div_div_eq_div_mul]
 rw[this];omega
theorem DivI.less {a b t R d:Nat} {q:List Nat} (h:DivI a b (t+1) R q) (hd:d=a / 2 ^ t % 2) (hlt:2*R+d<b):DivI a b t (2*R+d) q:=by
 obtain⟨h1,h2,h3⟩:=h;have e:=half_pow a t;rw[←hd] at e;obtain⟨P,hP1⟩:∃P,a / 2 ^ (t+1)=P:=⟨_,rfl⟩;obtain⟨Q,hQ⟩:∃Q,P / b=Q:=⟨_,rfl⟩;rw[hP1] at h2 h3 e;rw[hQ] at h3;have hd1:=bC P b;rw[←h2,hQ] at hd1;have hP:a / 2 ^ t=b*(2*Q)+(2*R+d):=by
  rw[e,jD b 2 Q];omega
 have hb:0<b:=zo;refine⟨h1,?_,?_⟩
 ·rw[hP,Nat.mul_add_mod,cD hlt]
 ·rw[hP,Nat.mul_add_div hb,vD hlt,bD,h3,yB,qB 2 Q,nB,qB 2]
theorem DivI.more {a b i k R d:Nat} {q:List Nat} (h:DivI a b (8*i+k+1) R q) (hk:k<8) (hd:d=a / 2 ^ (8*i+k) % 2) (hge:b≤2*R+d) (hb:0<b) (hi:i<q.length) :
  Tw.dg q i+2 ^ k<256∧DivI a b (8*i+k) (2*R+d-b) (q.set i (Tw.dg q i+2 ^ k)):=by
 obtain⟨h1,h2,h3⟩:=h;have hR:R<b:=by rw[h2];exact fC _ hb
 have e:=half_pow a (8*i+k);rw[←hd] at e;have hd2:d≤1:=zo;obtain⟨P,hP1⟩:∃P,a / 2 ^ (8*i+k+1)=P:=⟨_,rfl⟩;obtain⟨Q,hQ⟩:∃Q,P / b=Q:=⟨_,rfl⟩;rw[hP1] at h2 h3 e;rw[hQ] at h3;have hd1:=bC P b;rw[←h2,hQ] at hd1;have hP:a / 2 ^ (8*i+k)=b*(2*Q+1)+(2*R+d-b):=by
  rw[e,zA,jD b 2 Q,kC];omega
 have hlt:2*R+d-b<b:=zo;have hq:Tw.dg q i+2 ^ k<256:=by
  obtain⟨t,ht⟩:∃t,val q / 256 ^ i=Tw.dg q i+256*t:=by
   have g1:=val_split q i;have g2:=val_take_lt h1 i;rw[B_eq] at g1 g2;have h0:val q / 256 ^ i=val (q.drop i):=by
    rw[g1,kE _ _ (Nat.pow_pos zo),vD g2,mC]
   have g3:=val_split (q.drop i) 1;have e1:val ((q.drop i).take 1)=Tw.dg q i:=by
    rw[val_take_succ'];have a1:(q.drop i).getD 0 0=Tw.dg q i:=dg_drop q i 0;rw[a1];simp[val]
   refine⟨val ((q.drop i).drop 1),?_⟩;rw[h0,g3,e1,B_eq,Nat.pow_one]
  have h4:Tw.dg q i<256:=dg_lt h1 i;rw[h3] at ht;have h5:Q*2 ^ (8*i+k+1) / 256 ^ i=Q*2 ^ (k+1):=by
   rw[show 8*i+k+1=8*i+(k+1) from by omega,tC,Nat.pow_mul,jD];exact Nat.mul_div_cancel_left _ (Nat.pow_pos zo)
  rw[h5] at ht;obtain rfl | rfl | rfl | rfl | rfl | rfl | rfl | rfl:k=0∨k=1∨k=2∨k=3∨k=4∨k=5∨k=6∨k=7:=zo;all_goals omega
 refine⟨hq,h1.set _ _ (by rw[B_eq];exact hq),?_,?_⟩
 ·rw[hP,Nat.mul_add_mod,cD hlt]
 ·have h6:=val_set q i (Tw.dg q i+2 ^ k) hi;rw[hP,Nat.mul_add_div hb,vD hlt,bD];rw[h3] at h6;have h7:256 ^ i*2 ^ k=2 ^ (8*i+k):=by rw[tC,Nat.pow_mul]
  rw[zA,h7] at h6;have h8:Q*2 ^ (8*i+k+1)=2*Q*2 ^ (8*i+k):=by rw[yB,qB 2 Q,nB,qB 2]
  rw[xB,fE];omega
theorem DivI.done {a b R:Nat} {q:List Nat} (h:DivI a b 0 R q):R=a % b∧val q=a / b:=by
 obtain⟨_,h2,h3⟩:=h;rw[Nat.pow_zero,Nat.div_one] at h2 h3;exact⟨h2,by rw[h3,kC]⟩
end Te
namespace Go.Proofs.YtiondclbdgijbaaGreatDoor
open Go.RowKit Tw
theorem D.none (w:World):D w none 0 0 0:=⟨by rw[Te.limbs_zero];exact Sm.nil w,Te.nl_zero⟩
end Go.Proofs.YtiondclbdgijbaaGreatDoor
