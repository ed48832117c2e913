import Derived.Test.YtiondclbdgijbaaGreatDoorYZV
import Derived.OwnWalk
namespace Go.Proofs.YtiondclbdgijbaaGreatDoor
open Go.RowKit Tw
structure Sm (w:World) (A:Option Addr) (c:Nat) (xs:List Nat):Prop where
 ok:Te.Ok xs
 le:xs.length≤c
 none_:A=none→c=0
 cells:0<xs.length→∃b off,A=some ⟨b,off,none⟩∧∀k,k<xs.length→w.cell? ⟨b,off+k,none⟩=some (.int .i64 (dg xs k))
theorem Sm.keep {w w':World} {A:Option Addr} {c:Nat} {xs:List Nat} (h:Sm w A c xs) (hk:∀p v,(∃a,A=some a∧a.block=p.block)→w.cell? p=some v→w'.cell? p=some v):Sm w' A c xs :=
 ⟨h.ok,h.le,h.none_,fun hp=>by
  obtain⟨b,off,rfl,hc⟩:=h.cells hp;exact⟨b,off,rfl,fun k hkl=>hk _ _ ⟨_,rfl,rfl⟩ (hc k hkl)⟩⟩
theorem Sm.below {w w':World} {A:Option Addr} {c:Nat} {xs:List Nat} (h:Sm w A c xs) (hb:Below w.heap.size w w'):Sm w' A c xs :=
 h.keep fun p _ _ hc=>(hb.cell (World.block_lt_of_cell? w p hc)).trans hc
theorem Sm.drewN {w:World} {A:Option Addr} {c:Nat} {xs:List Nat} (h:Sm w A c xs) (n:Nat):Sm (w.drewN n) A c xs:=⟨h.ok,h.le,h.none_,h.cells⟩
theorem Sm.nil (w:World):Sm w none 0 []:=⟨Te.Ok.nil,uA _,fun _=>rfl,fun h=>absurd h (by simp)⟩
theorem Sm.front {w:World} {A:Option Addr} {c:Nat} {xs:List Nat} (h:Sm w A c xs) (n:Nat):Sm w A c (xs.take n) :=
 ⟨h.ok.take n,wA (by simp[List.length_take];omega) h.le,h.none_,fun hp=>by
  rw[mB] at hp;obtain⟨b,off,rfl,hc⟩:=h.cells zo;refine⟨b,off,rfl,fun k hk=>?_⟩;rw[mB] at hk;rw[hc k zo];unfold dg
  rw[qA,qA,rD,bB zo]⟩
def D (w:World) (A:Option Addr) (c l n:Nat):Prop:=Sm w A c (Te.limbs n)∧Te.nl n=l
theorem D.below {w w':World} {A:Option Addr} {c l n:Nat} (h:D w A c l n) (hb:Below w.heap.size w w'):D w' A c l n:=⟨h.1.below hb,h.2⟩
def TellsD (w:World) (n:Nat) (e:Ending) (w':World):Prop:=∃A c l,e=.returned (.slice A l c)∧D w' A c l n∧Below w.heap.size w w'
def TellsN (w:World) (n:Nat) (e:Ending) (w':World):Prop:=∃A c l,e=.returned (.slice A l c)∧D w' A c l n∧Below w.heap.size w w'∧∀a,A=some a→w.heap.size≤a.block
theorem TellsN.d {w:World} {n:Nat} {e:Ending} {w':World} (h:TellsN w n e w'):TellsD w n e w':=by
 obtain⟨A,c,l,h1,h2,h3,_⟩:=h;exact⟨A,c,l,h1,h2,h3⟩
def OwnS (w:World) (B:Nat) (v:Value) (ds:List Nat):Prop:=w.ownsRow B 3 1 v ds.length (ds.map fun(d:Nat)=>Value.int .i64 (d:Int))
theorem OwnS.sm {w:World} {B:Nat} {v:Value} {ds:List Nat} (h:OwnS w B v ds) (ho:Te.Ok ds):∃A c,v=.slice A ds.length c∧Sm w A c ds:=by
 obtain⟨hl,⟨rfl,h0⟩ | ⟨g,cap,cur,rfl,hB,hc,hn,hm,hs,ht⟩⟩:=h
 ·obtain rfl:ds=[]:=rC h0;exact⟨none,0,rfl,Sm.nil _⟩
 ·refine⟨_,cap,rfl,ho,hn,(fun h=>by cases h),fun _=>⟨g,0,rfl,fun k hk=>?_⟩⟩;have h1:(cur.toList.take (ds.length*1))[k]?=some (Value.int .i64 (dg ds k)):=by
   rw[ht,mA,dg_get hk];rfl
  rw[rD,bB zo] at h1;simp only[World.cell?,hc,mC]
  simpa using h1
theorem OwnS.new {w:World} {B l c:Nat} {A:Option Addr} {ds:List Nat} (h:OwnS w B (.slice A l c) ds):∀a,A=some a→B≤a.block:=fun a e=>by
 subst e;exact(World.ownsRow.lt h a.block rfl).1
end Go.Proofs.YtiondclbdgijbaaGreatDoor
namespace Te
def SmallInv (xs:List Nat) (i k x:Nat) (ds:List Nat):Prop :=
 Ok ds∧ds.length=8*i+k∧x=Tw.dg xs i / 256 ^ k∧val ds=Tw.val (xs.take i)+256 ^ (8*i)*(Tw.dg xs i % 256 ^ k)
theorem SmallInv.step {xs:List Nat} {i k x:Nat} {ds:List Nat} (h:SmallInv xs i k x ds):SmallInv xs i (k+1) (x / 256) (ds++[x % 256]):=by
 obtain⟨h1,h2,h3,h4⟩:=h;refine⟨h1.append (Ok.cons (by rw[B_eq];omega) Ok.nil),by simp[h2];omega,?_,?_⟩
 ·rw[h3,Nat.div_div_eq_div_mul,yB]
 ·rw[val_snoc,h4,h2,h3,Nat.mod_pow_succ,zA,tC,B_eq,nB,gE]
def SmallOut (xs:List Nat) (i:Nat) (ds:List Nat):Prop:=Ok ds∧ds.length=8*i∧val ds=Tw.val (xs.take i)
theorem SmallOut.enter {xs:List Nat} {i:Nat} {ds:List Nat} (h:SmallOut xs i ds):SmallInv xs i 0 (Tw.dg xs i) ds :=
 ⟨h.1,h.2.1,by simp,by simp[h.2.2,Nat.mod_one]⟩
theorem SmallInv.leave {xs:List Nat} {i x:Nat} {ds:List Nat} (h:SmallInv xs i 8 x ds) (ho:Tw.Ok xs) (hi:i<xs.length):SmallOut xs (i+1) ds:=by
 obtain⟨h1,h2,h3,h4⟩:=h;refine⟨h1,zo,?_⟩;have hB:(256:Nat) ^ (8*i)=Tw.B ^ i:=by rw[Nat.pow_mul];rfl
 rw[h4,Tw.val_take_succ xs i hi,hB,cD (by have:=Tw.dg_lt ho i;rw[Tw.B_eq] at this;exact this)];rfl
end Te
namespace Go.Proofs.YtiondclbdgijbaaGreatDoor
open Go.RowKit Tw
def OwnW (w:World) (B:Nat) (v:Value) (ds:List Nat):Prop:=w.ownsRow B 114 1 v ds.length (ds.map fun(d:Nat)=>Value.int .u64 (d:Int))
theorem OwnW.nums {w:World} {B:Nat} {v:Value} {ds:List Nat} (h:OwnW w B v ds) (ho:Ok ds):∃A c,v=.slice A ds.length c∧Nums w A c ds:=by
 obtain⟨hl,⟨rfl,h0⟩ | ⟨g,cap,cur,rfl,hB,hc,hn,hm,hs,ht⟩⟩:=h
 ·obtain rfl:ds=[]:=rC h0;exact⟨none,0,rfl,Nums.nil _ _ _⟩
 ·refine⟨_,cap,rfl,ho,hn,fun _=>⟨g,0,rfl,fun k hk=>?_⟩⟩;have h1:(cur.toList.take (ds.length*1))[k]?=some (Value.int .u64 (dg ds k)):=by
   rw[ht,mA,dg_get hk];rfl
  rw[rD,bB zo] at h1;simp only[World.cell?,hc,mC]
  simpa using h1
end Go.Proofs.YtiondclbdgijbaaGreatDoor
namespace Te
def LargeIn (xs:List Nat) (i k x:Nat):Prop:=x=val ((xs.drop (i+k)).take (8-k))
theorem LargeIn.step {xs:List Nat} {i k x:Nat} (h:LargeIn xs i (k+1) x) (hk:k<8):LargeIn xs i k (x*256+Tw.dg xs (i+k)):=by
 unfold LargeIn at *
 rw[h];by_cases hl:i+k<xs.length
 ·rw[fD hl,show 8-k=(8-(k+1))+1 from by omega,List.take_succ_cons,val_cons,B_eq];have:Tw.dg xs (i+k)=xs[i+k]:=by unfold Tw.dg;rw[qA,cA hl];rfl
  rw[this,show i+(k+1)=i+k+1 from by omega];omega
 ·rw[qD zo,qD zo,Tw.dg_past zo];simp[val]
theorem LargeIn.lt {xs:List Nat} {i k x:Nat} (h:LargeIn xs i k x) (ho:Ok xs):x<256 ^ (8-k):=by
 unfold LargeIn at h
 rw[h];refine gC (val_lt ((ho.drop _).take _)) ?_;rw[B_eq];exact wD zo (List.length_take_le _ _)
def LargeOut (xs:List Nat) (m:Nat) (ys:List Nat):Prop:=Tw.Ok ys∧ys.length=m∧Tw.val ys=val (xs.take (8*m))
theorem LargeOut.step {xs ys:List Nat} {m x:Nat} (h:LargeOut xs m ys) (hx:LargeIn xs (8*m) 0 x) (ho:Ok xs):LargeOut xs (m+1) (ys++[x]):=by
 obtain⟨h1,h2,h3⟩:=h;have hlt:=hx.lt ho;refine⟨h1.append (Tw.Ok.cons (by rw[Tw.B_eq];exact hlt) Tw.Ok.nil),by simp[h2],?_⟩;rw[Tw.val_snoc,h3,h2];unfold LargeIn at hx
 rw[show 8*(m+1)=8*m+8 from by omega,List.take_add,val_append,hx,bD,Nat.sub_zero];by_cases hl:8*m≤xs.length
 ·rw[mB,sC hl,B_eq,Nat.pow_mul];rfl
 ·rw[qD zo];simp[val]
end Te
namespace Go.Proofs.YtiondclbdgijbaaGreatDoor
open Go.RowKit Tw
end Go.Proofs.YtiondclbdgijbaaGreatDoor
namespace Te
theorem val_take_all {xs:List Nat} {i:Nat} (h:xs.length≤i):val (xs.take i)=val xs:=by rw[fA h]
def AddI (xs ys ds:List Nat) (i cy:Nat):Prop:=Ok ds∧ds.length=i∧cy≤1∧val ds+256 ^ i*cy=val (xs.take i)+val (ys.take i)∧(max xs.length ys.length<i→cy=0)
theorem AddI.step {xs ys ds:List Nat} {i cy s:Nat} (h:AddI xs ys ds i cy) (hx:Ok xs) (hy:Ok ys) (hs:s=cy+Tw.dg xs i+Tw.dg ys i):AddI xs ys (ds++[s % 256]) (i+1) (s / 256):=by
 obtain⟨h1,h2,h3,h4,h5⟩:=h;have d1:Tw.dg xs i<256:=dg_lt hx i;have d2:Tw.dg ys i<256:=dg_lt hy i;refine⟨h1.append (Ok.cons (by rw[B_eq];omega) Ok.nil),by simp[h2],zo,?_,fun hm=>?_⟩
 ·have e1:val (xs.take (i+1))=val (xs.take i)+B ^ i*Tw.dg xs i:=val_take_succ' xs i;have e2:val (ys.take (i+1))=val (ys.take i)+B ^ i*Tw.dg ys i:=val_take_succ' ys i;rw[e1,e2,val_snoc,h2,B_eq];have e3:256 ^ (i+1)*(s / 256)=256 ^ i*(256*(s / 256)):=by rw[yB,nB]
  have e4:256 ^ i*(s % 256)+256 ^ i*(256*(s / 256))=256 ^ i*s:=by rw[←zA,kF]
  have e5:256 ^ i*s=256 ^ i*cy+256 ^ i*Tw.dg xs i+256 ^ i*Tw.dg ys i:=by rw[hs,zA,zA]
  omega
 ·have z1:Tw.dg xs i=0:=Tw.dg_past zo;have z2:Tw.dg ys i=0:=Tw.dg_past zo;omega
theorem AddI.done {xs ys ds:List Nat} {i:Nat} (h:AddI xs ys ds i 0) (hx:xs.length≤i) (hy:ys.length≤i):val ds=val xs+val ys:=by
 obtain⟨_,_,_,h4,_⟩:=h;rw[val_take_all hx,val_take_all hy] at h4;omega
def SubI (xs ys ds:List Nat) (i bw:Nat):Prop:=Ok ds∧ds.length=i∧bw≤1∧val ds+val (ys.take i)=val (xs.take i)+256 ^ i*bw
theorem SubI.step {xs ys ds:List Nat} {i bw d b:Nat} (h:SubI xs ys ds i bw) (hd:d<256) (hb:b≤1) (hs:d+Tw.dg ys i+bw=Tw.dg xs i+256*b):SubI xs ys (ds++[d]) (i+1) b:=by
 obtain⟨h1,h2,h3,h4⟩:=h;refine⟨h1.append (Ok.cons (by rw[B_eq];omega) Ok.nil),by simp[h2],hb,?_⟩;have e1:val (xs.take (i+1))=val (xs.take i)+B ^ i*Tw.dg xs i:=val_take_succ' xs i;have e2:val (ys.take (i+1))=val (ys.take i)+B ^ i*Tw.dg ys i:=val_take_succ' ys i;rw[e1,e2,val_snoc,h2,B_eq];have e3:256 ^ (i+1)*b=256 ^ i*(256*b):=by rw[yB,nB]
 have e5:256 ^ i*d+256 ^ i*Tw.dg ys i+256 ^ i*bw=256 ^ i*Tw.dg xs i+256 ^ i*(256*b):=by rw[←zA,←zA,←zA,hs]
 omega
theorem SubI.done {xs ys ds:List Nat} {i bw:Nat} (h:SubI xs ys ds i bw) (hi:i=xs.length) (hx:Ok xs) (hy:Ok ys) (hle:val ys≤val xs):val ds=val xs-val ys:=by
 obtain⟨h1,h2,h3,h4⟩:=h;have hn:nl (val ys)≤i:=by rw[hi];exact wA (nl_mono hle) (nl_val hx)
 have e1:val (ys.take i)=val ys:=val_take_nl hy hn;have e2:val (xs.take i)=val xs:=val_take_all zo;rw[e1,e2] at h4;have h5:=val_lt h1;rw[h2,B_eq] at h5;obtain rfl | rfl:bw=0∨bw=1:=zo
 ·omega
 ·omega
end Te
namespace Go.Proofs.YtiondclbdgijbaaGreatDoor
open Go.RowKit Tw
section
variable {w:World} {A A':Option Addr} {c c' l l' n n':Nat}
theorem D.small (h:D w A c l n) (hn:n<B ^ l'):l≤8*l':=by
 rw[←h.2];exact Te.nl_le_of_lt (by rw[Te.B_eq,Nat.pow_mul];exact hn)
end
end Go.Proofs.YtiondclbdgijbaaGreatDoor
namespace Te
def TwI (xs ds:List Nat) (t i b:Nat):Prop:=Ok ds∧ds.length=i∧b≤1∧val ds+256 ^ i*b=2*val (xs.take i)+t
theorem TwI.step {xs ds:List Nat} {t i b s:Nat} (h:TwI xs ds t i b) (hx:Ok xs) (hs:s=2*Tw.dg xs i+b):TwI xs (ds++[s % 256]) t (i+1) (s / 256):=by
 obtain⟨h1,h2,h3,h4⟩:=h;have d1:Tw.dg xs i<256:=dg_lt hx i;refine⟨h1.append (Ok.cons (by rw[B_eq];omega) Ok.nil),by simp[h2],zo,?_⟩;have e1:val (xs.take (i+1))=val (xs.take i)+B ^ i*Tw.dg xs i:=val_take_succ' xs i;rw[e1,val_snoc,h2,B_eq];have e3:256 ^ (i+1)*(s / 256)=256 ^ i*(256*(s / 256)):=by rw[yB,nB]
 have e4:256 ^ i*(s % 256)+256 ^ i*(256*(s / 256))=256 ^ i*s:=by rw[←zA,kF]
 have e5:256 ^ i*s=2*(256 ^ i*Tw.dg xs i)+256 ^ i*b:=by rw[hs,zA,jD]
 omega
theorem TwI.done {xs ds:List Nat} {t i b:Nat} (h:TwI xs ds t i b) (hi:xs.length≤i):Ok (ds++[b])∧val (ds++[b])=2*val xs+t:=by
 obtain⟨h1,h2,h3,h4⟩:=h;refine⟨h1.append (Ok.cons (by rw[B_eq];omega) Ok.nil),?_⟩;rw[val_snoc,h2,B_eq,h4,fA hi]
end Te
namespace Go.Proofs.YtiondclbdgijbaaGreatDoor
open Go.RowKit Tw
theorem sm_news {w:World} {b off c:Nat} {xs:List Nat} (h:Sm w (some ⟨b,off,none⟩) c xs):∀j u,(xs.map fun(d:Nat)=>Value.int .i64 (d:Int))[j]?=some u→w.cell? ((⟨b,off,none⟩:Addr).add j)=some u:=fun j u hu=>by
 have hj:j<xs.length:=by
  rcases eB j xs.length with h1 | h1
  ·exact h1
  ·rw[cB (by simpa using h1)] at hu;cases hu
 obtain⟨b',off',e,hc⟩:=h.cells zo;cases e;rw[mA,dg_get hj] at hu;have e2:(⟨b,off,none⟩:Addr).add j=⟨b,off+j,none⟩:=by
  unfold Addr.add
  split<;>simp_all
 rw[e2,hc j hj];exact hu
theorem D.lt {w:World} {A:Option Addr} {c l n k:Nat} (h:D w A c l n) (hn:n<256 ^ k):l≤k:=by
 rw[←h.2];exact Te.nl_le_of_lt (by rw[Te.B_eq];exact hn)
theorem D.zero {w:World} {A:Option Addr} {c n:Nat} (h:D w A c 0 n):n=0:=Te.nl_eq_zero.1 h.2
theorem D.pos {w:World} {A:Option Addr} {c l n:Nat} (h:D w A c l n) (hl:0<l):n≠0:=by
 rintro rfl;have:=h.2;rw[Te.nl_zero] at this;omega
end Go.Proofs.YtiondclbdgijbaaGreatDoor
namespace Te
theorem shr_digit (u t r:Nat) (hr:r<8):(u+65536*t) / 2 ^ r % 256=u / 2 ^ r % 256:=by
 obtain rfl | rfl | rfl | rfl | rfl | rfl | rfl | rfl:r=0∨r=1∨r=2∨r=3∨r=4∨r=5∨r=6∨r=7:=zo;all_goals omega
theorem div_pow_digit (xs:List Nat) (hx:Ok xs) (i:Nat):∃t,val xs / 256 ^ i=Tw.dg xs i+256*Tw.dg xs (i+1)+65536*t:=by
 have h0:val xs / 256 ^ i=val (xs.drop i):=by
  have h1:=val_split xs i;have h2:=val_take_lt hx i;rw[B_eq] at h1 h2;rw[h1,kE _ _ (Nat.pow_pos zo),vD h2,mC]
 rw[h0];have h3:=val_split (xs.drop i) 2;have e1:val ((xs.drop i).take 2)=Tw.dg xs i+256*Tw.dg xs (i+1):=by
  rw[val_take_succ',val_take_succ'];have a1:(xs.drop i).getD 0 0=Tw.dg xs i:=dg_drop xs i 0;have a2:(xs.drop i).getD 1 0=Tw.dg xs (i+1):=dg_drop xs i 1;rw[a1,a2,B_eq];simp[val]
 refine⟨val ((xs.drop i).drop 2),?_⟩;rw[h3,e1,B_eq]
def ShI (v r:Nat) (ds:List Nat) (i:Nat):Prop:=Ok ds∧ds.length=i∧val ds=v / 2 ^ r % 256 ^ i
theorem ShI.step {xs:List Nat} {r i:Nat} {ds:List Nat} (h:ShI (val xs) r ds i) (hx:Ok xs) (hr:r<8):ShI (val xs) r (ds++[(Tw.dg xs i+256*Tw.dg xs (i+1)) / 2 ^ r % 256]) (i+1):=by
 obtain⟨h1,h2,h3⟩:=h;refine⟨h1.append (Ok.cons (by rw[B_eq];omega) Ok.nil),by simp[h2],?_⟩;obtain⟨t,ht⟩:=div_pow_digit xs hx i;rw[val_snoc,h3,h2,B_eq,Nat.mod_pow_succ,Nat.div_div_eq_div_mul,qB (2 ^ r),←Nat.div_div_eq_div_mul,ht,shr_digit _ _ _ hr]
theorem ShI.done {xs ds:List Nat} {r i:Nat} (h:ShI (val xs) r ds i) (hx:Ok xs) (hi:i=xs.length):val ds=val xs / 2 ^ r:=by
 rw[h.2.2,cD];have:=val_lt hx;rw[B_eq,←hi] at this;exact aD (tE _ _) this
end Te
namespace Go.Proofs.YtiondclbdgijbaaGreatDoor
open Go.RowKit Tw
theorem Sm.drop {w:World} {b off c:Nat} {xs:List Nat} (h:Sm w (some ⟨b,off,none⟩) c xs) (q:Nat) (hq:q<xs.length):Sm w (some ⟨b,off+q,none⟩) (c-q) (xs.drop q):=by
 refine⟨h.ok.drop q,by rw[List.length_drop];have:=h.le;omega,(fun e=>by cases e),fun _=>?_⟩;obtain⟨b',off',e,hc⟩:=h.cells zo;cases e;refine⟨b,off+q,rfl,fun k hk=>?_⟩;rw[List.length_drop] at hk;have:=hc (q+k) zo;rw[gE,this];congr 3
 exact(Te.dg_drop xs q k).symm
end Go.Proofs.YtiondclbdgijbaaGreatDoor
