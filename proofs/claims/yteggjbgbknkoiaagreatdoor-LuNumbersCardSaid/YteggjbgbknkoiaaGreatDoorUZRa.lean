import Derived.Test.YteggjbgbknkoiaaGreatDoorUZV
import Derived.OwnWalk
set_option maxHeartbeats 4000000
set_option maxRecDepth 100000
namespace Go.Proofs.YteggjbgbknkoiaaGreatDoor
open Go.RowKit Tw
structure Sm (w:World) (A:Option Addr) (c:Nat) (xs:List Nat):Prop where
 ok:Te.Ok xs
 le:xs.length≤c
 none_:A=none→c=0
 cells:0<xs.length→∃b off,A=some ⟨b,off,none⟩∧∀k,k<xs.length→w.cell? ⟨b,off+k,none⟩=some (.int .i64 (dg xs k))
theorem Sm.keep {w w':World} {A:Option Addr} {c:Nat} {xs:List Nat} (h:Sm w A c xs) (hk:∀p v,(∃a,A=some a∧a.block=p.block)→w.cell? p=some v→w'.cell? p=some v):Sm w' A c xs :=
 ⟨h.ok,h.le,h.none_,fun hp=>by
  obtain⟨b,off,rfl,hc⟩:=h.cells hp;exact⟨b,off,rfl,fun k hkl=>hk _ _ ⟨_,rfl,rfl⟩ (hc k hkl)⟩⟩
theorem Sm.below {w w':World} {A:Option Addr} {c:Nat} {xs:List Nat} (h:Sm w A c xs) (hb:Below w.heap.size w w'):Sm w' A c xs :=
 h.keep fun p _ _ hc=>(hb.cell (World.block_lt_of_cell? w p hc)).trans hc
theorem Sm.drewN {w:World} {A:Option Addr} {c:Nat} {xs:List Nat} (h:Sm w A c xs) (n:Nat):Sm (w.drewN n) A c xs:=⟨h.ok,h.le,h.none_,h.cells⟩
theorem Sm.nil (w:World):Sm w none 0 []:=⟨Te.Ok.nil,nA _,fun _=>rfl,fun h=>absurd h (by simp)⟩
theorem Sm.front {w:World} {A:Option Addr} {c:Nat} {xs:List Nat} (h:Sm w A c xs) (n:Nat):Sm w A c (xs.take n) :=
 ⟨h.ok.take n,kA (by simp[List.length_take];omega) h.le,h.none_,fun hp=>by
  rw[zA] at hp;obtain⟨b,off,rfl,hc⟩:=h.cells zo;refine⟨b,off,rfl,fun k hk=>?_⟩;rw[zA] at hk;rw[hc k zo];unfold dg
  rw[bA,bA,kE,gA zo]⟩
def D (w:World) (A:Option Addr) (c l n:Nat):Prop:=Sm w A c (Te.limbs n)∧Te.nl n=l
theorem D.below {w w':World} {A:Option Addr} {c l n:Nat} (h:D w A c l n) (hb:Below w.heap.size w w'):D w' A c l n:=⟨h.1.below hb,h.2⟩
def TellsD (w:World) (n:Nat) (e:Ending) (w':World):Prop:=∃A c l,e=.returned (.slice A l c)∧D w' A c l n∧Below w.heap.size w w'
def TellsN (w:World) (n:Nat) (e:Ending) (w':World):Prop:=∃A c l,e=.returned (.slice A l c)∧D w' A c l n∧Below w.heap.size w w'∧∀a,A=some a→w.heap.size≤a.block
theorem TellsN.d {w:World} {n:Nat} {e:Ending} {w':World} (h:TellsN w n e w'):TellsD w n e w':=by
 obtain⟨A,c,l,h1,h2,h3,_⟩:=h;exact⟨A,c,l,h1,h2,h3⟩
def OwnS (w:World) (B:Nat) (v:Value) (ds:List Nat):Prop:=w.ownsRow B 3 1 v ds.length (ds.map fun(d:Nat)=>Value.int .i64 (d:Int))
theorem OwnS.sm {w:World} {B:Nat} {v:Value} {ds:List Nat} (h:OwnS w B v ds) (ho:Te.Ok ds):∃A c,v=.slice A ds.length c∧Sm w A c ds:=by
 obtain⟨hl,⟨rfl,h0⟩ | ⟨g,cap,cur,rfl,hB,hc,hn,hm,hs,ht⟩⟩:=h
 ·obtain rfl:ds=[]:=tD h0;exact⟨none,0,rfl,Sm.nil _⟩
 ·refine⟨_,cap,rfl,ho,hn,(fun h=>by cases h),fun _=>⟨g,0,rfl,fun k hk=>?_⟩⟩;have h1:(cur.toList.take (ds.length*1))[k]?=some (Value.int .i64 (dg ds k)):=by
   rw[ht,rA,dg_get hk];rfl
  rw[kE,gA zo] at h1;simp only[World.cell?,hc,xB]
  simpa using h1
theorem OwnS.new {w:World} {B l c:Nat} {A:Option Addr} {ds:List Nat} (h:OwnS w B (.slice A l c) ds):∀a,A=some a→B≤a.block:=fun a e=>by
 subst e;exact(World.ownsRow.lt h a.block rfl).1
theorem ret_sl {A:Option Addr} {l l' c:Nat} (h:l=l'):Ending.returned (.slice A l c)=.returned (.slice A l' c):=by rw[h]
theorem trim8_any (A:Option Addr) (c:Nat) (xs:List Nat) (w:World) (h:Sm w A c xs) (hs:xs.length≤16000000) :
  Calls Tryz.prog 179 #[.slice A xs.length c] w fun e w'=>e=.returned (.slice A (Te.nl (Te.val xs)) c)∧w=w':=by
 obtain⟨ho,hc,hn0,hcl⟩:=h;have HO:=zh ho;have HC:=zh hcl;have HN:=zh hn0;have HL:Hid (Te.nl (Te.val xs)≤xs.length):=zh (Te.nl_val ho);clear ho hcl hn0;go_enter Tryz.func179,Tryz.ntmps179
 go_wp2
 go_loop [3] (fun t=>∃k:Nat,k≤xs.length∧t=.int .i64 k∧Te.ZeroFrom xs k) (fun t=>(intOf t).toNat)
 case atStart=>exact⟨xs.length,cA _,rfl,Te.ZeroFrom.start xs⟩
 case round =>
  obtain⟨k,hk,rfl,hz⟩:=hrel;rcases mB k with rfl | hkp
  ·have e0:0=Te.nl (Te.val xs):=hz.done HO.out zo (.inl rfl);have E0:=zh e0;clear e0;cases A with
   | none =>
    have c0:=HN.out rfl;subst c0;go_wp2
    go_ret
    exact⟨ret_sl E0.out,rfl⟩
   | some ad =>
    go_wp2
    go_ret
    exact⟨ret_sl E0.out,rfl⟩
  ·obtain⟨j,rfl⟩:∃j,k=j+1:=⟨k-1,zo⟩;obtain⟨b,off,rfl,hcell⟩:=HC.out zo;have hcell:=hcell j zo;by_cases hd:dg xs j=0
   ·have hd1:(((dg xs j:Nat):Int)==0)=true:=by simp[hd]
    have HD:=zh hd;clear hd;go_wp2
    go_round
    case rel=>exact⟨j,zo,by go_num,hz.down HD.out⟩
    case measure=>simp[intOf]
   ·have hd1:(((dg xs j:Nat):Int)==0)=false:=by simp[hd]
    have HD:=zh hd;clear hd;go_wp2
    go_ret
    exact⟨ret_sl (hz.done HO.out zo (.inr HD.out)),rfl⟩
theorem cmpI_nat_lt {a b:Nat} (h:a<b):cmpI (a:Int) (b:Int) = -1:=cmpI_lt zo
theorem cmp8_ne (A A':Option Addr) (c c' l l' n n':Nat) (w:World) (h:D w A c l n) (h':D w A' c' l' n') (_hs:l≤16000000) (_hs':l'≤16000000) (hne:l≠l') (z:Int) (hz:Hid (cmpI (n:Int) (n':Int)=z)) :
  Calls Tryz.prog 196 #[.slice A l c,.slice A' l' c'] w fun e w'=>e=.returned (.int .i64 z)∧∃k,w'=w.drewN k:=by
 have h1:((l:Int) !=(l':Int))=true:=by rw[bne_iff_ne];omega
 obtain⟨_,e1⟩:=h;obtain⟨_,e2⟩:=h';rcases Nat.lt_or_gt_of_ne hne with hlt | hlt
 ·have h2:decide (l<l')=true:=by simpa using hlt
  have hz':-1=z:=by rw[←hz.out];exact(cmpI_nat_lt (Te.lt_of_nl zo)).symm
  clear e1 e2 hne hz;subst hz';go_enter Tryz.func196,Tryz.ntmps196
  go_wp2_with fail
  go_ret
  exact⟨rfl,0,rfl⟩
 ·have h2:decide (l<l')=false:=by simp;omega
  have hz':1=z:=by rw[←hz.out];exact(cmpI_gt (zi (Te.lt_of_nl (a:=n') (b:=n) zo))).symm
  clear e1 e2 hne hz;subst hz';go_enter Tryz.func196,Tryz.ntmps196
  go_wp2_with fail
  go_ret
  exact⟨rfl,0,rfl⟩
theorem cmp8_eq (A A':Option Addr) (c c' l n n':Nat) (w:World) (h:D w A c l n) (h':D w A' c' l n') (hs:l≤16000000) (z:Int) (hz:Hid (cmpI (n:Int) (n':Int)=z)) :
  Calls Tryz.prog 196 #[.slice A l c,.slice A' l c'] w fun e w'=>e=.returned (.int .i64 z)∧∃k,w'=w.drewN k:=by
 have h1:((l:Int) !=(l:Int))=false:=by simp
 obtain⟨h,e1⟩:=h;obtain⟨h',e2⟩:=h';have HA:=zh (Te.Agree.start (Te.ok_limbs n) (Te.ok_limbs n') (by rw[Te.val_limbs,Te.val_limbs];omega));have HL:Hid ((Te.limbs n).length=l):=e1;have HL':Hid ((Te.limbs n').length=l):=e2;have HC:=zh h.cells;have HC':=zh h'.cells;have H1:=zh e1;clear h h' e1 e2;go_enter Tryz.func196,Tryz.ntmps196
 go_wp2_with fail
 go_loopw [5] (fun i wr=>∃k m:Nat,k≤l∧i=.int .i64 ((k:Int)-1)∧wr=w.drewN m∧Te.Agree (Te.limbs n) (Te.limbs n') k) (fun i _=>((intOf i)+1).toNat)
 case atStart=>exact⟨l,0,cA _,rfl,rfl,by have:=HA.out;rw[Te.val_limbs,H1.out] at this;exact this⟩
 case round =>
  obtain⟨k,m,hk,rfl,rfl,hag⟩:=hrel;rcases mB k with rfl | hkp
  ·have hz':0=z:=by rw[←hz.out];have:=hag.all;rw[Te.val_limbs,Te.val_limbs] at this;rw[this];exact(cmpI_eq _).symm
   clear hz;subst hz';go_wp2_with fail
   go_ret
   exact⟨rfl,m,rfl⟩
  ·obtain⟨j,rfl⟩:∃j,k=j+1:=⟨k-1,zo⟩;obtain⟨b,off,rfl,hcell⟩:=HC.out (by rw[HL.out];omega);obtain⟨b',off',rfl,hcell'⟩:=HC'.out (by rw[HL'.out];omega);have c1:=hcell j (by rw[HL.out];omega);have c2:=hcell' j (by rw[HL'.out];omega);have i1:(0:Int)≤(j:Int):=zo;have i2:(j:Int)<l:=zo;have ej:((j+1:Nat):Int)-1=(j:Int):=zo;rw[ej];have HAG:=zh hag;clear hcell hcell' ej hag;rcases Nat.lt_trichotomy (dg (Te.limbs n) j) (dg (Te.limbs n') j) with hd | hd | hd
   ·have t1:decide (dg (Te.limbs n) j<dg (Te.limbs n') j)=true:=by simpa using hd
    have hz':-1=z:=by
     rw[←hz.out];have:=Te.Agree.less (Te.ok_limbs n) HAG.out hd;rw[Te.val_limbs,Te.val_limbs] at this;exact(cmpI_nat_lt this).symm
    clear hz hd;subst hz';go_wp2_with fail
    go_quiet (fail)
    go_wp2_with fail
    go_ret
    exact⟨rfl,_,by rw[World.drewN_drewN]⟩
   ·have t1:decide (dg (Te.limbs n) j<dg (Te.limbs n') j)=false:=by simp;omega
    have t2:decide (dg (Te.limbs n') j<dg (Te.limbs n) j)=false:=by simp;omega
    have HD:=zh hd;clear hd;go_wp2_with fail
    go_quiet (fail)
    go_wp2_with fail
    go_quiet (fail)
    go_wp2_with fail
    go_roundw
    case rel=>exact⟨j,_,zo,by go_num,rfl,HAG.out.down HD.out⟩
    case measure=>simp[intOf]
   ·have t1:decide (dg (Te.limbs n) j<dg (Te.limbs n') j)=false:=by simp;omega
    have t2:decide (dg (Te.limbs n') j<dg (Te.limbs n) j)=true:=by simpa using hd
    have hz':1=z:=by
     rw[←hz.out];have:=Te.Agree.less (Te.ok_limbs n') HAG.out.symm hd;rw[Te.val_limbs,Te.val_limbs] at this;exact(cmpI_gt zo).symm
    clear hz hd;subst hz';go_wp2_with fail
    go_quiet (fail)
    go_wp2_with fail
    go_quiet (fail)
    go_wp2_with fail
    go_ret
    exact⟨rfl,_,by rw[World.drewN_drewN,World.drewN_drewN]⟩
theorem cmp8_d {A A':Option Addr} {c c' l l' n n':Nat} {w:World} (h:D w A c l n) (h':D w A' c' l' n') (hs:l≤16000000) (hs':l'≤16000000) (z:Int) (hz:Hid (cmpI (n:Int) (n':Int)=z)) :
  Calls Tryz.prog 196 #[.slice A l c,.slice A' l' c'] w fun e w'=>e=.returned (.int .i64 z)∧∃k,w'=w.drewN k:=by
 by_cases hl:l=l'
 ·subst hl;exact cmp8_eq A A' c c' l n n' w h h' hs z hz
 ·exact cmp8_ne A A' c c' l l' n n' w h h' hs hs' hl z hz
end Go.Proofs.YteggjbgbknkoiaaGreatDoor
namespace Te
def SmallInv (xs:List Nat) (i k x:Nat) (ds:List Nat):Prop :=
 Ok ds∧ds.length=8*i+k∧x=Tw.dg xs i / 256 ^ k∧val ds=Tw.val (xs.take i)+256 ^ (8*i)*(Tw.dg xs i % 256 ^ k)
theorem SmallInv.step {xs:List Nat} {i k x:Nat} {ds:List Nat} (h:SmallInv xs i k x ds):SmallInv xs i (k+1) (x / 256) (ds++[x % 256]):=by
 obtain⟨h1,h2,h3,h4⟩:=h;refine⟨h1.append (Ok.cons (by rw[B_eq];omega) Ok.nil),by simp[h2];omega,?_,?_⟩
 ·rw[h3,bF,dB]
 ·rw[val_snoc,h4,h2,h3,Nat.mod_pow_succ,jA,wB,B_eq,wA,qE]
def SmallOut (xs:List Nat) (i:Nat) (ds:List Nat):Prop:=Ok ds∧ds.length=8*i∧val ds=Tw.val (xs.take i)
theorem SmallOut.start (xs:List Nat):SmallOut xs 0 []:=⟨Ok.nil,rfl,rfl⟩
theorem SmallOut.enter {xs:List Nat} {i:Nat} {ds:List Nat} (h:SmallOut xs i ds):SmallInv xs i 0 (Tw.dg xs i) ds :=
 ⟨h.1,h.2.1,by simp,by simp[h.2.2,Nat.mod_one]⟩
theorem SmallInv.leave {xs:List Nat} {i x:Nat} {ds:List Nat} (h:SmallInv xs i 8 x ds) (ho:Tw.Ok xs) (hi:i<xs.length):SmallOut xs (i+1) ds:=by
 obtain⟨h1,h2,h3,h4⟩:=h;refine⟨h1,zo,?_⟩;have hB:(256:Nat) ^ (8*i)=Tw.B ^ i:=by rw[eE];rfl
 rw[h4,Tw.val_take_succ xs i hi,hB,jD (by have:=Tw.dg_lt ho i;rw[Tw.B_eq] at this;exact this)];rfl
end Te
namespace Go.Proofs.YteggjbgbknkoiaaGreatDoor
open Go.RowKit Tw
theorem infoInt:(Tryz.prog.info? 3).map (fun i=>(i.zero,i.size,i.bytes))=some (some (.int .i64 0),1,8):=by kernel_rfl
theorem own_grow {B:Nat} {w wr w1:World} {v:Value} {ds:List Nat} {o:Obj} (hb:Below B w wr) (hB:B≤wr.heap.size) (h:OwnS wr B v ds) (hg:(wr.alloc o).grownBy w1 v.ownBlock):Below B w w1 :=
 (hb.alloc hB o).grown hg (by simp;omega) (fun j hj=>(h.lt j hj).1)
theorem own_snoc {B:Nat} (d:Nat) {z:Int} {w1:World} {v':Value} {ds:List Nat} (h:w1.ownsRow B 3 1 v' (ds.length+1) ((ds.map fun(d:Nat)=>Value.int .i64 (d:Int))++[.int .i64 z])) (hz:z=(d:Int)):OwnS w1 B v' (ds++[d]):=by
 subst hz;unfold OwnS;simpa using h
theorem one_news (w:World) (x:Value) (t:TypeId):∀j u,[x][j]?=some u→(w.alloc (.cells #[x] t)).cell? ((⟨w.heap.size,0,none⟩:Addr).add j)=some u:=fun j u h=>by
 cases j with
 | zero =>
  have hh:=heap_alloc_new w (.cells #[x] t);simp at h;subst h
  show(w.alloc (.cells #[x] t)).cell? ⟨w.heap.size,0,none⟩=_
  rw[cell_of_row _ _ _ _ _ _ hh];rfl
 | succ j=>simp at h
theorem one_int (k:IntKind) (z:Int):∀u∈[Value.int k z],u.oneCell'=true:=fun u h=>by simp at h;subst h;rfl
theorem u64_fit (x:Nat) (h:x<18446744073709551616):IntKind.u64.wrap (x:Int)=(x:Int):=by
 simp[IntKind.wrap,IntKind.bits,IntKind.signed];omega
theorem u64_step {y j d:Nat} (hy:y<256 ^ (8-(j+1))) (hj:j<8) (hd:d<256):y*256<18446744073709551616∧y*256+d<18446744073709551616:=by
 obtain⟨q,hq⟩:∃q,q=256 ^ (8-(j+1)):=⟨_,rfl⟩;have hp:q*256≤256 ^ 8:=by
  rw[hq,←dB];exact mC zo zo
 have e:(256:Nat) ^ 8=18446744073709551616:=by decide
 rw[←hq] at hy;rw[e] at hp;clear e hq;omega
theorem SmallInv_lt {xs:List Nat} {i k x:Nat} {ds:List Nat} (h:Te.SmallInv xs i k x ds) (ho:Ok xs):x<18446744073709551616:=by
 rw[h.2.2.1];exact pB (mE _ _) (by have:=dg_lt ho i;rwa [B_eq] at this)
theorem len_bd {n:Nat} (h:n≤1800000):n+1≤maxLen:=by unfold maxLen;omega
theorem byte_bd {n:Nat} (h:n≤1800000):(n+1)*8≤140737488355328:=zo
theorem base_bd {B:Nat} {w:World} (h:B≤w.heap.size) (o:Obj):B≤(w.alloc o).heap.size:=by simp;omega
theorem small_any (A:Option Addr) (c l n:Nat) (xs:List Nat) (w:World) (h:Nums w A c xs) (hl:xs.length=l) (hn:val xs=n) (hs:l≤200000) :
  Calls Tryz.prog 153 #[.slice A l c] w (TellsD w n):=by
 obtain⟨i0,hi,hz0,hz1,hz2⟩:=info_parts infoInt;have HL:=zh hl;have HO:=zh h.ok;have HC:=zh h;have HN:=zh hn;clear h hl hn;go_enter Tryz.func153,Tryz.ntmps153
 go_wp2_with fail
 go_loopw [3,4] (fun v i wr=>∃(k:Nat) (ds:List Nat),k≤l∧i=.int .i64 k∧OwnS wr w.heap.size v ds∧Te.SmallOut xs k ds∧Below w.heap.size w wr) (fun _ i _=>l-(intOf i).toNat)
 case atStart=>exact⟨0,[],nA _,rfl,World.ownsRow_nil _ _ _ _,Te.SmallOut.start xs,Below.refl _ _⟩
 case round =>
  obtain⟨k,ds,hk,rfl,hown,hso,hb⟩:=hrel;by_cases hlt:k<l
  ·obtain⟨b,off,rfl,hcell⟩:=(HC.out.below hb).cells (by rw[HL.out];omega);have c1:=hcell k (by rw[HL.out];exact hlt);have hx:=dg_lt HO.out k;rw[B_eq] at hx;have HX:=zh hx;have HI:=zh hso.enter;clear hcell hso hx;obtain⟨wo,rfl⟩:∃wo:World,wo=wr:=⟨_,rfl⟩;go_wp2_with fail
   go_loopw [3,5,6] (fun v x j wr=>∃(m y:Nat) (ds:List Nat),m≤8∧j=.int .i64 m∧x=.int .u64 y∧OwnS wr w.heap.size v ds∧Te.SmallInv xs k m y ds∧Below w.heap.size w wr) (fun _ _ j _=>8-(intOf j).toNat)
   case atStart=>exact⟨0,_,ds,nA _,rfl,rfl,hown,HI.out,hb⟩
   case round =>
    clear hown HI hb;obtain⟨m,y,ds,hm,rfl,rfl,hown,hsi,hb⟩:=hrel;by_cases hlt8:m<8
    ·have hsz:ds.length=8*k+m:=hsi.2.1;have hz:=hb.size;have HS:=zh hsi;have hw:IntKind.u64.wrap ((y:Int) / 256)=((y / 256:Nat):Int):=by
      have:=SmallInv_lt hsi HO.out;exact u64_fit (y / 256) zo
     have HZ:=zh hsz;have hlen:ds.length≤1800000:=zo;clear hsi hsz;go_wp2_with (at_builtin;refine wpList_append_own _ rfl _ _ 40 rfl w.heap.size 3 i0 (.int .i64 0) 1 8 Tryz.underlying40 hi hz0 hz1 hz2 rfl zd _ _ _ rfl (hown.alloc _) ⟨wr.heap.size,0,none⟩ 1 1 [.int .i64 ((y:Int) % 256)] rfl rfl (one_news _ _ _) (one_int _ _) (len_bd hlen) (byte_bd hlen) (base_bd hz _) ?_;intro v' w1 hown' hgrow _)
     have hb1:=own_grow hb hz hown hgrow;have ho1:=own_snoc (y % 256) hown' zo;clear hown hown' hgrow hb;go_wp2_with fail
     go_roundw
     case rel=>exact⟨m+1,y / 256,_,zo,by go_num,by go_num,ho1,HS.out.step,hb1⟩
     case measure=>simp[intOf];omega
    ·obtain rfl:m=8:=zo;have HS:=zh (hsi.leave HO.out (by rw[HL.out];exact hlt));clear hsi;go_wp2_with fail
     go_roundw
     case rel=>exact⟨k+1,ds,zo,by go_num,hown,HS.out,hb⟩
     case measure=>simp[intOf];omega
  ·obtain rfl:k=l:=zo;obtain⟨A1,c1,rfl,hsm⟩:=hown.sm hso.1;have hlen:ds.length≤16000000:=zi hso.2.1;have HE:Hid (Te.val ds=n):=by
    show _=_
    rw[hso.2.2,←HN.out,eA (by rw[HL.out];omega)]
   clear hown;go_wp2_with fail
   refine(trim8_any A1 c1 ds _ hsm hlen).mono ?_;rintro e _ ⟨rfl,rfl⟩;go_wp2_with fail
   go_ret
   have h1:=hsm.front (Te.nl (Te.val ds));rw[Te.limbs_take hsm.ok,HE.out] at h1;exact⟨A1,c1,Te.nl n,ret_sl (by rw[HE.out]),⟨h1,rfl⟩,hb⟩
theorem infoU64:(Tryz.prog.info? 53).map (fun i=>(i.zero,i.size,i.bytes))=some (some (.int .u64 0),1,8):=by kernel_rfl
def OwnW (w:World) (B:Nat) (v:Value) (ds:List Nat):Prop:=w.ownsRow B 53 1 v ds.length (ds.map fun(d:Nat)=>Value.int .u64 (d:Int))
theorem OwnW.nums {w:World} {B:Nat} {v:Value} {ds:List Nat} (h:OwnW w B v ds) (ho:Ok ds):∃A c,v=.slice A ds.length c∧Nums w A c ds:=by
 obtain⟨hl,⟨rfl,h0⟩ | ⟨g,cap,cur,rfl,hB,hc,hn,hm,hs,ht⟩⟩:=h
 ·obtain rfl:ds=[]:=tD h0;exact⟨none,0,rfl,Nums.nil _ _ _⟩
 ·refine⟨_,cap,rfl,ho,hn,fun _=>⟨g,0,rfl,fun k hk=>?_⟩⟩;have h1:(cur.toList.take (ds.length*1))[k]?=some (Value.int .u64 (dg ds k)):=by
   rw[ht,rA,dg_get hk];rfl
  rw[kE,gA zo] at h1;simp only[World.cell?,hc,xB]
  simpa using h1
theorem ownW_grow {B:Nat} {w wr w1:World} {v:Value} {ds:List Nat} {o:Obj} (hb:Below B w wr) (hB:B≤wr.heap.size) (h:OwnW wr B v ds) (hg:(wr.alloc o).grownBy w1 v.ownBlock):Below B w w1 :=
 (hb.alloc hB o).grown hg (by simp;omega) (fun j hj=>(h.lt j hj).1)
theorem ownW_snoc {B:Nat} (d:Nat) {z:Int} {w1:World} {v':Value} {ds:List Nat} (h:w1.ownsRow B 53 1 v' (ds.length+1) ((ds.map fun(d:Nat)=>Value.int .u64 (d:Int))++[.int .u64 z])) (hz:z=(d:Int)):OwnW w1 B v' (ds++[d]):=by
 subst hz;unfold OwnW;simpa using h
end Go.Proofs.YteggjbgbknkoiaaGreatDoor
namespace Te
def LargeIn (xs:List Nat) (i k x:Nat):Prop:=x=val ((xs.drop (i+k)).take (8-k))
theorem LargeIn.start (xs:List Nat) (i:Nat):LargeIn xs i 8 0:=by unfold LargeIn;simp[val]
theorem LargeIn.step {xs:List Nat} {i k x:Nat} (h:LargeIn xs i (k+1) x) (hk:k<8):LargeIn xs i k (x*256+Tw.dg xs (i+k)):=by
 unfold LargeIn at *
 rw[h];by_cases hl:i+k<xs.length
 ·rw[nD hl,show 8-k=(8-(k+1))+1 from by omega,List.take_succ_cons,val_cons,B_eq];have:Tw.dg xs (i+k)=xs[i+k]:=by unfold Tw.dg;rw[bA,aA hl];rfl
  rw[this,show i+(k+1)=i+k+1 from by omega];omega
 ·rw[eD zo,eD zo,Tw.dg_past zo];simp[val]
theorem LargeIn.lt {xs:List Nat} {i k x:Nat} (h:LargeIn xs i k x) (ho:Ok xs):x<256 ^ (8-k):=by
 unfold LargeIn at h
 rw[h];refine eB (val_lt ((ho.drop _).take _)) ?_;rw[B_eq];exact mC zo (List.length_take_le _ _)
def LargeOut (xs:List Nat) (m:Nat) (ys:List Nat):Prop:=Tw.Ok ys∧ys.length=m∧Tw.val ys=val (xs.take (8*m))
theorem LargeOut.start (xs:List Nat):LargeOut xs 0 []:=⟨Tw.Ok.nil,rfl,rfl⟩
theorem LargeOut.step {xs ys:List Nat} {m x:Nat} (h:LargeOut xs m ys) (hx:LargeIn xs (8*m) 0 x) (ho:Ok xs):LargeOut xs (m+1) (ys++[x]):=by
 obtain⟨h1,h2,h3⟩:=h;have hlt:=hx.lt ho;refine⟨h1.append (Tw.Ok.cons (by rw[Tw.B_eq];exact hlt) Tw.Ok.nil),by simp[h2],?_⟩;rw[Tw.val_snoc,h3,h2];unfold LargeIn at hx
 rw[show 8*(m+1)=8*m+8 from by omega,List.take_add,val_append,hx,jC,Nat.sub_zero];by_cases hl:8*m≤xs.length
 ·rw[zA,dD hl,B_eq,eE];rfl
 ·rw[eD zo];simp[val]
theorem large_one {ys:List Nat} {v l m:Nat} (ho:Tw.Ok ys) (hl:ys.length=m) (hv:Tw.val ys=v) (hn:nl v=l) (h1:l≤8*m) (h2:8*m≤l+7):ys=Tw.limbs v:=by
 have h:=Tw.limbs_val ho;rw[hv,hl] at h;have h3:=Tw.nl_val ho;rw[hv,hl] at h3;have h4:Tw.nl v=m:=by
  rcases kB (Tw.nl v) m with h5 | h5
  ·have h6:=Tw.nl_le_iff.1 (show Tw.nl v≤m-1 by omega);have h7:nl v≤8*(m-1):=nl_le_of_lt (by rw[B_eq,eE];exact h6);omega
  ·omega
 rw[h4,vE] at h;simpa using h
end Te
namespace Go.Proofs.YteggjbgbknkoiaaGreatDoor
open Go.RowKit Tw
theorem large_any (A:Option Addr) (c l:Nat) (xs:List Nat) (w:World) (h:Sm w A c xs) (hl:Te.nl (Te.val xs)=l) (hx:Hid (xs.take l=Te.limbs (Te.val xs))) (hs:xs.length≤1600000) :
  Calls Tryz.prog 157 #[.slice A xs.length c] w (Tells w (Te.val xs) (l / 8+1)):=by
 obtain⟨i0,hi,hz0,hz1,hz2⟩:=info_parts infoU64;have hle:l≤xs.length:=by rw[←hl];exact Te.nl_val h.ok
 have HT:=zh (trim8_any A c xs w h zo);rw[hl] at HT;have HL:=zh hl;have h1:=h.front l;have HC:=zh h1;have HLL:Hid ((xs.take l).length=l):=by show _=_;rw[zA];omega
 clear h hl h1;obtain⟨ds,hds⟩:∃ds,xs.take l=ds:=⟨_,rfl⟩;rw[hds] at HC HLL hx;clear hds;go_enter Tryz.func157,Tryz.ntmps157
 go_wp2_with fail
 refine HT.out.mono ?_;rintro e _ ⟨rfl,rfl⟩;clear HT;go_wp2_with fail
 go_loopw [3,4] (fun v i wr=>∃(m:Nat) (ys:List Nat),8*m≤l+7∧i=.int .i64 ((8*m:Nat):Int)∧OwnW wr w.heap.size v ys∧Te.LargeOut ds m ys∧Below w.heap.size w wr) (fun _ i _=>l+7-(intOf i).toNat)
 case atStart=>exact⟨0,[],zo,rfl,World.ownsRow_nil _ _ _ _,Te.LargeOut.start ds,Below.refl _ _⟩
 case round =>
  obtain⟨m,ys,hm,rfl,hown,hlo,hb⟩:=hrel;obtain⟨i,hi8⟩:∃i,i=8*m:=⟨_,rfl⟩;rw[←hi8];by_cases hlt:i<l
  ·have HI:=zh hlo;have H8:=zh hi8;have hil:i≤1600000:=zo;clear hlo hi8;obtain⟨wo,rfl⟩:∃wo:World,wo=wr:=⟨_,rfl⟩;go_wp2_with fail
   go_loopw [5,6] (fun x j wr=>∃(k y:Nat),k≤8∧j=.int .i64 ((k:Int)-1)∧x=.int .u64 (y:Int)∧Te.LargeIn ds i k y∧wr=wo) (fun _ j _=>((intOf j)+1).toNat)
   case atStart=>exact⟨8,0,zo,rfl,rfl,Te.LargeIn.start ds i,rfl⟩
   case round =>
    obtain⟨k,y,hk,rfl,rfl,hin,rfl⟩:=hrel;rcases mB k with rfl | hkp
    ·have HS:=zh (Te.LargeOut.step HI.out (by rw[←H8.out];exact hin) HC.out.ok);have hlen:ys.length≤1800000:=zi HI.out.2.1;have hz:=hb.size;clear hin;go_wp2_with (at_builtin;refine wpList_append_own _ rfl _ _ 26 rfl w.heap.size 53 i0 (.int .u64 0) 1 8 Tryz.underlying26 hi hz0 hz1 hz2 rfl zd _ _ _ rfl (hown.alloc _) ⟨_,0,none⟩ 1 1 [.int .u64 (y:Int)] rfl rfl (one_news _ _ _) (one_int _ _) (len_bd hlen) (byte_bd hlen) (base_bd hz _) ?_;intro v' w1 hown' hgrow _)
     have hb1:=ownW_grow hb hz hown hgrow;have ho1:=ownW_snoc y hown' rfl;clear hown hown' hgrow hb;go_wp2_with fail
     go_roundw
     case rel=>exact⟨m+1,_,by have:=H8.out;omega,by rw[show((8*(m+1):Nat):Int)=(i:Int)+8 from by have:=H8.out;omega],ho1,HS.out,hb1⟩
     case measure=>simp[intOf];have:=H8.out;omega
    ·obtain⟨j,rfl⟩:∃j,k=j+1:=⟨k-1,zo⟩;have hy:=hin.lt HC.out.ok;have hd:dg ds (i+j)<256:=Te.dg_lt HC.out.ok (i+j);obtain⟨f1,f2⟩:=u64_step hy zo hd;have w1:IntKind.u64.wrap ((y:Int)*256)=(y:Int)*256:=u64_fit (y*256) f1;have w2:IntKind.u64.wrap ((dg ds (i+j):Nat):Int)=((dg ds (i+j):Nat):Int):=u64_fit _ zo;have w3:IntKind.u64.wrap ((y:Int)*256+((dg ds (i+j):Nat):Int))=(y:Int)*256+((dg ds (i+j):Nat):Int):=u64_fit (y*256+dg ds (i+j)) f2;clear hy f1 f2;have HIN:=zh (hin.step zo);clear hin;have ej:((j+1:Nat):Int)-1=(j:Int):=zo;rw[ej];clear ej;by_cases hil2:i+j<l
     ·obtain⟨b,off,rfl,hcell⟩:=(HC.out.below hb).cells (by rw[HLL.out];omega);have c1:=hcell (i+j) (by rw[HLL.out];exact hil2);clear hcell;go_wp2_with fail
      exact⟨⟨j,_,zo,rfl,by go_num,HIN.out,trivial⟩,by simp[intOf]⟩
     ·have HD:Hid (dg ds (i+j)=0):=by show _=_;exact Tw.dg_past (by rw[HLL.out];omega)
      clear w2 w3;go_wp2_with fail
      exact⟨⟨j,y*256,zo,rfl,by go_num,by have:=HIN.out;rw[HD.out,jC] at this;exact this,trivial⟩,by simp[intOf]⟩
  ·obtain⟨A1,c1,rfl,hnm⟩:=hown.nums hlo.1;have hval:val ys=Te.val xs:=by
    rw[hlo.2.2,eA (by rw[HLL.out];omega),hx.out,Te.val_limbs]
   have hys:ys=limbs (Te.val xs):=Te.large_one hlo.1 hlo.2.1 hval HL.out zo hm;have HY:=zh hys;have HM:=zh hlo.2.1;clear hown hlo hys hval;go_wp2_with fail
   go_ret
   exact⟨A1,c1,ys.length,rfl,⟨by rw[←HY.out];exact hnm,by rw[HY.out];rfl⟩,by rw[HM.out];omega,hb⟩
end Go.Proofs.YteggjbgbknkoiaaGreatDoor
namespace Te
theorem val_take_all {xs:List Nat} {i:Nat} (h:xs.length≤i):val (xs.take i)=val xs:=by rw[eA h]
def AddI (xs ys ds:List Nat) (i cy:Nat):Prop:=Ok ds∧ds.length=i∧cy≤1∧val ds+256 ^ i*cy=val (xs.take i)+val (ys.take i)∧(max xs.length ys.length<i→cy=0)
theorem AddI.start (xs ys:List Nat):AddI xs ys [] 0 0:=⟨Ok.nil,rfl,zo,by simp[val],fun _=>rfl⟩
theorem AddI.step {xs ys ds:List Nat} {i cy s:Nat} (h:AddI xs ys ds i cy) (hx:Ok xs) (hy:Ok ys) (hs:s=cy+Tw.dg xs i+Tw.dg ys i):AddI xs ys (ds++[s % 256]) (i+1) (s / 256):=by
 obtain⟨h1,h2,h3,h4,h5⟩:=h;have d1:Tw.dg xs i<256:=dg_lt hx i;have d2:Tw.dg ys i<256:=dg_lt hy i;refine⟨h1.append (Ok.cons (by rw[B_eq];omega) Ok.nil),by simp[h2],zo,?_,fun hm=>?_⟩
 ·have e1:val (xs.take (i+1))=val (xs.take i)+B ^ i*Tw.dg xs i:=val_take_succ' xs i;have e2:val (ys.take (i+1))=val (ys.take i)+B ^ i*Tw.dg ys i:=val_take_succ' ys i;rw[e1,e2,val_snoc,h2,B_eq];have e3:256 ^ (i+1)*(s / 256)=256 ^ i*(256*(s / 256)):=by rw[dB,wA]
  have e4:256 ^ i*(s % 256)+256 ^ i*(256*(s / 256))=256 ^ i*s:=by rw[←jA,nF]
  have e5:256 ^ i*s=256 ^ i*cy+256 ^ i*Tw.dg xs i+256 ^ i*Tw.dg ys i:=by rw[hs,jA,jA]
  omega
 ·have z1:Tw.dg xs i=0:=Tw.dg_past zo;have z2:Tw.dg ys i=0:=Tw.dg_past zo;omega
theorem AddI.done {xs ys ds:List Nat} {i:Nat} (h:AddI xs ys ds i 0) (hx:xs.length≤i) (hy:ys.length≤i):val ds=val xs+val ys:=by
 obtain⟨_,_,_,h4,_⟩:=h;rw[val_take_all hx,val_take_all hy] at h4;omega
def SubI (xs ys ds:List Nat) (i bw:Nat):Prop:=Ok ds∧ds.length=i∧bw≤1∧val ds+val (ys.take i)=val (xs.take i)+256 ^ i*bw
theorem SubI.start (xs ys:List Nat):SubI xs ys [] 0 0:=⟨Ok.nil,rfl,zo,by simp[val]⟩
theorem SubI.step {xs ys ds:List Nat} {i bw d b:Nat} (h:SubI xs ys ds i bw) (hd:d<256) (hb:b≤1) (hs:d+Tw.dg ys i+bw=Tw.dg xs i+256*b):SubI xs ys (ds++[d]) (i+1) b:=by
 obtain⟨h1,h2,h3,h4⟩:=h;refine⟨h1.append (Ok.cons (by rw[B_eq];omega) Ok.nil),by simp[h2],hb,?_⟩;have e1:val (xs.take (i+1))=val (xs.take i)+B ^ i*Tw.dg xs i:=val_take_succ' xs i;have e2:val (ys.take (i+1))=val (ys.take i)+B ^ i*Tw.dg ys i:=val_take_succ' ys i;rw[e1,e2,val_snoc,h2,B_eq];have e3:256 ^ (i+1)*b=256 ^ i*(256*b):=by rw[dB,wA]
 have e5:256 ^ i*d+256 ^ i*Tw.dg ys i+256 ^ i*bw=256 ^ i*Tw.dg xs i+256 ^ i*(256*b):=by rw[←jA,←jA,←jA,hs]
 omega
theorem SubI.done {xs ys ds:List Nat} {i bw:Nat} (h:SubI xs ys ds i bw) (hi:i=xs.length) (hx:Ok xs) (hy:Ok ys) (hle:val ys≤val xs):val ds=val xs-val ys:=by
 obtain⟨h1,h2,h3,h4⟩:=h;have hn:nl (val ys)≤i:=by rw[hi];exact kA (nl_mono hle) (nl_val hx)
 have e1:val (ys.take i)=val ys:=val_take_nl hy hn;have e2:val (xs.take i)=val xs:=val_take_all zo;rw[e1,e2] at h4;have h5:=val_lt h1;rw[h2,B_eq] at h5;obtain rfl | rfl:bw=0∨bw=1:=zo
 ·omega
 ·omega
end Te
namespace Go.Proofs.YteggjbgbknkoiaaGreatDoor
open Go.RowKit Tw
section
variable {w:World} {A A':Option Addr} {c c' l l' n n':Nat}
theorem small_v (h:V w A c l n) (hl:l≤200000):Calls Tryz.prog 153 #[.slice A l c] w (TellsD w n):=by
 obtain⟨xs,h1,h2,h3⟩:=h;exact small_any A c l n xs w h1 h2 h3 hl
theorem D.small (h:D w A c l n) (hn:n<B ^ l'):l≤8*l':=by
 rw[←h.2];exact Te.nl_le_of_lt (by rw[Te.B_eq,eE];exact hn)
theorem large_d (h:D w A c l n) (hl:l≤1600000):Calls Tryz.prog 157 #[.slice A l c] w (Tells w n (l / 8+1)):=by
 obtain⟨h1,h2⟩:=h;have h3:=large_any A c l (Te.limbs n) w h1 (by rw[Te.val_limbs];exact h2) (zh (by rw[Te.val_limbs,eA (by show Te.nl n≤l;omega)])) (by show Te.nl n≤_;omega);have e:(Te.limbs n).length=l:=h2;rw[e,Te.val_limbs] at h3;exact h3
theorem large_s {xs:List Nat} (h:Sm w A c xs) (hl:xs.length=l) (hn:Te.val xs=n) (hs:l≤1600000):Calls Tryz.prog 157 #[.slice A l c] w (Tells w n (l / 8+1)):=by
 subst hl hn;have h1:=Te.nl_val h.ok;refine(large_any A c _ xs w h rfl (zh (Te.limbs_take h.ok)) hs).mono fun e w' ⟨A1,c1,l1,he,hc,hm,hb⟩=>⟨A1,c1,l1,he,hc,?_,hb⟩;have:Te.nl (Te.val xs) / 8≤xs.length / 8:=Nat.div_le_div_right h1;omega
theorem cmp_r (h:V w A c l n) (h':V w A' c' l' n') (hl:l≤200000) (hl':l'≤200000) (z:Int) (hz:cmpI (n:Int) (n':Int)=z) :
  Calls Tryz.prog 177 #[.slice A l c,.slice A' l' c'] w fun e w'=>e=.returned (.int .i64 z)∧Below w.heap.size w w':=by
 have hn:=h.lt;have hn':=h'.lt;have HZ:=zh hz;clear hz;go_enter Tryz.func177,Tryz.ntmps177
 go_wp2_with fail
 refine(small_v h hl).mono ?_;rintro e w1 ⟨A1,c1,l1,rfl,h1,b1⟩;have s1:=h1.small hn;go_wp2_with fail
 refine(small_v (h'.below b1) hl').mono ?_;rintro e w2 ⟨A2,c2,l2,rfl,h2,b2⟩;have s2:=h2.small hn';go_wp2_with fail
 refine(cmp8_d (h1.below b2) h2 zo zo z HZ).mono ?_;rintro e w3 ⟨rfl,k,rfl⟩;go_wp2_with fail
 go_ret
 exact⟨rfl,zAb (zAb b1 b2) (zAj (Below.refl _ _) k)⟩
end
theorem add_r {w:World} {A A':Option Addr} {c c' l l' n n':Nat} (h:V w A c l n) (h':V w A' c' l' n') (hl:l≤100000) (hl':l'≤100000) :
  Calls Tryz.prog 176 #[.slice A l c,.slice A' l' c'] w (Tells w (n+n') (max l l'+2)):=by
 obtain⟨i0,hi,hz0,hz1,hz2⟩:=info_parts infoInt;have hn:=h.lt;have hn':=h'.lt;go_enter Tryz.func176,Tryz.ntmps176
 go_wp2_with fail
 refine(small_v h zo).mono ?_;rintro e w1 ⟨A1,c1,l1,rfl,h1,b1⟩;have s1:=h1.small hn;go_wp2_with fail
 refine(small_v (h'.below b1) zo).mono ?_;rintro e w2 ⟨A2,c2,l2,rfl,h2,b2⟩;have s2:=h2.small hn';replace h1:=h1.below b2;replace b2:=zAb b1 b2;clear h h' hn hn' b1;obtain⟨xs,hxs⟩:∃xs,xs=Te.limbs n:=⟨_,rfl⟩;obtain⟨ys,hys⟩:∃ys,ys=Te.limbs n':=⟨_,rfl⟩;have HX:Hid (Sm w2 A1 c1 xs∧xs.length=l1):=by rw[hxs];exact h1
 have HY:Hid (Sm w2 A2 c2 ys∧ys.length=l2):=by rw[hys];exact h2
 have HE:Hid (Te.val xs+Te.val ys=n+n'):=by show _=_;rw[hxs,hys,Te.val_limbs,Te.val_limbs]
 clear h1 h2 hxs hys;have hg2:=b2.size;go_wp2_with fail
 go_loopw [7,8,9] (fun v cy i wr=>∃(k u:Nat) (ds:List Nat),k≤max l1 l2+1∧i=.int .i64 k∧cy=.int .i64 u∧OwnS wr w2.heap.size v ds∧Te.AddI xs ys ds k u∧Below w2.heap.size w2 wr) (fun _ _ i _=>max l1 l2+1-(intOf i).toNat)
 case atStart=>exact⟨0,0,[],zo,rfl,rfl,World.ownsRow_nil _ _ _ _,Te.AddI.start xs ys,Below.refl _ _⟩
 case round =>
  obtain⟨k,u,ds,hk,rfl,rfl,hown,hai,hb⟩:=hrel;have hlen:ds.length≤1800000:=zi hai.2.1;have hz:=hb.size;have hu:u≤1:=hai.2.2.1;have d1:dg xs k<256:=Te.dg_lt HX.out.1.ok k;have d2:dg ys k<256:=Te.dg_lt HY.out.1.ok k;have HS:=zh (fun s hs=>hai.step (s:=s) HX.out.1.ok HY.out.1.ok hs);have HK:Hid (max l1 l2<k→u=0):=by show _→_;rw[←HX.out.2,←HY.out.2];exact hai.2.2.2.2
  by_cases hx:k<l1
  ·by_cases hy:k<l2
   ·skip
    obtain⟨ba,oa,rfl,ca⟩:=(HX.out.1.below hb).cells (by rw[HX.out.2];omega);replace ca:=ca k (by rw[HX.out.2];omega);obtain⟨bb,ob,rfl,cb⟩:=(HY.out.1.below hb).cells (by rw[HY.out.2];omega);replace cb:=cb k (by rw[HY.out.2];omega);clear hai;go_wp2_with (at_builtin;refine wpList_append_own _ rfl _ _ 40 rfl w2.heap.size 3 i0 (.int .i64 0) 1 8 Tryz.underlying40 hi hz0 hz1 hz2 rfl zd _ _ _ rfl (hown.alloc _) ⟨_,0,none⟩ 1 1 [.int .i64 (((u:Int)+((dg xs k:Nat):Int)+((dg ys k:Nat):Int)) % 256)] rfl rfl (one_news _ _ _) (one_int _ _) (len_bd hlen) (byte_bd hlen) (base_bd hz _) ?_;intro v' w1 hown' hgrow _)
    have hb1:=own_grow hb hz hown hgrow;have ho1:=own_snoc ((u+dg xs k+dg ys k) % 256) hown' zo;clear hown hown' hgrow hb;go_wp2_with fail
    go_roundw
    case rel=>exact⟨k+1,(u+dg xs k+dg ys k) / 256,_,zo,by go_num,by go_num,ho1,HS.out _ zo,hb1⟩
    case measure=>simp[intOf];omega
   ·skip
    obtain⟨ba,oa,rfl,ca⟩:=(HX.out.1.below hb).cells (by rw[HX.out.2];omega);replace ca:=ca k (by rw[HX.out.2];omega);have zy:Hid (dg ys k=0):=zh (Tw.dg_past (by rw[HY.out.2];omega));clear hai;go_wp2_with (at_builtin;refine wpList_append_own _ rfl _ _ 40 rfl w2.heap.size 3 i0 (.int .i64 0) 1 8 Tryz.underlying40 hi hz0 hz1 hz2 rfl zd _ _ _ rfl (hown.alloc _) ⟨_,0,none⟩ 1 1 [.int .i64 (((u:Int)+((dg xs k:Nat):Int)) % 256)] rfl rfl (one_news _ _ _) (one_int _ _) (len_bd hlen) (byte_bd hlen) (base_bd hz _) ?_;intro v' w1 hown' hgrow _)
    have hb1:=own_grow hb hz hown hgrow;have ho1:=own_snoc ((u+dg xs k) % 256) hown' zo;clear hown hown' hgrow hb;go_wp2_with fail
    go_roundw
    case rel=>exact⟨k+1,(u+dg xs k) / 256,_,zo,by go_num,by go_num,ho1,HS.out _ (zi zy.out),hb1⟩
    case measure=>simp[intOf];omega
  ·by_cases hy:k<l2
   ·skip
    obtain⟨bb,ob,rfl,cb⟩:=(HY.out.1.below hb).cells (by rw[HY.out.2];omega);replace cb:=cb k (by rw[HY.out.2];omega);have zx:Hid (dg xs k=0):=zh (Tw.dg_past (by rw[HX.out.2];omega));clear hai;go_wp2_with (at_builtin;refine wpList_append_own _ rfl _ _ 40 rfl w2.heap.size 3 i0 (.int .i64 0) 1 8 Tryz.underlying40 hi hz0 hz1 hz2 rfl zd _ _ _ rfl (hown.alloc _) ⟨_,0,none⟩ 1 1 [.int .i64 (((u:Int)+((dg ys k:Nat):Int)) % 256)] rfl rfl (one_news _ _ _) (one_int _ _) (len_bd hlen) (byte_bd hlen) (base_bd hz _) ?_;intro v' w1 hown' hgrow _)
    have hb1:=own_grow hb hz hown hgrow;have ho1:=own_snoc ((u+dg ys k) % 256) hown' zo;clear hown hown' hgrow hb;go_wp2_with fail
    go_roundw
    case rel=>exact⟨k+1,(u+dg ys k) / 256,_,zo,by go_num,by go_num,ho1,HS.out _ (zi zx.out),hb1⟩
    case measure=>simp[intOf];omega
   ·have zx:dg xs k=0:=Tw.dg_past (by rw[HX.out.2];omega);have zy:dg ys k=0:=Tw.dg_past (by rw[HY.out.2];omega);rcases mB u with rfl | hu0
    ·have hval:Te.val ds=n+n':=by rw[←HE.out];exact hai.done (by rw[HX.out.2];omega) (by rw[HY.out.2];omega)
     obtain⟨A3,c3,rfl,hsm⟩:=hown.sm hai.1;have HV:=zh hval;have hlk:ds.length=k:=hai.2.1;have HLK:=zh hlk;clear hown hai zx zy HS HK hval hlk;go_wp2_with fail
     refine(large_s hsm rfl HV.out (zi HLK.out)).mono ?_;rintro e w4 ⟨A4,c4,l4,rfl,h4,m4,b4⟩;go_wp2_with fail
     go_ret
     refine⟨A4,c4,l4,rfl,h4,?_,zAb b2 (zAb hb b4)⟩;have:=HLK.out;omega
    ·obtain rfl:u=1:=zo;have hkm:k≤max l1 l2:=by
      rcases kB (max l1 l2) k with hh | hh
      ·have:=HK.out hh;omega
      ·exact hh
     clear zx zy;have zx:Hid (dg xs k=0):=zh (Tw.dg_past (by rw[HX.out.2];omega));have zy:Hid (dg ys k=0):=zh (Tw.dg_past (by rw[HY.out.2];omega));clear hai;go_wp2_with (at_builtin;refine wpList_append_own _ rfl _ _ 40 rfl w2.heap.size 3 i0 (.int .i64 0) 1 8 Tryz.underlying40 hi hz0 hz1 hz2 rfl zd _ _ _ rfl (hown.alloc _) ⟨_,0,none⟩ 1 1 [.int .i64 ((1) % 256)] rfl rfl (one_news _ _ _) (one_int _ _) (len_bd hlen) (byte_bd hlen) (base_bd hz _) ?_;intro v' w1 hown' hgrow _)
     have hb1:=own_grow hb hz hown hgrow;have ho1:=own_snoc (1 % 256) hown' zo;clear hown hown' hgrow hb;go_wp2_with fail
     go_roundw
     case rel=>exact⟨k+1,1 / 256,_,zo,by go_num,by go_num,ho1,HS.out _ (zj zx.out zy.out),hb1⟩
     case measure=>simp[intOf];omega
theorem sub8_n {w:World} {A1 A2:Option Addr} {c1 c2 l1 l2 n n':Nat} (h1:D w A1 c1 l1 n) (h2:D w A2 c2 l2 n') (hl:l1≤1600000) (hl':l2≤1600000) (hle:n'≤n) :
  Calls Tryz.prog 197 #[.slice A1 l1 c1,.slice A2 l2 c2] w (TellsN w (n-n')):=by
 obtain⟨i0,hi,hz0,hz1,hz2⟩:=info_parts infoInt;obtain⟨xs,hxs⟩:∃xs,xs=Te.limbs n:=⟨_,rfl⟩;obtain⟨ys,hys⟩:∃ys,ys=Te.limbs n':=⟨_,rfl⟩;have HX:Hid (Sm w A1 c1 xs∧xs.length=l1):=by rw[hxs];exact h1
 have HY:Hid (Sm w A2 c2 ys∧ys.length=l2):=by rw[hys];exact h2
 have HE:Hid (Te.val xs-Te.val ys=n-n'∧Te.val ys≤Te.val xs):=by show _∧_;rw[hxs,hys,Te.val_limbs,Te.val_limbs];exact⟨rfl,hle⟩
 clear h1 h2 hxs hys hle;go_enter Tryz.func197,Tryz.ntmps197
 go_wp2_with fail
 go_loopw [5,6,7] (fun v bw i wr=>∃(k u:Nat) (ds:List Nat),k≤l1∧i=.int .i64 k∧bw=.int .i64 u∧OwnS wr w.heap.size v ds∧Te.SubI xs ys ds k u∧Below w.heap.size w wr) (fun _ _ i _=>l1-(intOf i).toNat)
 case atStart=>exact⟨0,0,[],zo,rfl,rfl,World.ownsRow_nil _ _ _ _,Te.SubI.start xs ys,Below.refl _ _⟩
 case round =>
  obtain⟨k,u,ds,hk,rfl,rfl,hown,hsi,hb⟩:=hrel;by_cases hx:k<l1
  ·have hlen:ds.length≤1800000:=zi hsi.2.1;have hz:=hb.size;have hu:u≤1:=hsi.2.2.1;have d1:dg xs k<256:=Te.dg_lt HX.out.1.ok k;have d2:dg ys k<256:=Te.dg_lt HY.out.1.ok k;have HS:=zh (fun d b h1 h2 h3=>hsi.step (d:=d) (b:=b) h1 h2 h3);obtain⟨ba,oa,rfl,ca⟩:=(HX.out.1.below hb).cells (by rw[HX.out.2];omega);replace ca:=ca k (by rw[HX.out.2];omega);by_cases hy:k<l2
   ·by_cases hng:dg xs k<u+dg ys k
    ·skip
     obtain⟨bb,ob,rfl,cb⟩:=(HY.out.1.below hb).cells (by rw[HY.out.2];omega);replace cb:=cb k (by rw[HY.out.2];omega);clear hsi;go_wp2_with (at_builtin;refine wpList_append_own _ rfl _ _ 40 rfl w.heap.size 3 i0 (.int .i64 0) 1 8 Tryz.underlying40 hi hz0 hz1 hz2 rfl zd _ _ _ rfl (hown.alloc _) ⟨_,0,none⟩ 1 1 [.int .i64 (((dg xs k:Nat):Int)-(u:Int)-((dg ys k:Nat):Int)+256)] rfl rfl (one_news _ _ _) (one_int _ _) (len_bd hlen) (byte_bd hlen) (base_bd hz _) ?_;intro v' w1 hown' hgrow _)
     have hb1:=own_grow hb hz hown hgrow;have ho1:=own_snoc (dg xs k+256-u-dg ys k) hown' zo;clear hown hown' hgrow hb;go_wp2_with fail
     go_roundw
     case rel=>exact⟨k+1,1,_,zo,by go_num,rfl,ho1,HS.out _ _ zo zo zo,hb1⟩
     case measure=>simp[intOf];omega
    ·skip
     obtain⟨bb,ob,rfl,cb⟩:=(HY.out.1.below hb).cells (by rw[HY.out.2];omega);replace cb:=cb k (by rw[HY.out.2];omega);clear hsi;go_wp2_with (at_builtin;refine wpList_append_own _ rfl _ _ 40 rfl w.heap.size 3 i0 (.int .i64 0) 1 8 Tryz.underlying40 hi hz0 hz1 hz2 rfl zd _ _ _ rfl (hown.alloc _) ⟨_,0,none⟩ 1 1 [.int .i64 (((dg xs k:Nat):Int)-(u:Int)-((dg ys k:Nat):Int))] rfl rfl (one_news _ _ _) (one_int _ _) (len_bd hlen) (byte_bd hlen) (base_bd hz _) ?_;intro v' w1 hown' hgrow _)
     have hb1:=own_grow hb hz hown hgrow;have ho1:=own_snoc (dg xs k-u-dg ys k) hown' zo;clear hown hown' hgrow hb;go_wp2_with fail
     go_roundw
     case rel=>exact⟨k+1,0,_,zo,by go_num,rfl,ho1,HS.out _ _ zo zo zo,hb1⟩
     case measure=>simp[intOf];omega
   ·by_cases hng:dg xs k<u
    ·skip
     have zy:Hid (dg ys k=0):=zh (Tw.dg_past (by rw[HY.out.2];omega));clear hsi;go_wp2_with (at_builtin;refine wpList_append_own _ rfl _ _ 40 rfl w.heap.size 3 i0 (.int .i64 0) 1 8 Tryz.underlying40 hi hz0 hz1 hz2 rfl zd _ _ _ rfl (hown.alloc _) ⟨_,0,none⟩ 1 1 [.int .i64 (((dg xs k:Nat):Int)-(u:Int)+256)] rfl rfl (one_news _ _ _) (one_int _ _) (len_bd hlen) (byte_bd hlen) (base_bd hz _) ?_;intro v' w1 hown' hgrow _)
     have hb1:=own_grow hb hz hown hgrow;have ho1:=own_snoc (dg xs k+256-u) hown' zo;clear hown hown' hgrow hb;go_wp2_with fail
     go_roundw
     case rel=>exact⟨k+1,1,_,zo,by go_num,rfl,ho1,HS.out _ _ zo zo (zi zy.out),hb1⟩
     case measure=>simp[intOf];omega
    ·skip
     have zy:Hid (dg ys k=0):=zh (Tw.dg_past (by rw[HY.out.2];omega));clear hsi;go_wp2_with (at_builtin;refine wpList_append_own _ rfl _ _ 40 rfl w.heap.size 3 i0 (.int .i64 0) 1 8 Tryz.underlying40 hi hz0 hz1 hz2 rfl zd _ _ _ rfl (hown.alloc _) ⟨_,0,none⟩ 1 1 [.int .i64 (((dg xs k:Nat):Int)-(u:Int))] rfl rfl (one_news _ _ _) (one_int _ _) (len_bd hlen) (byte_bd hlen) (base_bd hz _) ?_;intro v' w1 hown' hgrow _)
     have hb1:=own_grow hb hz hown hgrow;have ho1:=own_snoc (dg xs k-u) hown' zo;clear hown hown' hgrow hb;go_wp2_with fail
     go_roundw
     case rel=>exact⟨k+1,0,_,zo,by go_num,rfl,ho1,HS.out _ _ zo zo (zi zy.out),hb1⟩
     case measure=>simp[intOf];omega
  ·obtain rfl:k=l1:=zo;have hval:Te.val ds=n-n':=by rw[←HE.out.1];exact hsi.done HX.out.2.symm HX.out.1.ok HY.out.1.ok HE.out.2
   obtain⟨A3,c3,rfl,hsm⟩:=hown.sm hsi.1;have HV:=zh hval;have hlk:ds.length≤16000000:=zi hsi.2.1;have HW:=zh hown.new;clear hown hsi hval;go_wp2_with fail
   refine(trim8_any A3 c3 ds _ hsm hlk).mono ?_;rintro e _ ⟨rfl,rfl⟩;go_wp2_with fail
   go_ret
   have h1:=hsm.front (Te.nl (Te.val ds));rw[Te.limbs_take hsm.ok,HV.out] at h1;exact⟨A3,c3,Te.nl (n-n'),ret_sl (by rw[HV.out]),⟨h1,rfl⟩,hb,HW.out⟩
theorem sub8_d {w:World} {A1 A2:Option Addr} {c1 c2 l1 l2 n n':Nat} (h1:D w A1 c1 l1 n) (h2:D w A2 c2 l2 n') (hl:l1≤1600000) (hl':l2≤1600000) (hle:n'≤n) :
  Calls Tryz.prog 197 #[.slice A1 l1 c1,.slice A2 l2 c2] w (TellsD w (n-n')):=(sub8_n h1 h2 hl hl' hle).mono fun _ _ h=>h.d
theorem nums_none (w:World):C w none 0 0 0:=⟨by rw[limbs_zero];exact Nums.nil _ _ _,rfl⟩
theorem sub_r {w:World} {A A':Option Addr} {c c' l l' n n':Nat} (h:V w A c l n) (h':V w A' c' l' n') (hl:l≤100000) (hl':l'≤100000) :
  Calls Tryz.prog 178 #[.slice A l c,.slice A' l' c'] w (Tells w (n-n') (l+1)):=by
 have hn:=h.lt;have hn':=h'.lt;obtain⟨z,hz⟩:∃z,cmpI (n:Int) (n':Int)=z:=⟨_,rfl⟩;have HZ:=zh hz;by_cases hlt:n<n'
 ·have t1:decide (z<0)=true:=by rw[←hz,cmpI_nat_lt hlt];rfl
  have HE:Hid (n-n'=0):=zh zo;clear hz hlt;go_enter Tryz.func178,Tryz.ntmps178
  go_wp2_with fail
  refine(small_v h zo).mono ?_;rintro e w1 ⟨A1,c1,l1,rfl,h1,b1⟩;have s1:=h1.small hn;go_wp2_with fail
  refine(small_v (h'.below b1) zo).mono ?_;rintro e w2 ⟨A2,c2,l2,rfl,h2,b2⟩;have s2:=h2.small hn';replace h1:=h1.below b2;replace b2:=zAb b1 b2;clear h h' hn hn' b1;go_wp2_with fail
  refine(cmp8_d h1 h2 zo zo z HZ).mono ?_;rintro e w3 ⟨rfl,k,rfl⟩;go_wp2_with fail
  go_ret
  exact⟨none,0,0,rfl,by rw[HE.out];exact nums_none _,zo,zAb b2 (zAj (Below.refl _ _) k)⟩
 ·have t1:decide (z<0)=false:=by
   rw[←hz];unfold cmpI;rw[fA zo];split<;>rfl
  have hle:n'≤n:=zo;clear hz hlt;go_enter Tryz.func178,Tryz.ntmps178
  go_wp2_with fail
  refine(small_v h zo).mono ?_;rintro e w1 ⟨A1,c1,l1,rfl,h1,b1⟩;have s1:=h1.small hn;go_wp2_with fail
  refine(small_v (h'.below b1) zo).mono ?_;rintro e w2 ⟨A2,c2,l2,rfl,h2,b2⟩;have s2:=h2.small hn';replace h1:=h1.below b2;replace b2:=zAb b1 b2;have hlt:n-n'<B ^ l:=zo;clear h h' hn hn' b1;go_wp2_with fail
  refine(cmp8_d h1 h2 zo zo z HZ).mono ?_;rintro e w3 ⟨rfl,k,rfl⟩;have b3:=zAj (Below.refl w2.heap.size w2) k;go_wp2_with fail
  refine(sub8_d (h1.below b3) (h2.below b3) zo zo hle).mono ?_;rintro e w4 ⟨A4,c4,l4,rfl,h4,b4⟩;have s4:=h4.small hlt;go_wp2_with fail
  refine(large_d h4 zo).mono ?_;rintro e w5 ⟨A5,c5,l5,rfl,h5,m5,b5⟩;go_wp2_with fail
  go_ret
  exact⟨A5,c5,l5,rfl,h5,zo,zAb (zAb b2 b3) (zAb b4 b5)⟩
end Go.Proofs.YteggjbgbknkoiaaGreatDoor
namespace Te
def TwI (xs ds:List Nat) (t i b:Nat):Prop:=Ok ds∧ds.length=i∧b≤1∧val ds+256 ^ i*b=2*val (xs.take i)+t
theorem TwI.start (xs:List Nat) {t:Nat} (h:t≤1):TwI xs [] t 0 t:=⟨Ok.nil,rfl,h,by simp[val]⟩
theorem TwI.step {xs ds:List Nat} {t i b s:Nat} (h:TwI xs ds t i b) (hx:Ok xs) (hs:s=2*Tw.dg xs i+b):TwI xs (ds++[s % 256]) t (i+1) (s / 256):=by
 obtain⟨h1,h2,h3,h4⟩:=h;have d1:Tw.dg xs i<256:=dg_lt hx i;refine⟨h1.append (Ok.cons (by rw[B_eq];omega) Ok.nil),by simp[h2],zo,?_⟩;have e1:val (xs.take (i+1))=val (xs.take i)+B ^ i*Tw.dg xs i:=val_take_succ' xs i;rw[e1,val_snoc,h2,B_eq];have e3:256 ^ (i+1)*(s / 256)=256 ^ i*(256*(s / 256)):=by rw[dB,wA]
 have e4:256 ^ i*(s % 256)+256 ^ i*(256*(s / 256))=256 ^ i*s:=by rw[←jA,nF]
 have e5:256 ^ i*s=2*(256 ^ i*Tw.dg xs i)+256 ^ i*b:=by rw[hs,jA,kD]
 omega
theorem TwI.done {xs ds:List Nat} {t i b:Nat} (h:TwI xs ds t i b) (hi:xs.length≤i):Ok (ds++[b])∧val (ds++[b])=2*val xs+t:=by
 obtain⟨h1,h2,h3,h4⟩:=h;refine⟨h1.append (Ok.cons (by rw[B_eq];omega) Ok.nil),?_⟩;rw[val_snoc,h2,B_eq,h4,eA hi]
theorem limbs_shift {n:Nat} (h:n≠0):limbs (n*256)=0 :: limbs n:=by
 have e:limbs (n*256)=(n*256) % B :: limbs (n*256 / B):=limbs_pos zo;rw[e,B_eq,Nat.mul_mod_left,Nat.mul_div_cancel _ zo]
end Te
namespace Go.Proofs.YteggjbgbknkoiaaGreatDoor
open Go.RowKit Tw
theorem twice_n {w:World} {A:Option Addr} {c l n:Nat} (h:D w A c l n) (hl:l≤1600000) (t:Nat) (ht:t≤1) :
  Calls Tryz.prog 200 #[.slice A l c,.int .i64 (t:Int)] w (TellsN w (2*n+t)):=by
 obtain⟨i0,hi,hz0,hz1,hz2⟩:=info_parts infoInt;obtain⟨xs,hxs⟩:∃xs,xs=Te.limbs n:=⟨_,rfl⟩;have HX:Hid (Sm w A c xs∧xs.length=l):=by rw[hxs];exact h
 have HE:Hid (Te.val xs=n):=by show _=_;rw[hxs,Te.val_limbs]
 clear h hxs;go_enter Tryz.func200,Tryz.ntmps200
 go_wp2_with fail
 go_loopw [1,5,6] (fun b v i wr=>∃(k u:Nat) (ds:List Nat),k≤l∧i=.int .i64 k∧b=.int .i64 u∧OwnS wr w.heap.size v ds∧Te.TwI xs ds t k u∧Below w.heap.size w wr) (fun _ _ i _=>l-(intOf i).toNat)
 case atStart=>exact⟨0,t,[],zo,rfl,rfl,World.ownsRow_nil _ _ _ _,Te.TwI.start xs ht,Below.refl _ _⟩
 case round =>
  obtain⟨k,u,ds,hk,rfl,rfl,hown,hti,hb⟩:=hrel;have hlen:ds.length≤1800000:=zi hti.2.1;have hz:=hb.size;have hu:u≤1:=hti.2.2.1;by_cases hx:k<l
  ·have d1:dg xs k<256:=Te.dg_lt HX.out.1.ok k;have HS:=zh (fun s hs=>hti.step (s:=s) HX.out.1.ok hs);obtain⟨ba,oa,rfl,ca⟩:=(HX.out.1.below hb).cells (by rw[HX.out.2];omega);replace ca:=ca k (by rw[HX.out.2];omega);clear hti;go_wp2_with (at_builtin;refine wpList_append_own _ rfl _ _ 40 rfl w.heap.size 3 i0 (.int .i64 0) 1 8 Tryz.underlying40 hi hz0 hz1 hz2 rfl zd _ _ _ rfl (hown.alloc _) ⟨_,0,none⟩ 1 1 [.int .i64 ((2*((dg xs k:Nat):Int)+(u:Int)) % 256)] rfl rfl (one_news _ _ _) (one_int _ _) (len_bd hlen) (byte_bd hlen) (base_bd hz _) ?_;intro v' w1 hown' hgrow _)
   have hb1:=own_grow hb hz hown hgrow;have ho1:=own_snoc ((2*dg xs k+u) % 256) hown' zo;clear hown hown' hgrow hb;go_wp2_with fail
   go_roundw
   case rel=>exact⟨k+1,(2*dg xs k+u) / 256,_,zo,by go_num,by go_num,ho1,HS.out _ rfl,hb1⟩
   case measure=>simp[intOf];omega
  ·obtain rfl:k=l:=zo;obtain⟨f1,f2⟩:=hti.done (by rw[HX.out.2];omega);have HV:Hid (Te.val (ds++[u])=2*n+t):=by show _=_;rw[f2,HE.out]
   have HO:=zh f1;clear hti f1 f2;go_wp2_with (at_builtin;refine wpList_append_own _ rfl _ _ 40 rfl w.heap.size 3 i0 (.int .i64 0) 1 8 Tryz.underlying40 hi hz0 hz1 hz2 rfl zd _ _ _ rfl (hown.alloc _) ⟨_,0,none⟩ 1 1 [.int .i64 ((u:Int))] rfl rfl (one_news _ _ _) (one_int _ _) (len_bd hlen) (byte_bd hlen) (base_bd hz _) ?_;intro v' w1 hown' hgrow _)
   have hb1:=own_grow hb hz hown hgrow;have ho1:=own_snoc u hown' rfl;obtain⟨A3,c3,e3,hsm⟩:=ho1.sm HO.out;subst e3;have hlk:(ds++[u]).length≤16000000:=by simp;omega
   have HW:=zh ho1.new;clear hown hown' hgrow hb ho1;go_wp2_with fail
   refine(trim8_any A3 c3 (ds++[u]) _ hsm hlk).mono ?_;rintro e _ ⟨rfl,rfl⟩;go_wp2_with fail
   go_ret
   have h1:=hsm.front (Te.nl (Te.val (ds++[u])));rw[Te.limbs_take hsm.ok,HV.out] at h1;exact⟨A3,c3,Te.nl (2*n+t),ret_sl (by rw[HV.out]),⟨h1,rfl⟩,hb1,HW.out⟩
theorem twice_d {w:World} {A:Option Addr} {c l n:Nat} (h:D w A c l n) (hl:l≤1600000) (t:Nat) (ht:t≤1) :
  Calls Tryz.prog 200 #[.slice A l c,.int .i64 (t:Int)] w (TellsD w (2*n+t)):=(twice_n h hl t ht).mono fun _ _ h=>h.d
theorem lit0_own {B:Nat} (w:World) (hB:B≤w.heap.size):(w.alloc (.cells #[.int .i64 0] 3)).ownsRow B 3 1 (.slice (some ⟨w.heap.size,0,none⟩) 1 1) 1 [.int .i64 0] :=
 ⟨rfl,.inr ⟨w.heap.size,1,#[.int .i64 0],rfl,hB,heap_alloc_new _ _,cA _,by unfold maxLen;omega,rfl,rfl⟩⟩
theorem sm_news {w:World} {b off c:Nat} {xs:List Nat} (h:Sm w (some ⟨b,off,none⟩) c xs):∀j u,(xs.map fun(d:Nat)=>Value.int .i64 (d:Int))[j]?=some u→w.cell? ((⟨b,off,none⟩:Addr).add j)=some u:=fun j u hu=>by
 have hj:j<xs.length:=by
  rcases kB j xs.length with h1 | h1
  ·exact h1
  ·rw[bB (by simpa using h1)] at hu;cases hu
 obtain⟨b',off',e,hc⟩:=h.cells zo;cases e;rw[rA,dg_get hj] at hu;have e2:(⟨b,off,none⟩:Addr).add j=⟨b,off+j,none⟩:=by
  unfold Addr.add
  split<;>simp_all
 rw[e2,hc j hj];exact hu
theorem ints_one (xs:List Nat):∀u∈(xs.map fun(d:Nat)=>Value.int .i64 (d:Int)),u.oneCell'=true:=fun u h=>by
 obtain⟨d,_,rfl⟩:=tC.1 h;rfl
theorem D.lt {w:World} {A:Option Addr} {c l n k:Nat} (h:D w A c l n) (hn:n<256 ^ k):l≤k:=by
 rw[←h.2];exact Te.nl_le_of_lt (by rw[Te.B_eq];exact hn)
theorem D.zero {w:World} {A:Option Addr} {c n:Nat} (h:D w A c 0 n):n=0:=Te.nl_eq_zero.1 h.2
theorem D.pos {w:World} {A:Option Addr} {c l n:Nat} (h:D w A c l n) (hl:0<l):n≠0:=by
 rintro rfl;have:=h.2;rw[Te.nl_zero] at this;omega
theorem pow_shift (a k:Nat) {l:Nat} (ha:a<B ^ l):a*256 ^ k<256 ^ (8*l+k):=by
 rw[wB];refine Nat.mul_lt_mul_of_pos_right ?_ (rE zo);rw[eE];exact ha
theorem shl_big {w:World} {A:Option Addr} {c l:Nat} {z:Int} (hz:1048576<z) :
  Calls Tryz.prog 199 #[.slice A l c,.int .i64 z] w (Tells w 0 0):=by
 go_enter Tryz.func199,Tryz.ntmps199
 go_wp2_with fail
 go_ret
 exact⟨none,0,0,rfl,nums_none _,cA _,Below.refl _ _⟩
theorem shl_small {w : World} {A : Option Addr} {c l a : Nat} {z : Int} (h : V w A c l a) (hl : l ≤ 100000) (hz : z ≤ 1048576) (hz' : -9223372036854775808 ≤ z) :
    Calls Tryz.prog 199 #[.slice A l c, .int .i64 z] w (Tells w (a * 2 ^ z.toNat) (l + 16386)) := by
  obtain ⟨i0, hi, hz0, hz1, hz2⟩ := info_parts infoInt;have hn := h.lt;go_enter Tryz.func199, Tryz.ntmps199
  go_wp2_with fail
  refine (small_v h zo).mono ?_;rintro e w0 ⟨A0, c0, l0, rfl, h0, b0⟩;have s0 := h0.small hn;have HN := zh hn;clear h hn;go_wp2_with fail
  go_loopw [1, 5] (fun m x wr => ∃ (k A1 c1 l1 : _), m = .int .i64 (z - 8 * (k : Nat)) ∧ (k = 0 ∨ 8 * (k : Int) ≤ z) ∧ x = .slice A1 l1 c1 ∧ D wr A1 c1 l1 (a * 256 ^ k) ∧ l1 ≤ 8 * l + k ∧ Below w0.heap.size w0 wr) (fun m _ _ => (intOf m).toNat)
  case atStart => exact ⟨0, A0, c0, l0, by simp, .inl rfl, rfl, by simpa using h0, by omega, Below.refl _ _⟩
  case round =>
    clear h0 s0;obtain ⟨k, A1, c1, l1, rfl, hk, rfl, h1, s1, b1⟩ := hrel;have hkb : k ≤ 131072 := by omega
    by_cases hgo : 8 ≤ z - 8 * (k : Int) ∧ 0 < l1
    · obtain ⟨hg1, hg2⟩ := hgo
      have hsz := b1.size;have hne := h1.pos hg2;obtain ⟨b, off, rfl, hcell⟩ := h1.1.cells (by show 0 < Te.nl _; rw [h1.2]; exact hg2);clear hcell;have hsm := h1.1.below (zAi wr (.cells #[.int .i64 0] 3));have HL : Hid ((Te.limbs (a * 256 ^ k)).length = l1) := h1.2;have q3 : 1 + l1 ≤ maxLen := by unfold maxLen; omega
      have q4 : (1 + l1) * 8 ≤ 140737488355328 := by omega
      have q5 : ((Te.limbs (a * 256 ^ k)).map fun (d : Nat) => Value.int .i64 (d : Int)).length = l1 * 1 := by rw [cB, HL.out]; omega
      have Q5 := zh q5;have HD := zh (sm_news hsm);have HB := zh b1;clear q5 hsm h1 b1;go_wp2_with (at_builtin; refine wpList_append_own _ rfl _ _ 40 rfl w0.heap.size 3 i0 (.int .i64 0) 1 8 Tryz.underlying40 hi hz0 hz1 hz2 rfl zd _ _ _ rfl (lit0_own wr hsz) ⟨b, off, none⟩ l1 c1 _ rfl Q5.out HD.out (ints_one _) q3 q4 (base_bd hsz _) ?_; intro v' w1 hown' hgrow _)
      have hb1 : Below w0.heap.size w0 w1 := (HB.out.alloc hsz _).grown hgrow (by simp; omega) (fun j hj => by cases hj; exact hsz);have ho1 : OwnS w1 w0.heap.size v' (Te.limbs (a * 256 ^ (k + 1))) := by
        rw [dB, ← wA, Te.limbs_shift hne];unfold OwnS
        rw [qC, HL.out, Nat.add_comm];simpa using hown'
      obtain ⟨A2, c2, e2, hsm2⟩ := ho1.sm (Te.ok_limbs _);subst e2;have hd2 : D w1 A2 c2 (Te.limbs (a * 256 ^ (k + 1))).length (a * 256 ^ (k + 1)) := ⟨hsm2, rfl⟩;have s2 := hd2.lt (pow_shift a (k + 1) HN.out);have HD2 := zh hd2;clear hown' hgrow ho1 HD HB hsm2 hd2;go_wp2_with fail
      go_roundw
      case rel => exact ⟨k + 1, A2, c2, _, by rw [show z - 8 * ((k + 1 : Nat) : Int) = z - 8 * (k : Int) - 8 from by omega], .inr zo, rfl, HD2.out, by omega, hb1⟩
      case measure => simp [intOf]; omega
    · have HD := zh h1
      have HB := zh b1;obtain ⟨y, hy⟩ : ∃ y, y = z - 8 * (k : Int) := ⟨_, rfl⟩;rw [← hy];have HYZ := zh hy;have hy1 : y < 8 ∨ l1 = 0 := by omega
      have hy2 : -9223372036854775808 ≤ y ∧ y ≤ 1048576 := by omega
      have hy3 : y < 8 ∨ l1 = 0 := hy1;clear h1 b1 hgo hy;obtain ⟨wo, rfl⟩ : ∃ wo : World, wo = wr := ⟨_, rfl⟩;have HZ1 : Hid (l1 = 0 → a = 0) := by
        show _ → _
        rintro rfl;have := HD.out.zero;rcases Nat.mul_eq_zero.1 this with h | h
        · exact h
        · exact absurd h (Nat.ne_of_gt (rE zo))
      have hsp : y < 8 ∨ (8 ≤ y ∧ l1 ≤ 0) := by omega
      clear hy1;rcases hsp with hsp | ⟨hsp, hsp'⟩
      all_goals
        go_wp2_with fail
        go_loopw [1, 5] (fun m x wr => ∃ (j A2 c2 l2 : _), m = .int .i64 (y - (j : Nat)) ∧ (j = 0 ∨ (j : Int) ≤ y) ∧ j ≤ 7 ∧ x = .slice A2 l2 c2 ∧ D wr A2 c2 l2 (a * 256 ^ k * 2 ^ j) ∧ Below w0.heap.size w0 wr) (fun m _ _ => (intOf m).toNat)
        case atStart => exact ⟨0, A1, c1, l1, by simp, .inl rfl, by omega, rfl, by simpa using HD.out, HB.out⟩
        case round =>
          clear HD HB;obtain ⟨j, A2, c2, l2, rfl, hj, hj7, rfl, h2, b2⟩ := hrel;have s2 : l2 ≤ 8 * l + (k + 1) := by
            refine h2.lt (pB ?_ (pow_shift a (k + 1) HN.out));rw [dB, ← wA];exact qB _ (kA (mC zo hj7) zd)
          by_cases hgo : 0 < y - (j : Int) ∧ 0 < l2
          · obtain ⟨hg1, hg2⟩ := hgo
            have hy8 : y < 8 := by
              rcases hy3 with hh | hh
              · exact hh
              · have := HZ1.out hh
                have hp := h2.pos hg2;rw [this] at hp;simp at hp
            first
            | (exfalso; omega)
            | (skip
               have s3 : l2 ≤ 1600000 := by omega
               have HD2 := zh h2;have HB2 := zh b2;clear h2 b2;go_wp2_with fail
               refine (twice_d HD2.out s3 0 zo).mono ?_;rintro e w3 ⟨A3, c3, l3, rfl, h3, b3⟩;have hd3 : D w3 A3 c3 l3 (a * 256 ^ k * 2 ^ (j + 1)) := by
                 rw [dB, ← wA, tA _ 2]; exact h3
               have HD3 := zh hd3;have HB3 := zh (zAb HB2.out b3);clear h3 b3 hd3 HD2 HB2;go_wp2_with fail
               go_roundw
               case rel => exact ⟨j + 1, A3, c3, l3, by rw [show y - ((j + 1 : Nat) : Int) = y - (j : Int) - 1 from by omega], .inr zo, by omega, rfl, HD3.out, HB3.out⟩
               case measure => simp [intOf]; omega)
          · have hfin : a * 256 ^ k * 2 ^ j = a * 2 ^ z.toNat := by
              rcases mB a with rfl | ha
              · simp
              · have hl2 : l2 ≠ 0 := by
                  rintro rfl;have := h2.zero;have h3 : 0 < a * 256 ^ k * 2 ^ j := Nat.mul_pos (Nat.mul_pos ha (rE zo)) (rE zo);omega
                have hl1 : l1 ≠ 0 := fun hh => by have := HZ1.out hh; omega
                have hyz := HYZ.out;have ez : z.toNat = 8 * k + j := by omega
                rw [ez, wB, eE, wA]
            rw [hfin] at h2;have HD2 := zh h2;have HB2 := zh b2;have s3 : l2 ≤ 1600000 := by omega
            clear h2 b2 hfin;have hsq : y - (j : Int) ≤ 0 ∨ (0 < y - (j : Int) ∧ l2 ≤ 0) := by omega
            clear hgo;rcases hsq with hsq | ⟨hsq, hsq'⟩
            all_goals
              first
              | (exfalso; omega)
              | (skip
                 go_wp2_with fail
                 refine (large_d HD2.out s3).mono ?_;rintro e w3 ⟨A3, c3, l3, rfl, h3, m3, b3⟩;go_wp2_with fail
                 go_ret
                 exact ⟨A3, c3, l3, rfl, h3, by omega, zAb b0 (zAb HB2.out b3)⟩)
theorem shl_r {w:World} {A:Option Addr} {c l a:Nat} (z:Int) (h:V w A c l a) (hl:l≤100000) (hz':-9223372036854775808≤z) :
  Calls Tryz.prog 199 #[.slice A l c,.int .i64 z] w (Tells w (shlv a z) (l+16386)):=by
 unfold shlv
 by_cases hz:1048576<z
 ·rw[gA hz];exact(shl_big hz).mono fun e w' ⟨A1,c1,l1,he,hc,hm,hb⟩=>⟨A1,c1,l1,he,hc,zo,hb⟩
 ·rw[fA hz];exact shl_small h hl zo hz'
end Go.Proofs.YteggjbgbknkoiaaGreatDoor
namespace Te
theorem shr_digit (u t r:Nat) (hr:r<8):(u+65536*t) / 2 ^ r % 256=u / 2 ^ r % 256:=by
 obtain rfl | rfl | rfl | rfl | rfl | rfl | rfl | rfl:r=0∨r=1∨r=2∨r=3∨r=4∨r=5∨r=6∨r=7:=zo;all_goals omega
theorem div_pow_digit (xs:List Nat) (hx:Ok xs) (i:Nat):∃t,val xs / 256 ^ i=Tw.dg xs i+256*Tw.dg xs (i+1)+65536*t:=by
 have h0:val xs / 256 ^ i=val (xs.drop i):=by
  have h1:=val_split xs i;have h2:=val_take_lt hx i;rw[B_eq] at h1 h2;rw[h1,yD _ _ (rE zo),aD h2,xB]
 rw[h0];have h3:=val_split (xs.drop i) 2;have e1:val ((xs.drop i).take 2)=Tw.dg xs i+256*Tw.dg xs (i+1):=by
  rw[val_take_succ',val_take_succ'];have a1:(xs.drop i).getD 0 0=Tw.dg xs i:=dg_drop xs i 0;have a2:(xs.drop i).getD 1 0=Tw.dg xs (i+1):=dg_drop xs i 1;rw[a1,a2,B_eq];simp[val]
 refine⟨val ((xs.drop i).drop 2),?_⟩;rw[h3,e1,B_eq]
def ShI (v r:Nat) (ds:List Nat) (i:Nat):Prop:=Ok ds∧ds.length=i∧val ds=v / 2 ^ r % 256 ^ i
theorem ShI.start (v r:Nat):ShI v r [] 0:=⟨Ok.nil,rfl,by simp[val,Nat.mod_one]⟩
theorem ShI.step {xs:List Nat} {r i:Nat} {ds:List Nat} (h:ShI (val xs) r ds i) (hx:Ok xs) (hr:r<8):ShI (val xs) r (ds++[(Tw.dg xs i+256*Tw.dg xs (i+1)) / 2 ^ r % 256]) (i+1):=by
 obtain⟨h1,h2,h3⟩:=h;refine⟨h1.append (Ok.cons (by rw[B_eq];omega) Ok.nil),by simp[h2],?_⟩;obtain⟨t,ht⟩:=div_pow_digit xs hx i;rw[val_snoc,h3,h2,B_eq,Nat.mod_pow_succ,bF,tA (2 ^ r),←bF,ht,shr_digit _ _ _ hr]
theorem ShI.done {xs ds:List Nat} {r i:Nat} (h:ShI (val xs) r ds i) (hx:Ok xs) (hi:i=xs.length):val ds=val xs / 2 ^ r:=by
 rw[h.2.2,jD];have:=val_lt hx;rw[B_eq,←hi] at this;exact pB (mE _ _) this
end Te
namespace Go.Proofs.YteggjbgbknkoiaaGreatDoor
open Go.RowKit Tw
theorem tmod_nat (u r:Nat) (z:Int) (h:z=(u:Int)):(z / 2 ^ r).tmod 256=((u / 2 ^ r % 256:Nat):Int):=by
 subst h;have:((u:Int) / 2 ^ r)=((u / 2 ^ r:Nat):Int):=by simp
 rw[this];rfl
theorem Sm.drop {w:World} {b off c:Nat} {xs:List Nat} (h:Sm w (some ⟨b,off,none⟩) c xs) (q:Nat) (hq:q<xs.length):Sm w (some ⟨b,off+q,none⟩) (c-q) (xs.drop q):=by
 refine⟨h.ok.drop q,by rw[mG];have:=h.le;omega,(fun e=>by cases e),fun _=>?_⟩;obtain⟨b',off',e,hc⟩:=h.cells zo;cases e;refine⟨b,off+q,rfl,fun k hk=>?_⟩;rw[mG] at hk;have:=hc (q+k) zo;rw[qE,this];congr 3
 exact(Te.dg_drop xs q k).symm
theorem shr_r {w:World} {A:Option Addr} {c l a:Nat} (z:Int) (h:V w A c l a) (hl:l≤100000) (hz':-9223372036854775808≤z) (hz2:z≤9223372036854775807) :
  Calls Tryz.prog 198 #[.slice A l c,.int .i64 z] w (Tells w (a / 2 ^ z.toNat) (l+1)):=by
 obtain⟨i0,hi,hz0,hz1,hz2'⟩:=info_parts infoInt;have hn:=h.lt;go_enter Tryz.func198,Tryz.ntmps198
 go_wp2_with fail
 refine(small_v h zo).mono ?_;rintro e w0 ⟨A0,c0,l0,rfl,h0,b0⟩;have s0:=h0.small hn;have HN:=zh hn;clear h hn;have ha:a<256 ^ l0:=by have:=Te.lt_pow_nl a;rw[h0.2,Te.B_eq] at this;exact this
 by_cases g1:8*(l0:Int)≤z
 ·have HE:Hid (a / 2 ^ z.toNat=0):=by
   show _=_
   apply aD
   refine eB ha ?_;rw[show(256:Nat)=2 ^ 8 from rfl,←eE];exact mC zo zo
  clear ha;go_wp2_with fail
  go_ret
  exact⟨none,0,0,rfl,by rw[HE.out];exact nums_none _,zo,b0⟩
 ·have HA:=zh ha;clear ha;by_cases g2:z<1
  ·have HE:Hid (z.toNat=0):=zh zo;go_wp2_with fail
   refine(large_d h0 zo).mono ?_;rintro e w1 ⟨A1,c1,l1,rfl,h1,m1,b1⟩;go_wp2_with fail
   go_ret
   exact⟨A1,c1,l1,rfl,by rw[HE.out,Nat.pow_zero,Nat.div_one];exact h1,zo,zAb b0 b1⟩
  ·obtain⟨m,rfl⟩:∃m:Nat,z=(m:Int):=⟨z.toNat,zo⟩;obtain⟨q,hq⟩:∃q,m / 8=q:=⟨_,rfl⟩;obtain⟨r,hr⟩:∃r,m % 8=r:=⟨_,rfl⟩;have hql:q<l0:=zo;have hr8:r<8:=zo;have hmm:m=8*q+r:=zo;have HM:=zh hmm;have hqi:((m:Int) / 8)=(q:Int):=zo;have hri:((m:Int) % 8)=(r:Int):=zo;obtain⟨b,off,rfl,hcell⟩:=h0.1.cells (by show 0<Te.nl _;rw[h0.2];omega);clear hcell;have hle0:l0≤c0:=by have:=h0.1.le;rw[←h0.2];exact this
   have hsd:=h0.1.drop q (by show q<Te.nl _;rw[h0.2];exact hql);have hln:((Te.limbs a).drop q).length=l0-q:=by rw[mG];congr 1;exact h0.2
   have hvl:Te.val ((Te.limbs a).drop q)=a / 256 ^ q:=by
    have h1:=Te.val_split (Te.limbs a) q;have h2:=Te.val_take_lt (Te.ok_limbs a) q;rw[Te.val_limbs,Te.B_eq] at h1;rw[Te.B_eq] at h2;have:(a:Nat) / 256 ^ q=(Te.val ((Te.limbs a).take q)+256 ^ q*Te.val ((Te.limbs a).drop q)) / 256 ^ q:=by rw[←h1]
    rw[this,yD _ _ (rE zo),aD h2,xB]
   obtain⟨xs,hxs⟩:∃xs,xs=(Te.limbs a).drop q:=⟨_,rfl⟩;rw[←hxs] at hsd hln hvl;have HX:Hid (Sm w0 (some ⟨b,off+q,none⟩) (c0-q) xs∧xs.length=l0-q):=⟨hsd,hln⟩;have HVL:=zh hvl;have i1:(0:Int)≤q:=zo;have i2:(q:Int)≤l0:=zo;clear hq hr hmm hsd hln hvl hxs h0;have hlx:l0-q≤800000:=zo;go_wp2_with fail
   clear hqi;generalize c0-q=cx at *
   generalize hgx:l0-q=lx at *
   have hlx2:lx≤l0:=zo;clear hgx;go_loopw [6,7] (fun v i wr=>∃(k:Nat) (ds:List Nat),k≤lx∧i=.int .i64 k∧OwnS wr w0.heap.size v ds∧Te.ShI (Te.val xs) r ds k∧Below w0.heap.size w0 wr) (fun _ i _=>lx-(intOf i).toNat)
   case atStart=>exact⟨0,[],zo,rfl,World.ownsRow_nil _ _ _ _,Te.ShI.start _ _,Below.refl _ _⟩
   case round =>
    obtain⟨k,ds,hk,rfl,hown,hsi,hb⟩:=hrel;by_cases hx:k<lx
    ·have hlen:ds.length≤1800000:=zi hsi.2.1;have hz:=hb.size;have d1:dg xs k<256:=Te.dg_lt HX.out.1.ok k;have d2:dg xs (k+1)<256:=Te.dg_lt HX.out.1.ok (k+1);have HS:=zh (hsi.step HX.out.1.ok hr8);obtain⟨ba,oa,ea,ca⟩:=(HX.out.1.below hb).cells (by rw[HX.out.2];omega);cases ea;have c1:=ca k (by rw[HX.out.2];omega);clear hsi;by_cases hx2:k+1<lx
     ·have c2:=ca (k+1) (by rw[HX.out.2];omega);clear ca;go_wp2_with (at_builtin;refine wpList_append_own _ rfl _ _ 40 rfl w0.heap.size 3 i0 (.int .i64 0) 1 8 Tryz.underlying40 hi hz0 hz1 hz2' rfl zd _ _ _ rfl (hown.alloc _) ⟨_,0,none⟩ 1 1 [.int .i64 (((((dg xs k:Nat):Int)+256*((dg xs (k+1):Nat):Int)) / 2 ^ r).tmod 256)] rfl rfl (one_news _ _ _) (one_int _ _) (len_bd hlen) (byte_bd hlen) (base_bd hz _) ?_;intro v' w1 hown' hgrow _)
      have hb1:=own_grow hb hz hown hgrow;have ho1:=own_snoc ((dg xs k+256*dg xs (k+1)) / 2 ^ r % 256) hown' (tmod_nat (dg xs k+256*dg xs (k+1)) r _ zo);clear hown hown' hgrow hb;go_wp2_with fail
      go_roundw
      case rel=>exact⟨k+1,_,zo,by go_num,ho1,HS.out,hb1⟩
      case measure=>simp[intOf];omega
     ·have HZ:Hid (dg xs (k+1)=0):=zh (Tw.dg_past (by rw[HX.out.2];omega));clear ca;go_wp2_with (at_builtin;refine wpList_append_own _ rfl _ _ 40 rfl w0.heap.size 3 i0 (.int .i64 0) 1 8 Tryz.underlying40 hi hz0 hz1 hz2' rfl zd _ _ _ rfl (hown.alloc _) ⟨_,0,none⟩ 1 1 [.int .i64 ((((dg xs k:Nat):Int) / 2 ^ r).tmod 256)] rfl rfl (one_news _ _ _) (one_int _ _) (len_bd hlen) (byte_bd hlen) (base_bd hz _) ?_;intro v' w1 hown' hgrow _)
      have hb1:=own_grow hb hz hown hgrow;have ho1:=own_snoc ((dg xs k+256*dg xs (k+1)) / 2 ^ r % 256) hown' (by rw[HZ.out];exact tmod_nat (dg xs k) r _ rfl);clear hown hown' hgrow hb;go_wp2_with fail
      go_roundw
      case rel=>exact⟨k+1,_,zo,by go_num,ho1,HS.out,hb1⟩
      case measure=>simp[intOf];omega
    ·obtain rfl:k=lx:=zo;have hval:Te.val ds=a / 2 ^ (m:Int).toNat:=by
      rw[hsi.done HX.out.1.ok HX.out.2.symm,HVL.out,bF,show(256:Nat)=2 ^ 8 from rfl,←eE,←wB,←HM.out];rfl
     obtain⟨A3,c3,rfl,hsm⟩:=hown.sm hsi.1;have HV:=zh hval;have hlk:ds.length=k:=hsi.2.1;have HLK:=zh hlk;clear hown hsi hval hlk;go_wp2_with fail
     refine(large_s hsm rfl HV.out (zi HLK.out)).mono ?_;rintro e w4 ⟨A4,c4,l4,rfl,h4,m4,b4⟩;go_wp2_with fail
     go_ret
     refine⟨A4,c4,l4,rfl,h4,?_,zAb b0 (zAb hb b4)⟩;have:=HLK.out;omega
theorem nb_lt (v:Nat):v<2 ^ nbits v:=by
 unfold nbits
 split
 ·subst_vars;decide
 ·exact Nat.lt_log2_self
theorem nb_ge {v:Nat} (h:v≠0):2 ^ (nbits v-1)≤v:=by
 unfold nbits
 rw[fA h,bE];exact Nat.log2_self_le h
theorem nb_half {d:Nat} (h:d≠0):nbits d=nbits (d / 2)+1:=by
 have h1:=nb_lt (d / 2);by_cases h2:d / 2=0
 ·have:d=1:=zo;subst this;rfl
 ·have h3:=nb_ge h2;have h4:nbits (d / 2)≠0:=by unfold nbits;rw[fA h2];omega
  refine(nbits_of h ?_ ?_).symm
  ·have e:2 ^ nbits (d / 2)=2 ^ (nbits (d / 2)-1)*2:=by rw[←dB];congr 1;omega
   omega
  ·rw[dB];omega
theorem nb_top {a l:Nat} (h:a≠0) (hl:Te.nl a=l):nbits a=8*(l-1)+nbits (dg (Te.limbs a) (l-1)):=by
 have hl0:l≠0:=by rintro rfl;exact h (Te.nl_eq_zero.1 hl)
 have ht:dg (Te.limbs a) (l-1)≠0:=by rw[←hl];exact Te.top_ne h
 obtain⟨t,et⟩:∃t,dg (Te.limbs a) (l-1)=t:=⟨_,rfl⟩;rw[et] at ht ⊢;have h1:a=Te.val ((Te.limbs a).take (l-1))+256 ^ (l-1)*t:=by
  have h2:=Te.val_take_succ' (Te.limbs a) (l-1);have e:(Te.limbs a).getD (l-1) 0=t:=et;rw[show l-1+1=l from by omega,eA (by show Te.nl a≤l;omega),Te.val_limbs,e,Te.B_eq] at h2;exact h2
 have h2:=Te.val_take_lt (Te.ok_limbs a) (l-1);rw[Te.B_eq] at h2;have h3:=nb_lt t;have h4:=nb_ge ht;have h5:nbits t≠0:=by unfold nbits;rw[fA ht];omega
 have e1:2 ^ (8*(l-1)+(nbits t-1))=256 ^ (l-1)*2 ^ (nbits t-1):=by rw[wB,eE]
 have e2:2 ^ (8*(l-1)+(nbits t-1)+1)=256 ^ (l-1)*2 ^ nbits t:=by rw[show 8*(l-1)+(nbits t-1)+1=8*(l-1)+nbits t from by omega,wB,eE]
 have h6:256 ^ (l-1)*2 ^ (nbits t-1)≤256 ^ (l-1)*t:=qB _ h4;have h7:256 ^ (l-1)*(t+1)≤256 ^ (l-1)*2 ^ nbits t:=qB _ h3;rw[jA,wC] at h7;have:=nbits_of (v:=a) (m:=8*(l-1)+(nbits t-1)) h (by rw[e1];omega) (by rw[e2];omega);omega
theorem bits_r {w:World} {A:Option Addr} {c l a:Nat} (h:V w A c l a) (hl:l≤100000) (z:Int) (hz:(nbits a:Int)=z) :
  Calls Tryz.prog 121 #[.slice A l c] w fun e w'=>e=.returned (.int .i64 z)∧Below w.heap.size w w':=by
 have hn:=h.lt;have HZ:=zh hz;clear hz;go_enter Tryz.func121,Tryz.ntmps121
 go_wp2_with fail
 refine(small_v h zo).mono ?_;rintro e w0 ⟨A0,c0,l0,rfl,h0,b0⟩;have s0:=h0.small hn;clear h hn;rcases mB l0 with rfl | hp
 ·have ha:=h0.zero;have hz':0=z:=by rw[←HZ.out,ha];rfl
  clear HZ;subst hz';go_wp2_with fail
  go_ret
  exact⟨rfl,b0⟩
 ·have t1:((l0:Int)==0)=false:=by simp;omega
  have HT:=zh (nb_top (h0.pos hp) h0.2);have ht:dg (Te.limbs a) (l0-1)<256:=Te.dg_lt (Te.ok_limbs a) _;obtain⟨b,off,rfl,hcell⟩:=h0.1.cells (by show 0<Te.nl _;rw[h0.2];exact hp);have c1:=hcell (l0-1) (by show l0-1<Te.nl _;rw[h0.2];omega);obtain⟨j,rfl⟩:∃j,l0=j+1:=⟨l0-1,zo⟩;rw[bE] at c1 ht HT;obtain⟨t,et⟩:∃t,dg (Te.limbs a) j=t:=⟨_,rfl⟩;rw[et] at c1 ht HT;clear hcell et h0;go_wp2_with fail
  go_loop [4,5] (fun m d=>∃k y:Nat,m=.int .i64 (8*(j:Int)+(k:Int))∧d=.int .i64 (y:Int)∧k+nbits y=nbits t∧y≤t∧k≤8) (fun _ d=>(intOf d).toNat)
  case atStart=>exact⟨0,t,by simp,rfl,zo,cA _,zo⟩
  case round =>
   obtain⟨k,y,rfl,rfl,hk,hy,hk8⟩:=hrel;rcases mB y with rfl | hyp
   ·have hfin:8*(j:Int)+(k:Int)=z:=by
     have h1:=HT.out;have h2:nbits 0=0:=rfl;rw[←HZ.out,h1];omega
    have HF:=zh hfin;clear hfin hk;go_wp2_with fail
    go_ret
    exact⟨ret_int HF.out,b0⟩
   ·have hk2:k+1+nbits (y / 2)=nbits t:=zi (nb_half (d:=y) zo);have hk9:k+1≤8:=by
     have h1:=nb_lt t;have h2:nbits t≤8:=by
      rcases kB 8 (nbits t) with h3 | h3
      ·have h4:=nb_ge (v:=t) zo;have h5:2 ^ 8≤2 ^ (nbits t-1):=mC zo zo;omega
      ·exact h3
     omega
    have HK:=zh hk2;clear hk hk2;go_wp2_with fail
    go_round
    case rel=>exact⟨k+1,y / 2,by go_num,by go_num,HK.out,zo,hk9⟩
    case measure=>simp[intOf];omega
end Go.Proofs.YteggjbgbknkoiaaGreatDoor
