import Derived.Test.YtiondclbdgijbaaGreatDoorYSh10
set_option maxHeartbeats 32000000
set_option maxRecDepth 100000
namespace Go.Proofs.YtiondclbdgijbaaGreatDoor
open Go.RowKit Tw
def Few2 (x:Fr):Prop:=x.l≤2∧x.l'≤2
def RwF (v:Vc):Prop:=v.n≤20∧∀t∈v.L,Few2 t.x
structure GLy (y:Ly):Prop where
 len:y.rn≤12∧y.bn≤12∧y.kn≤40∧y.gn≤12
 ints:y.ch≤4∧y.high≤6∧y.wide≤6∧y.out≤4∧y.kh≤6∧y.kw≤6∧y.pad≤3
 bias:∀x∈y.bias,Few2 x
 kern:∀x∈y.kern,Few2 x
 rows:∀v∈y.rows,RwF v
 grps:∀v∈y.groups,v.n≤20
def GNet (inp:Int) (n:Nat) (L:List Ly):Prop:=n≤8∧inp≤8∧(∀y∈L,GLy y)∧∀l,sizesF inp L=.ok l→l.sum≤60
def OutGr (w:World) (inp:Int) (n:Nat) (L:List Ly) (e:Ending) (w':World):Prop:=∃r,e=.returned (.bool r)∧(r=false→GNet inp n L)∧Below w.heap.size w w'
theorem FrIn.few {w:World} {x:Fr} (h:FrIn w x) (k:Few2 x):FrOk w 2 x:=h.2.2 2 k.1 k.2
theorem LyIn.few {w:World} {y:Ly} (h:LyIn w y) (k:GLy y):LyOk w 2 y:=by
 have l:=k.len;exact⟨h.rows,fun v hv=>⟨(h.rok v hv).2.1,fun t ht=>((h.rok v hv).2.2.1 t ht).1.few ((k.rows v hv).2 t ht),by have:=(k.rows v hv).1;omega⟩,h.bias,fun x hx=>(h.bok x hx).few (k.bias x hx),h.kern,fun x hx=>(h.kok x hx).few (k.kern x hx),h.groups,fun v hv=>⟨(h.gok v hv).2.1,by have:=k.grps v hv;omega⟩,zo⟩
theorem sum_rng {l:List Int} (h:∀x∈l,1≤x∧x≤256) (k:Nat):0≤(l.take k).sum∧(l.take k).sum≤256*k:=by
 induction k with
 | zero=>simp
 | succ k ih =>
  rw[aF];cases e:l[k]? with
  | none=>simp;omega
  | some x =>
   have:=h x (eA e);simp;omega
def GR1 (w:World) (C:Array Value) (R:Nat→Prop) (n gk:Nat) (s:Value) (wr:World):Prop:=∃i:Nat,i≤n∧n-i≤gk∧s=.int .i64 (i:Int)∧Bx wr w.heap.size C 24∧(∀j,j<i→R j)∧Below w.heap.size w wr
def GR2 (w:World) (C:Array Value) (v4:Nat) (Y:Array Value) (R:Nat→Prop) (n gk:Nat) (s:Value) (wr:World):Prop:=∃i:Nat,i≤n∧n-i≤gk∧s=.int .i64 (i:Int)∧Bx wr w.heap.size C 24∧Bx wr v4 Y 55∧(∀j,j<i→R j)∧Below w.heap.size w wr
theorem all_lt {R:Nat→Prop} {i:Nat} (h:∀j,j<i→R j) (k:R i):∀j,j<i+1→R j:=fun j hj=>by
 rcases eB j i with h1 | h1
 ·exact h j h1
 ·obtain rfl:j=i:=zo;exact k
theorem all_mem {α:Type} {L:List α} {P:α→Prop} {n:Nat} (hn:L.length≤n) (h:∀j,j<n→∀x,L[j]?=some x→P x):∀x∈L,P x:=fun x hx=>by
 obtain⟨j,hj⟩:=nE hx;exact h j (zi (dC.1 hj).1) x hj
def GR3 (w:World) (l:List Int) (n gk:Nat) (s8 s10:Value) (wr:World):Prop:=∃i:Nat,i≤n∧n-i≤gk∧s8=.int .i64 (l.take i).sum∧s10=.int .i64 (i:Int)∧Below w.heap.size w wr
theorem great_q {w:World} {inp:Int} {A:Option Addr} {n c:Nat} {L:List Ly} (hs:Hid (Sl Ly.cs 13 w A n c L)) (hin:Hid (∀y∈L,LyIn w y)) (hn:n≤9223372036854775807) (hT:Hid (Tab w)) :
  Calls Tryz.prog 4 #[.agg #[.int .i64 inp,.slice A n c]] w (OutGr w inp n L):=by
 have HLN:=zh hs.out.1;obtain⟨W,hW,x0,hB⟩:=zAb w #[.int .i64 inp,.slice A n c] 24;have HX0:=zh x0;clear x0;have Bz:=zr W;obtain⟨pa0,pa1,-⟩:=(zx HX0 Bz).cz;go_enter Tryz.func4,Tryz.ntmps4
 go_upto_region 1 with(fail)
 rw[←hW];clear hW;go_wp2_with fail
 all_goals try (go_ret;exact⟨true,rfl,(fun h=>by cases h),bT (bT hB Bz)⟩)
 have hn8:n≤8:=zo;have hi8:inp≤8:=zo;have KX0:=zh (zx HX0 Bz);have KB:=zh (bT hB Bz);clear pa0 pa1 HX0 hB Bz;go_loopg [3] n (fun gk s wr=>GR1 w #[.int .i64 inp,.slice A n c] (fun j=>∀y,L[j]?=some y→GLy y) n gk s wr)
 case atStart=>exact⟨0,uA _,aA _,rfl,KX0.out.below (by go_grown),(fun j h=>absurd h (mF j)),bT KB.out⟩
 case round =>
  clear KX0 KB;obtain⟨i,hi,hgk,rfl,y0,hall,hB⟩:=hrel;have HGK:=zh hgk;have HALL:=zh hall;clear hgk hall;by_cases hlt:i<n
  ·obtain⟨b,off,he,hel⟩:=hs.out.at Ly.cs_len zo zo;obtain⟨y,hy⟩:∃y,L[i]?=some y:=⟨L[i]'(by rw[HLN.out];exact hlt),cA _⟩;have hnd:=hel i y hy;have HY:=zh (hin.out y (eA hy));have HYI:=zh hy;have i1:(i:Int)<(n:Int):=zo;have i2:(0:Int)≤(i:Int):=zo;have HE:=zh he;have hmx:=HY.out.lens;unfold maxLen at hmx
   have HX0:Hid (Bx wr w.heap.size #[.int .i64 inp,.slice (some ⟨b,off,none⟩) n c] 24):=zh (by rw[←he];exact y0);clear hel hy he y0;have Bz:=zr wr;have pa1:=(zx HX0 Bz).cell 1 (.slice (some ⟨b,off,none⟩) n c) rfl;obtain⟨pA0,pA1,pA2,pA3,pA4,pA5,pA6,pA7,pA8,pA9,pAa,pAb,pAc,-⟩:=(hnd.below (bT hB Bz)).ez;go_upto_region 7 with(fail)
   obtain⟨V11,hW,x1,hN⟩:=zY wr y;rw[←hW];clear hW;obtain⟨v1,hb1⟩:=ze wr.heap.size;rw[←hb1] at x1 ⊢;have o0_1:w.heap.size<v1:=zi (zx HX0 Bz).lt;have ow_1:w.heap.size≤v1:=zi (zw hB Bz);replace hB:=bT (bT hB Bz) hN;replace HX0:=zba HX0 Bz hN;have HX1:=zh x1;clear x1 hN Bz hb1;have Bz:=zr V11;clear pa1 pA0 pA1 pA2 pA3 pA4 pA5 pA6 pA7 pA8 pA9 pAa pAb pAc;go_upto_region 7 with(fail)
   obtain⟨pb0,pb1,pb2,pb3,pb4,pb5,pb6,pb7,pb8,pb9,pba,pbb,pbc,-⟩:=(zx HX1 Bz).cz;go_wp2_with fail
   all_goals try (go_ret;exact⟨true,rfl,(fun h=>by cases h),bT (bT hB Bz)⟩)
   have HGI:Hid ((y.rn≤12∧y.bn≤12∧y.kn≤40∧y.gn≤12)∧y.ch≤4∧y.high≤6∧y.wide≤6∧y.out≤4∧y.kh≤6∧y.kw≤6∧y.pad≤3):=zh zo;with_reducible refine(long20_q (HY.out.bias.below (bT hB (bT (b:=V11) Bz))) (zh fun x hx=>(HY.out.bok x hx).len) zo).mono ?_
   rintro e w11 ⟨r,rfl,hr,q⟩;replace q:=zq (a:=V11) q;replace Bz:=bT Bz q;clear q;clear pb0 pb1 pb2 pb3 pb4 pb5 pb6 pb7 pb8 pb9 pba pbb pbc;obtain⟨pb0,pb1,pb2,pb3,pb4,pb5,pb6,pb7,pb8,pb9,pba,pbb,pbc,-⟩:=(zx HX1 Bz).cz;cases r
   case true =>
    go_wp2_with fail
    go_ret
    exact⟨true,rfl,(fun h=>by cases h),bT (bT hB Bz)⟩
   have HBF:=zh (hr rfl).2;clear hr;go_wp2_with fail
   with_reducible refine(long20_q (HY.out.kern.below (bT hB (bT (b:=w11) Bz))) (zh fun x hx=>(HY.out.kok x hx).len) zo).mono ?_
   rintro e w12 ⟨r,rfl,hr,q⟩;replace q:=zq (a:=w11) q;replace Bz:=bT Bz q;clear q;clear pb0 pb1 pb2 pb3 pb4 pb5 pb6 pb7 pb8 pb9 pba pbb pbc;obtain⟨pb0,pb1,pb2,pb3,pb4,pb5,pb6,pb7,pb8,pb9,pba,pbb,pbc,-⟩:=(zx HX1 Bz).cz;cases r
   case true =>
    go_wp2_with fail
    go_ret
    exact⟨true,rfl,(fun h=>by cases h),bT (bT hB Bz)⟩
   have HKF:=zh (hr rfl).2;clear hr;go_wp2_with fail
   obtain⟨v4,hv4⟩:∃x,x=v1:=⟨_,rfl⟩;rw[←hv4] at HX1 ⊢;have KX0:Hid (Bx w12 w.heap.size #[.int .i64 inp,.slice A n c] 24):=zh (by rw[HE.out];exact zx HX0 Bz);have KX1:=zh (zx HX1 Bz);have KB:=zh (bT hB Bz);clear HX0 HX1 hB Bz hv4 hnd pb0 pb1 pb2 pb3 pb4 pb5 pb6 pb7 pb8 pb9 pba pbb pbc;rw[←HE.out];obtain⟨wo,hwo⟩:∃x:World,x=wr:=⟨_,rfl⟩;subst hwo;obtain⟨gk1,hgk1⟩:∃x:Nat,x=gk:=⟨_,rfl⟩;subst hgk1;go_loopg [5] y.rn (fun gk s wr=>GR2 w #[.int .i64 inp,.slice A n c] v4 #[.int .u8 y.kind,.slice y.rA y.rn y.rc,.slice y.bA y.bn y.bc,.int .i64 y.ch,.int .i64 y.high,.int .i64 y.wide,.int .i64 y.out,.int .i64 y.kh,.int .i64 y.kw,.int .i64 y.st,.int .i64 y.pad,.slice y.kA y.kn y.kc,.slice y.gA y.gn y.gc] (fun j=>∀v,y.rows[j]?=some v→RwF v) y.rn gk s wr)
   case atStart=>exact⟨0,uA _,aA _,rfl,KX0.out.below (by go_grown),KX1.out.below (by go_grown),(fun j h=>absurd h (mF j)),bT KB.out⟩
   case round =>
    clear KX0 KX1 KB;obtain⟨k,hk,hgk,rfl,y0,y1,hall,hB⟩:=hrel;have HGR:=zh hgk;have HRL:=zh hall;clear hgk hall;by_cases hlk:k<y.rn
    ·obtain⟨rb,ro,he,hel⟩:=HY.out.rows.at Vc.cs_len zo zo;obtain⟨v,hv⟩:∃v,y.rows[k]?=some v:=⟨y.rows[k]'(by rw[HY.out.rows.1];exact hlk),cA _⟩;have hnv:ElA w rb (ro+k) [.slice v.A v.n v.c]:=by have:=hel k v hv;rwa [kC] at this
     have HVC:=zh (HY.out.rok v (eA hv));have HVI:=zh hv;have hvm:=HVC.out.1;unfold maxLen at hvm
     have k1:(k:Int)<(y.rn:Int):=zo;have k2:(0:Int)≤(k:Int):=zo;have HRE:=zh he;have HYE:Hid ((#[.int .u8 y.kind,.slice y.rA y.rn y.rc,.slice y.bA y.bn y.bc,.int .i64 y.ch,.int .i64 y.high,.int .i64 y.wide,.int .i64 y.out,.int .i64 y.kh,.int .i64 y.kw,.int .i64 y.st,.int .i64 y.pad,.slice y.kA y.kn y.kc,.slice y.gA y.gn y.gc]:Array Value)=#[.int .u8 y.kind,.slice (some ⟨rb,ro,none⟩) y.rn y.rc,.slice y.bA y.bn y.bc,.int .i64 y.ch,.int .i64 y.high,.int .i64 y.wide,.int .i64 y.out,.int .i64 y.kh,.int .i64 y.kw,.int .i64 y.st,.int .i64 y.pad,.slice y.kA y.kn y.kc,.slice y.gA y.gn y.gc]):=zh (by rw[he]);have HX0:=zh y0;have HX1:Hid (Bx wr v4 #[.int .u8 y.kind,.slice (some ⟨rb,ro,none⟩) y.rn y.rc,.slice y.bA y.bn y.bc,.int .i64 y.ch,.int .i64 y.high,.int .i64 y.wide,.int .i64 y.out,.int .i64 y.kh,.int .i64 y.kw,.int .i64 y.st,.int .i64 y.pad,.slice y.kA y.kn y.kc,.slice y.gA y.gn y.gc] 55):=zh (by rw[←HYE.out];exact y1);clear hel hv he y0 y1;have Bz:=zr wr;have pb1:=(zx HX1 Bz).cell 1 (.slice (some ⟨rb,ro,none⟩) y.rn y.rc) rfl;have pA0:=(hnv.below (bT hB Bz)).c0 (u:=.slice v.A v.n v.c) rfl;go_wp2_with fail
     all_goals try (go_ret;exact⟨true,rfl,(fun h=>by cases h),bT (bT hB Bz)⟩)
     have hv20:v.n≤20:=zo;have KX0:=zh (zx HX0 Bz);have KX1:=zh (zx HX1 Bz);have KB:=zh (bT hB Bz);clear pb1 pA0 HX0 HX1 hB Bz;obtain⟨wp,hwp⟩:∃x:World,x=wr:=⟨_,rfl⟩;subst hwp;obtain⟨gk2,hgk2⟩:∃x:Nat,x=gk:=⟨_,rfl⟩;subst hgk2;go_loopg [6] v.n (fun gk s wr=>GR2 w #[.int .i64 inp,.slice A n c] v4 #[.int .u8 y.kind,.slice (some ⟨rb,ro,none⟩) y.rn y.rc,.slice y.bA y.bn y.bc,.int .i64 y.ch,.int .i64 y.high,.int .i64 y.wide,.int .i64 y.out,.int .i64 y.kh,.int .i64 y.kw,.int .i64 y.st,.int .i64 y.pad,.slice y.kA y.kn y.kc,.slice y.gA y.gn y.gc] (fun j=>∀t,v.L[j]?=some t→Few2 t.x) v.n gk s wr)
     case atStart=>exact⟨0,uA _,aA _,rfl,KX0.out.below (by go_grown),KX1.out.below (by go_grown),(fun j h=>absurd h (mF j)),bT KB.out⟩
     case round =>
      clear KX0 KX1 KB;obtain⟨m,hm,hgk,rfl,y0,y1,hall,hB⟩:=hrel;have HGM:=zh hgk;have HTL:=zh hall;have HX0:=zh y0;have HX1:=zh y1;clear hgk hall y0 y1;by_cases hlm:m<v.n
      ·obtain⟨vb,vo,he,hel⟩:=HVC.out.2.1.at Tm.cs_len zo zo;obtain⟨t,ht⟩:∃t,v.L[m]?=some t:=⟨v.L[m]'(by rw[HVC.out.2.1.1];exact hlm),cA _⟩;have hnt:=hel m t ht;have hxl:=(HVC.out.2.2.1 t (eA ht)).1.len;have HTI:=zh ht;have HVE:=zh he;obtain⟨r,hr⟩:∃r,longF 2 t.x=r:=⟨_,rfl⟩;have HLF:=zh hr;have HFW:Hid (r=false→∀u,v.L[m]?=some u→Few2 u.x):=zh (fun h u hu=>by
        rw[HTI.out] at hu;cases hu;have h2:=HLF.out;rw[h] at h2;unfold longF at h2
        rw[Bool.or_eq_false_iff,decide_eq_false_iff_not,decide_eq_false_iff_not] at h2;exact⟨zo,zo⟩)
       have m1:(m:Int)<(v.n:Int):=zo;have m2:(0:Int)≤(m:Int):=zo;rw[HVE.out] at hnv;clear hel ht he hr;have Bz:=zr wr;have pb1:=(zx HX1 Bz).cell 1 (.slice (some ⟨rb,ro,none⟩) y.rn y.rc) rfl;have pA0:=(hnv.below (bT hB Bz)).c0 (u:=.slice (some ⟨vb,vo,none⟩) v.n v.c) rfl;have pB0:=(hnt.below (bT hB Bz)).c0 (u:=.int .i64 t.at_) rfl;have pB1:=(hnt.below (bT hB Bz)).at 1 (.bool t.x.s) rfl;have pB2:=(hnt.below (bT hB Bz)).at 2 (.slice t.x.A t.x.l t.x.c) rfl;have pB3:=(hnt.below (bT hB Bz)).at 3 (.bool t.x.s') rfl;have pB4:=(hnt.below (bT hB Bz)).at 4 (.slice t.x.A' t.x.l' t.x.c') rfl;go_wp2_with fail
       with_reducible refine(longRat2_q t.x hxl r HLF).mono ?_
       rintro e w31 ⟨rfl,q⟩;replace q:=zq (a:=wr) q;replace Bz:=bT Bz q;clear q;cases r
       case true =>
        go_wp2_with fail
        go_ret
        exact⟨true,rfl,(fun h=>by cases h),bT (bT hB Bz)⟩
       have hfw:=HFW.out rfl;go_wp2_with fail
       go_roundg (v.n-(m+1))
       case measure=>have:=HGM.out;omega
       case rel=>exact⟨m+1,zo,zo,by go_num,HX0.out.below (bT Bz),HX1.out.below (bT Bz),all_lt HTL.out hfw,bT (bT hB Bz)⟩
      ·obtain rfl:m=v.n:=zo;have m1:¬(v.n:Int)<(v.n:Int):=zo;have HRR:Hid (∀u,y.rows[k]?=some u→RwF u):=zh (fun u hu=>by
        rw[HVI.out] at hu;cases hu;exact⟨hv20,all_mem (by rw[HVC.out.2.1.1];exact aA _) HTL.out⟩)
       have Bz:=zr wr;have pb1:=(zx HX1 Bz).cell 1 (.slice (some ⟨rb,ro,none⟩) y.rn y.rc) rfl;have pA0:=(hnv.below (bT hB Bz)).c0 (u:=.slice v.A v.n v.c) rfl;go_wp2_with fail
       rw[←HRE.out];go_roundg (y.rn-(k+1))
       case measure=>have:=HGR.out;omega
       case rel=>exact⟨k+1,zo,zo,by go_num,HX0.out.below (bT Bz),(by rw[HYE.out];exact HX1.out.below (bT Bz)),all_lt HRL.out HRR.out,bT (bT hB Bz)⟩
    ·obtain rfl:k=y.rn:=zo;have k1:¬(y.rn:Int)<(y.rn:Int):=zo;have HRW:=zh (all_mem (P:=RwF) (by rw[HY.out.rows.1];exact aA _) HRL.out);have HX0:=zh y0;have HX1:=zh y1;clear y0 y1;have Bz:=zr wr;have pb1:=(zx HX1 Bz).cell 1 (.slice y.rA y.rn y.rc) rfl;go_wp2_with fail
     have KX0:=zh (zx HX0 Bz);have KX1:=zh (zx HX1 Bz);have KB:=zh (bT hB Bz);clear pb1 HX0 HX1 hB Bz;obtain⟨wp,hwp⟩:∃x:World,x=wr:=⟨_,rfl⟩;subst hwp;obtain⟨gk2,hgk2⟩:∃x:Nat,x=gk:=⟨_,rfl⟩;subst hgk2;go_loopg [7] y.gn (fun gk s wr=>GR2 w #[.int .i64 inp,.slice A n c] v4 #[.int .u8 y.kind,.slice y.rA y.rn y.rc,.slice y.bA y.bn y.bc,.int .i64 y.ch,.int .i64 y.high,.int .i64 y.wide,.int .i64 y.out,.int .i64 y.kh,.int .i64 y.kw,.int .i64 y.st,.int .i64 y.pad,.slice y.kA y.kn y.kc,.slice y.gA y.gn y.gc] (fun j=>∀v,y.groups[j]?=some v→v.n≤20) y.gn gk s wr)
     case atStart=>exact⟨0,uA _,aA _,rfl,KX0.out.below (by go_grown),KX1.out.below (by go_grown),(fun j h=>absurd h (mF j)),bT KB.out⟩
     case round =>
      clear KX0 KX1 KB;obtain⟨m,hm,hgk,rfl,y0,y1,hall,hB⟩:=hrel;have HGM:=zh hgk;have HTL:=zh hall;clear hgk hall;by_cases hlm:m<y.gn
      ·obtain⟨gb,go,he,hel⟩:=HY.out.groups.at Gp.cs_len zo zo;obtain⟨v,hv⟩:∃v,y.groups[m]?=some v:=⟨y.groups[m]'(by rw[HY.out.groups.1];exact hlm),cA _⟩;have hnv:ElA w gb (go+m) [.slice v.A v.n v.c]:=by have:=hel m v hv;rwa [kC] at this
       have HVC:=zh (HY.out.gok v (eA hv));have HVI:=zh hv;have hvm:=HVC.out.1;unfold maxLen at hvm
       have m1:(m:Int)<(y.gn:Int):=zo;have m2:(0:Int)≤(m:Int):=zo;have HGE:=zh he;have HYE:Hid ((#[.int .u8 y.kind,.slice y.rA y.rn y.rc,.slice y.bA y.bn y.bc,.int .i64 y.ch,.int .i64 y.high,.int .i64 y.wide,.int .i64 y.out,.int .i64 y.kh,.int .i64 y.kw,.int .i64 y.st,.int .i64 y.pad,.slice y.kA y.kn y.kc,.slice y.gA y.gn y.gc]:Array Value)=#[.int .u8 y.kind,.slice y.rA y.rn y.rc,.slice y.bA y.bn y.bc,.int .i64 y.ch,.int .i64 y.high,.int .i64 y.wide,.int .i64 y.out,.int .i64 y.kh,.int .i64 y.kw,.int .i64 y.st,.int .i64 y.pad,.slice y.kA y.kn y.kc,.slice (some ⟨gb,go,none⟩) y.gn y.gc]):=zh (by rw[he]);have HX0:=zh y0;have HX1:Hid (Bx wr v4 #[.int .u8 y.kind,.slice y.rA y.rn y.rc,.slice y.bA y.bn y.bc,.int .i64 y.ch,.int .i64 y.high,.int .i64 y.wide,.int .i64 y.out,.int .i64 y.kh,.int .i64 y.kw,.int .i64 y.st,.int .i64 y.pad,.slice y.kA y.kn y.kc,.slice (some ⟨gb,go,none⟩) y.gn y.gc] 55):=zh (by rw[←HYE.out];exact y1);clear hel hv he y0 y1;have Bz:=zr wr;have pbc:=(zx HX1 Bz).cell 12 (.slice (some ⟨gb,go,none⟩) y.gn y.gc) rfl;have pA0:=(hnv.below (bT hB Bz)).c0 (u:=.slice v.A v.n v.c) rfl;go_wp2_with fail
       all_goals try (go_ret;exact⟨true,rfl,(fun h=>by cases h),bT (bT hB Bz)⟩)
       rw[←HGE.out];go_roundg (y.gn-(m+1))
       case measure=>have:=HGM.out;omega
       case rel=>exact⟨m+1,zo,zo,by go_num,HX0.out.below (bT Bz),(by rw[HYE.out];exact HX1.out.below (bT Bz)),all_lt HTL.out (fun x hx=>by rw[HVI.out] at hx;cases hx;omega),bT (bT hB Bz)⟩
      ·obtain rfl:m=y.gn:=zo;have m1:¬(y.gn:Int)<(y.gn:Int):=zo;have HGY:Hid (∀u,L[i]?=some u→GLy u):=zh (fun u hu=>by
        rw[HYI.out] at hu;cases hu;exact⟨HGI.out.1,HGI.out.2,HBF.out,HKF.out,HRW.out,all_mem (by rw[HY.out.groups.1];exact aA _) HTL.out⟩)
       have HX0:=zh y0;have HX1:=zh y1;clear y0 y1;have Bz:=zr wr;have pbc:=(zx HX1 Bz).cell 12 (.slice y.gA y.gn y.gc) rfl;go_wp2_with fail
       go_roundg (n-(i+1))
       case measure=>have:=HGK.out;omega
       case rel=>exact⟨i+1,zo,zo,by go_num,HX0.out.below (bT Bz),all_lt HALL.out HGY.out,bT (bT hB Bz)⟩
  ·obtain rfl:n=i:=zo;have i1:¬(n:Int)<(n:Int):=zo;have HGA:=zh (all_mem (P:=GLy) (by rw[HLN.out];exact aA _) HALL.out);have HOK:Hid (∀y∈L,LyOk w 2 y):=zh (fun y hy=>(hin.out y hy).few (HGA.out y hy));have HX0:=zh y0;clear y0;have Bz:=zr wr;obtain⟨pa0,pa1,-⟩:=(zx HX0 Bz).cz;go_wp2_with fail
   with_reducible refine(checkT_q (hs.out.below (bT hB (bT (b:=wr) Bz))) (zh fun y h=>(HOK.out y h).below (bT hB (bT (b:=wr) Bz))) zo hn (zt hT hB Bz)).mono ?_
   rintro e w61 ⟨rfl,q⟩;replace q:=zq (a:=wr) q;replace Bz:=bT Bz q;clear q;clear pa0 pa1;obtain⟨pa0,pa1,-⟩:=(zx HX0 Bz).cz;cases hz:sizesF inp L with
   | error z =>
    have HZ0:=zh hz;have HZ:Hid (checkF inp L=z):=zh (by unfold checkF;rw[hz]);have g1:(z != 0)=true:=by rcases sizes_err hz with rfl | rfl<;>rfl
    clear hz;rw[HZ.out];go_wp2_with fail
    go_ret
    exact⟨false,rfl,(fun _=>⟨hn8,hi8,HGA.out,fun l hl=>by rw[HZ0.out] at hl;cases hl⟩),bT (bT hB Bz)⟩
   | ok l =>
    have HZ0:=zh hz;have HZ:Hid (checkF inp L=0):=zh (by unfold checkF;rw[hz]);have HLF:Hid (listF inp L=l):=zh (by unfold listF;rw[hz]);have HRG:Hid (∀x∈l,1≤x∧x≤256):=zh (steps_rng HOK.out (sizes_steps hz).1 (zi (sizes_steps hz).2.1) (sizes_steps hz).2.2.2);have hl9:l.length≤9:=by
     have:=(steps_ok (sizes_steps hz).2.2.2).1;have:=HLN.out;omega
    clear hz;rw[HZ.out];go_wp2_with fail
    with_reducible refine(sizesT_q (hs.out.below (bT hB (bT (b:=w61) Bz))) (zh fun y h=>(HOK.out y h).below (bT hB (bT (b:=w61) Bz))) zo hn (zh (hT.out.below (bT hB (bT (b:=w61) Bz))))).mono ?_
    rintro e w62 ⟨SA,sn,sc,rfl,hsl,hcap,b62⟩;rw[HLF.out] at hsl;replace b62:=zq (a:=w61) b62;have KB:=zh (bT (bT hB Bz) b62);have HSS:=zh hsl;have hsn:sn≤9:=zi hsl.1;have HSN:=zh hsl.1;clear pa0 pa1 HX0 hB Bz b62 hsl hcap hl9;go_wp2_with fail
    go_loopg [8,10] sn (fun gk s8 s10 wr=>GR3 w62 l sn gk s8 s10 wr)
    case atStart=>exact⟨0,uA _,aA _,rfl,rfl,by go_grown⟩
    case round =>
     obtain⟨k,hk,hgk,rfl,rfl,hB2⟩:=hrel;have HGK:=zh hgk;clear hgk;by_cases hlk:k<sn
     ·obtain⟨sb,so,he,hel⟩:=HSS.out.at ics_len zo zo;obtain⟨x,hx⟩:∃x,l[k]?=some x:=⟨l[k]'(by rw[HSN.out];exact hlk),cA _⟩;have hnd:ElA w62 sb (so+k) (ics x):=by have:=hel k x hx;rwa [kC] at this
      have hxr:=HRG.out x (eA hx);have hsr:=sum_rng HRG.out k;have HSU:Hid ((l.take (k+1)).sum=(l.take k).sum+x):=zh (by rw[zAi hx,List.sum_append];simp);obtain⟨s,hs0⟩:∃s,s=(l.take k).sum:=⟨_,rfl⟩;rw[←hs0] at HSU hsr ⊢;have pB0:=(hnd.below hB2).c0 (u:=.int .i64 x) rfl;have k1:(k:Int)<(sn:Int):=zo;have k2:(0:Int)≤(k:Int):=zo;have HSE:=zh he;clear hel hx he hnd hs0;rw[HSE.out];go_wp2_with fail
      rw[←HSE.out];go_roundg (sn-(k+1))
      case measure=>have:=HGK.out;omega
      case rel=>exact⟨k+1,zo,zo,by rw[HSU.out],by go_num,bT hB2⟩
     ·obtain rfl:k=sn:=zo;have k1:¬(k:Int)<(k:Int):=zo;have HSK:Hid (l.take k=l):=zh (fA (by rw[HSN.out];exact aA _));rw[HSK.out];obtain⟨s,hs0⟩:∃s,s=l.sum:=⟨_,rfl⟩;rw[←hs0];have HS0:=zh hs0;clear hs0;go_wp2_with fail
      go_ret
      exact⟨decide (60<s),rfl,(fun h=>⟨hn8,hi8,HGA.out,fun l' hl'=>by
       rw[HZ0.out] at hl';cases hl';have:=of_decide_eq_false h;rw[HS0.out] at this;omega⟩),bT (bT KB.out hB2)⟩
end Go.Proofs.YtiondclbdgijbaaGreatDoor
