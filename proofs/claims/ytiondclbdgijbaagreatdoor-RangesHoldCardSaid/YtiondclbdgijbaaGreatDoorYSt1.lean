import Derived.Test.YtiondclbdgijbaaGreatDoorYVn
import Derived.Shelf.SlSortCmp.KitK
import Derived.Sort.WalkB2
import Derived.Sort.WalkB12
import Derived.Sort.LotA
import Derived.Deep.LoopGhost
import Derived.IntWalk
import Derived.Lib.Hide
import Derived.Test.YtiondclbdgijbaaGreatDoorProg
set_option maxHeartbeats 16000000
set_option maxRecDepth 1000000
namespace Go.Proofs.YtiondclbdgijbaaGreatDoor
open Go.Shelf Go.RowKit Go.Lib Go.Sort
variable {P:Program} {α:Type} [Inhabited α] {k:Nat}
structure StLays (P:Program) (k:Nat):Prop where
 mixed:P.follows .mixedOrders=true
 tI:P.underlying 3=some (.int .i64)
 aI:∀w,(isAgg 3).run P w=.ok false w
 zI:∀w,(Go.sizeOf 3).run P w=.ok 1 w
 vI:∀w,(zeroValue 3).run P w=.ok (.int .i64 0) w
 tB:P.underlying 4=some .bool
 aB:∀w,(isAgg 4).run P w=.ok false w
 zB:∀w,(Go.sizeOf 4).run P w=.ok 1 w
 vB:∀w,(zeroValue 4).run P w=.ok (.bool false) w
 tU:P.underlying 141=some (.int .u64)
 aU:∀w,(isAgg 141).run P w=.ok false w
 zU:∀w,(Go.sizeOf 141).run P w=.ok 1 w
 vU:∀w,(zeroValue 141).run P w=.ok (.int .u64 0) w
 tS:P.underlying 56=some (.slice 60)
 aS:∀w,(isAgg 56).run P w=.ok false w
 zS:∀w,(Go.sizeOf 56).run P w=.ok 1 w
 vS:∀w,(zeroValue 56).run P w=.ok (.slice none 0 0) w
 aE:∀w,(isAgg 60).run P w=.ok true w
 zE:∀w,(Go.sizeOf 60).run P w=.ok k w
 f1:P.funcs[148]?=some Tryz.f148
 f2:P.funcs[143]?=some Tryz.f143
 f3:P.funcs[131]?=some Tryz.f131
 f4:P.funcs[132]?=some Tryz.f132
 f5:P.funcs[108]?=some Tryz.f108
 c1:∀args w,(callFunc 148 args).run P w=.ok (.enter 148 args) w
 c2:∀args w,(callFunc 143 args).run P w=.ok (.enter 143 args) w
 c3:∀args w,(callFunc 131 args).run P w=.ok (.enter 131 args) w
 c4:∀args w,(callFunc 132 args).run P w=.ok (.enter 132 args) w
 c5:∀args w,(callFunc 108 args).run P w=.ok (.enter 108 args) w
def MovedW (enc:α→List Value) (k:Nat) (w0:World) (blk off:Nat) (f:Nat→Nat) (lo hi:Nat) (d:Array α) (e:Ending) (w':World):Prop :=
 e=.returned (.tuple #[])∧∃d':Array α,Moved f d d'∧PermIn lo hi d d'∧SWK enc k w0 blk off d' w'
def SortedW (enc:α→List Value) (k:Nat) (w0:World) (blk off:Nat) (lt:α→α→Bool) (lo hi:Nat) (d:Array α) (e:Ending) (w':World):Prop :=
 e=.returned (.tuple #[])∧∃d':Array α,PermIn lo hi d d'∧SortedIn lt lo hi d'∧SWK enc k w0 blk off d' w'
theorem swapIdx0 (d:Array α) (a b:Nat):Moved (swIdx a b 0) d d:=(Moved.refl d).congr fun x=>(swIdx_zero a b x).symm
theorem swapRange_q (L:StLays P k) (enc:α→List Value) (g:Nat) (cb:Array Value) (blk off cap N:Nat) (d0 d:Array α) (w0 w:World) (R:RowK enc k w0 blk off d0) (hs0:d0.size=N) (hs:d.size=N) (S:SWK enc k w0 blk off d w) (hsz:N<4611686018427387904) (a b n:Nat) (hab:a+n≤b) (hb:b+n≤N) :
  Calls P 148 #[.slice (some ⟨blk,off,none⟩) N cap,.int .i64 a,.int .i64 b,.int .i64 n,.func (.func g) #[] cb] w (MovedW enc k w0 blk off (swIdx a b n) a (b+n) d):=by
 have mixed:=L.mixed;have tI:=L.tI;have aI:=L.aI;have zI:=L.zI;have vI:=L.vI;have tB:=L.tB;have aB:=L.aB;have zB:=L.zB;have vB:=L.vB;have tU:=L.tU;have aU:=L.aU;have zU:=L.zU;have vU:=L.vU;have tS:=L.tS;have aS:=L.aS;have zS:=L.zS;have vS:=L.vS;have aE:=L.aE;have zE:=L.zE;have c1:=L.c1;have c2:=L.c2;have c3:=L.c3;have c4:=L.c4;have c5:=L.c5;have uI:=run_underlying L.tI;have uB:=run_underlying L.tB;have uU:=run_underlying L.tU;have uS:=run_underlying L.tS;have S0:Aside (SWK enc k w0 blk off d w):=S;clear S;have hcd:SWK enc k w0 blk off d w→True:=fun _=>trivial;clear hcd;go_enter L.f1,Tryz.ntmps148
 go_wp2
 go_loopg [10] n (fun kx s10 wr=>∃(i:Nat) (dk:Array α),s10=.int .i64 i∧i≤n∧n-i≤kx∧dk.size=N∧Aside (SWK enc k w0 blk off dk wr)∧Aside (Moved (swIdx a b i) d dk∧PermIn a (b+n) d dk))
 case atStart=>exact⟨0,d,rfl,uA _,aA _,hs,S0,(⟨swapIdx0 d a b,permIn_refl _ _ _⟩:Moved (swIdx a b 0) d d∧PermIn a (b+n) d d)⟩
 case round =>
  clear S0;obtain⟨i,dk,rfl,hin,hkx,hds,S1,HM⟩:=hrel;by_cases hlt:i<n
  ·have ltz:(i:Int)<(n:Int):=zo;have e2:((a:Int)+(i:Int)).toNat=a+i:=zo;have p2:(0:Int)≤(a:Int)+(i:Int):=zo;have b2:(a:Int)+(i:Int)<(N:Int):=zo;have r2:IntKind.i64.wrap ((a:Int)+(i:Int))=(a:Int)+(i:Int):=by rw[IntKind.wrap_i64];omega
   have e3:((b:Int)+(i:Int)).toNat=b+i:=zo;have p3:(0:Int)≤(b:Int)+(i:Int):=zo;have b3:(b:Int)+(i:Int)<(N:Int):=zo;have r3:IntKind.i64.wrap ((b:Int)+(i:Int))=(b:Int)+(i:Int):=by rw[IntKind.wrap_i64];omega
   have S2:Aside (SWK enc k w0 blk off (swp dk (a+i) (b+i)) ((wr.drew.setCells blk (off+(a+i)*k) (enc dk[b+i]!)).setCells blk (off+(b+i)*k) (enc dk[a+i]!))):=S1.out.swapped R (a+i) (b+i) zo zo;have l1a:=S1.out.ld1 R zo P (a+i) zo;have l1b:=S1.out.ld1 R zo P (b+i) zo;have s1a:=S1.out.st1 R zo P (a+i) zo dk[b+i]!;have s1b:=S1.out.st2 R zo P (a+i) (b+i) zo zo dk[b+i]! dk[a+i]!;have n1a:(enc dk[a+i]!).length=k:=R.hk _;have n1b:(enc dk[b+i]!).length=k:=R.hk _;generalize enc dk[a+i]! = cI1 at S2 l1a s1b n1a
   generalize enc dk[b+i]! = cJ1 at S2 l1b s1a s1b n1b
   clear S1;go_wp2_with fail
   go_big_region_o
   clear l1a l1b s1a s1b;generalize (wr.drew.setCells blk (off+(a+i)*k) cJ1).setCells blk (off+(b+i)*k) cI1=w2 at S2 ⊢
   go_wp2
   go_roundg (n-(i+1))
   case measure=>omega
   case rel =>
    have HM2:Aside (Moved (swIdx a b (i+1)) d (swp dk (a+i) (b+i))∧PermIn a (b+n) d (swp dk (a+i) (b+i))):=⟨HM.out.1.sw hlt hab zo,permIn_trans _ _ _ _ _ HM.out.2 (swp_permIn dk a (b+n) (a+i) (b+i) zo zo zo zo zo)⟩;exact⟨i+1,swp dk (a+i) (b+i),by go_num,zo,aA _,by rw[size_swp];exact hds,S2,HM2⟩
  ·have ltz:¬(i:Int)<(n:Int):=zo;obtain rfl:i=n:=zo;go_wp2
   go_end0
   exact⟨rfl,dk,HM.out.1,HM.out.2,S1.out⟩
theorem rotate_q (L:StLays P k) (enc:α→List Value) (g:Nat) (cb:Array Value) (blk off cap N:Nat) (d0 d:Array α) (w0 w:World) (R:RowK enc k w0 blk off d0) (hs0:d0.size=N) (hs:d.size=N) (S:SWK enc k w0 blk off d w) (hsz:N<4611686018427387904) (a m b:Nat) (ham:a<m) (hmb:m<b) (hb:b≤N) :
  Calls P 143 #[.slice (some ⟨blk,off,none⟩) N cap,.int .i64 a,.int .i64 m,.int .i64 b,.func (.func g) #[] cb] w (MovedW enc k w0 blk off (rotIdx a m b) a b d):=by
 have mixed:=L.mixed;have tI:=L.tI;have aI:=L.aI;have zI:=L.zI;have vI:=L.vI;have tB:=L.tB;have aB:=L.aB;have zB:=L.zB;have vB:=L.vB;have tU:=L.tU;have aU:=L.aU;have zU:=L.zU;have vU:=L.vU;have tS:=L.tS;have aS:=L.aS;have zS:=L.zS;have vS:=L.vS;have aE:=L.aE;have zE:=L.zE;have c1:=L.c1;have c2:=L.c2;have c3:=L.c3;have c4:=L.c4;have c5:=L.c5;have uI:=run_underlying L.tI;have uB:=run_underlying L.tB;have uU:=run_underlying L.tU;have uS:=run_underlying L.tS;have S0:Aside (SWK enc k w0 blk off d w):=S;clear S;go_enter L.f2,Tryz.ntmps143
 go_wp2
 go_loopg [10,11] (b-a) (fun kx s10 s11 wr=>∃(i j:Nat) (dk:Array α),s10=.int .i64 i∧s11=.int .i64 j∧0<i∧0<j∧i≤m-a∧a≤m-i∧m+j≤b∧i+j≤kx∧dk.size=N∧Aside (SWK enc k w0 blk off dk wr)∧
  Aside ((∃f,Moved f d dk∧∀x,f (rotIdx (m-i) m (m+j) x)=rotIdx a m b x)∧PermIn a b d dk))
 case atStart =>
  have H0:Aside ((∃f,Moved f d d∧∀x,f (rotIdx (m-(m-a)) m (m+(b-m)) x)=rotIdx a m b x)∧PermIn a b d d):=⟨⟨_,Moved.refl d,fun x=>by rw[show m-(m-a)=a by omega,show m+(b-m)=b by omega]⟩,permIn_refl _ _ _⟩;exact⟨m-a,b-m,d,by first | rfl | (congr 1;omega),by first | rfl | (congr 1;omega),zo,zo,zo,zo,zo,zo,hs,S0,H0⟩
 case round =>
  clear S0;obtain⟨i,j,dk,rfl,rfl,hi0,hj0,hia,hma,hjb,hkx,hds,S1,HM⟩:=hrel;by_cases hij:i=j
  ·subst hij;have hne:((i:Int) !=(i:Int))=false:=by simp
   go_wp2_with fail
   have hcall:=swapRange_q L enc g cb blk off cap N d0 dk w0 wr R hs0 hds S1.out hsz (m-i) m i zo zo;rw[show((m-i:Nat):Int)=(m:Int)-(i:Int) by omega] at hcall;with_reducible refine hcall.mono ?_
   rintro e w2 ⟨rfl,d2,m2,p2,s2⟩;have S2:=Lib.hid s2;have HM2:Hid (Moved (rotIdx a m b) d d2∧PermIn a b d d2):=by
    obtain⟨⟨f,hf,hx⟩,hp⟩:=HM.out;refine Lib.hid ⟨(hf.trans m2).congr fun x=>?_,permIn_trans _ _ _ _ _ hp (permIn_mono _ _ _ _ _ _ zo zo zo p2)⟩;rw[←hx x,←rot_eq (m:=m) (i:=i) zo]
   clear m2 p2 s2 hcall;go_wp2_with fail
   go_end0
   exact⟨rfl,d2,HM2.out.1,HM2.out.2,S2.out⟩
  ·have hne:((i:Int) !=(j:Int))=true:=by simp;omega
   by_cases hgt:j<i
   ·have hz:(j:Int)<(i:Int):=zo;go_wp2_with fail
    have hcall:=swapRange_q L enc g cb blk off cap N d0 dk w0 wr R hs0 hds S1.out hsz (m-i) (m) (j) zo zo;rw[show((m-i:Nat):Int)=(m:Int)-(i:Int) by omega] at hcall;with_reducible refine hcall.mono ?_
    rintro e w2 ⟨rfl,d2,m2,p2,s2⟩;have S2:=Lib.hid s2;have HD2:Hid (d2.size=N):=Lib.hid (p2.1.trans hds);have HM2:Hid ((∃f,Moved f d d2∧∀x,f (rotIdx (m-(i-j)) m (m+(j)) x)=rotIdx a m b x)∧PermIn a b d d2):=by
     obtain⟨⟨f,hf,hx⟩,hp⟩:=HM.out;refine Lib.hid ⟨⟨_,hf.trans m2,fun x=>?_⟩,permIn_trans _ _ _ _ _ hp (permIn_mono _ _ _ _ _ _ zo zo zo p2)⟩;rw[←hx x,←rot_gt (m:=m) (i:=i) (j:=j) zo zo]
    clear m2 p2 s2 hcall;go_wp2_with fail
    go_roundg (i-j+(j))
    case measure=>omega
    case rel=>exact⟨i-j,j,d2,by first | rfl | (congr 1;omega),by first | rfl | (congr 1;omega),zo,zo,zo,zo,zo,aA _,HD2.out,S2.out,HM2.out⟩
   ·have hz:¬(j:Int)<(i:Int):=zo;go_wp2_with fail
    have hcall:=swapRange_q L enc g cb blk off cap N d0 dk w0 wr R hs0 hds S1.out hsz (m-i) (m+j-i) (i) zo zo;rw[show((m-i:Nat):Int)=(m:Int)-(i:Int) by omega] at hcall;rw[show((m+j-i:Nat):Int)=(m:Int)+(j:Int)-(i:Int) by omega] at hcall;with_reducible refine hcall.mono ?_
    rintro e w2 ⟨rfl,d2,m2,p2,s2⟩;have S2:=Lib.hid s2;have HD2:Hid (d2.size=N):=Lib.hid (p2.1.trans hds);have HM2:Hid ((∃f,Moved f d d2∧∀x,f (rotIdx (m-(i)) m (m+(j-i)) x)=rotIdx a m b x)∧PermIn a b d d2):=by
     obtain⟨⟨f,hf,hx⟩,hp⟩:=HM.out;refine Lib.hid ⟨⟨_,hf.trans m2,fun x=>?_⟩,permIn_trans _ _ _ _ _ hp (permIn_mono _ _ _ _ _ _ zo zo zo p2)⟩;rw[←hx x,←rot_lt (m:=m) (i:=i) (j:=j) zo zo]
    clear m2 p2 s2 hcall;go_wp2_with fail
    go_roundg (i+(j-i))
    case measure=>omega
    case rel=>exact⟨i,j-i,d2,by first | rfl | (congr 1;omega),by first | rfl | (congr 1;omega),zo,zo,zo,zo,zo,aA _,HD2.out,S2.out,HM2.out⟩
theorem insertion_q (L:StLays P k) (enc:α→List Value) (g:Nat) (cb:Array Value) (blk off cap N:Nat) (d0 d:Array α) (w0 w:World) (R:RowK enc k w0 blk off d0) (hs0:d0.size=N) (hs:d.size=N) (S:SWK enc k w0 blk off d w) (hsz:N<4611686018427387904) (cf:α→α→Int) (eg:∀args w,(callFunc g args).run P w=.ok (.enter g args) w) (hcmp:CmpLays P g cb enc k cf blk off N w0) (hO:SWO (ltOf cf)) (a b:Nat) (hab:a≤b) (hb:b≤N) :
  Calls P 131 #[.slice (some ⟨blk,off,none⟩) N cap,.int .i64 a,.int .i64 b,.func (.func g) #[] cb] w (SortedW enc k w0 blk off (ltOf cf) a b d):=by
 have mixed:=L.mixed;have tI:=L.tI;have aI:=L.aI;have zI:=L.zI;have vI:=L.vI;have tB:=L.tB;have aB:=L.aB;have zB:=L.zB;have vB:=L.vB;have tU:=L.tU;have aU:=L.aU;have zU:=L.zU;have vU:=L.vU;have tS:=L.tS;have aS:=L.aS;have zS:=L.zS;have vS:=L.vS;have aE:=L.aE;have zE:=L.zE;have c1:=L.c1;have c2:=L.c2;have c3:=L.c3;have c4:=L.c4;have c5:=L.c5;have uI:=run_underlying L.tI;have uB:=run_underlying L.tB;have uU:=run_underlying L.tU;have uS:=run_underlying L.tS;have S0:Aside (SWK enc k w0 blk off d w):=S;clear S;have HC:Aside (CmpLays P g cb enc k cf blk off N w0):=hcmp;clear hcmp;go_enter L.f3,Tryz.ntmps131
 go_wp2
 go_loopg [8] (b-a) (fun g1 vi wr=>∃(i:Nat) (dk:Array α),vi=.int .i64 i∧a<i∧i≤b+1∧b+1-i≤g1+1∧dk.size=N∧Aside (SWK enc k w0 blk off dk wr)∧Aside (insOuter (ltOf cf) a b i dk=insOuter (ltOf cf) a b (a+1) d))
 case atStart =>
  have H0:Aside (insOuter (ltOf cf) a b (a+1) d=insOuter (ltOf cf) a b (a+1) d):=(rfl:insOuter (ltOf cf) a b (a+1) d=insOuter (ltOf cf) a b (a+1) d);exact⟨a+1,d,by go_num,zo,zo,zo,hs,S0,H0⟩
 case round =>
  clear S0;obtain⟨i,dk,rfl,hai,hib,hg1,hsk,S1,HO⟩:=hrel;by_cases hlt:i<b
  ·have hltz:(i:Int)<(b:Int):=zo;go_wp2
   go_loopg [9] i (fun g2 vj wr=>∃(j:Nat) (dj:Array α),vj=.int .i64 j∧a≤j∧j≤i∧j≤g2∧dj.size=N∧Aside (SWK enc k w0 blk off dj wr)∧Aside (insInner (ltOf cf) a j dj=insInner (ltOf cf) a i dk))
   case atStart =>
    have H0:Aside (insInner (ltOf cf) a i dk=insInner (ltOf cf) a i dk):=(rfl:insInner (ltOf cf) a i dk=insInner (ltOf cf) a i dk);exact⟨i,dk,rfl,zo,aA _,aA _,hsk,S1,H0⟩
   case round =>
    clear S1;obtain⟨j,dj,rfl,haj,hji,hg2,hsj,S2,HI⟩:=hrel;have out:(j≤a∨ltOf cf dj[j]! dj[j-1]! = false)→insOuter (ltOf cf) a b (i+1) dj=insOuter (ltOf cf) a b (a+1) d:=fun hq=>by
     rw[←HO.out,insOuter_go _ _ _ _ _ hlt,←HI.out,insInner_stop _ _ _ _ hq]
    have OUT:Aside ((j≤a∨ltOf cf dj[j]! dj[j-1]! = false)→insOuter (ltOf cf) a b (i+1) dj=insOuter (ltOf cf) a b (a+1) d):=out;clear out;by_cases hja:a<j
    ·obtain⟨jp,rfl⟩:∃jp,j=jp+1:=⟨j-1,zo⟩;have hjaz:(a:Int)<(jp:Int)+1:=zo;have hjd:decide ((a:Int)<(jp:Int)+1)=true:=jA hjaz;cases hL:ltOf cf dj[jp+1]! dj[jp]! with
     | true =>
      have e5:((jp:Int)+1).toNat=jp+1:=zo;have p5:(0:Int)≤(jp:Int)+1:=zo;have b5:(jp:Int)+1<(N:Int):=zo;have r5:IntKind.i64.wrap ((jp:Int)+1)=(jp:Int)+1:=by rw[IntKind.wrap_i64];omega
      have e6:((jp:Int)).toNat=jp:=zo;have p6:(0:Int)≤(jp:Int):=zo;have b6:(jp:Int)<(N:Int):=zo;have r6:IntKind.i64.wrap ((jp:Int))=(jp:Int):=by rw[IntKind.wrap_i64];omega
      obtain⟨x4,hx4⟩:∃x,x=dj[jp+1]!:=⟨_,rfl⟩;obtain⟨y4,hy4⟩:∃x,x=dj[jp]!:=⟨_,rfl⟩;have l4a:=S2.out.ld R zo P (jp+1) zo;have l4b:=S2.out.ld R zo P (jp) zo;rw[←hx4] at l4a;rw[←hy4] at l4b;have hc4:=S2.out.cmp HC.out zo x4 y4;have hv4:cf x4 y4<0:=by rw[hx4,hy4];exact of_decide_eq_true hL
      have hd4:decide (cf x4 y4<0)=true:=jA hv4;clear hx4 hy4;go_wp2_with fail
      go_quiet_grown (first | (go_at_fn g;refine Calls.grown_of (hc4 _ _)))
      have S3:Aside (SWK enc k w0 blk off dj (grow (wr.drewN nq) osq)):=S2.out.grown nq osq;clear l4a l4b hc4 S2;generalize grow (wr.drewN nq) osq=w3 at S3 ⊢
      clear nq osq;go_wp2_with fail
      have e8:((jp:Int)+1).toNat=jp+1:=zo;have p8:(0:Int)≤(jp:Int)+1:=zo;have b8:(jp:Int)+1<(N:Int):=zo;have r8:IntKind.i64.wrap ((jp:Int)+1)=(jp:Int)+1:=by rw[IntKind.wrap_i64];omega
      have e9:((jp:Int)).toNat=jp:=zo;have p9:(0:Int)≤(jp:Int):=zo;have b9:(jp:Int)<(N:Int):=zo;have r9:IntKind.i64.wrap ((jp:Int))=(jp:Int):=by rw[IntKind.wrap_i64];omega
      have S4:Aside (SWK enc k w0 blk off (swp dj (jp+1) (jp)) ((w3.drew.setCells blk (off+(jp+1)*k) (enc dj[jp]!)).setCells blk (off+(jp)*k) (enc dj[jp+1]!))):=S3.out.swapped R (jp+1) (jp) zo zo;have l7a:=S3.out.ld1 R zo P (jp+1) zo;have l7b:=S3.out.ld1 R zo P (jp) zo;have s7a:=S3.out.st1 R zo P (jp+1) zo dj[jp]!;have s7b:=S3.out.st2 R zo P (jp+1) (jp) zo zo dj[jp]! dj[jp+1]!;have n7a:(enc dj[jp+1]!).length=k:=R.hk _;have n7b:(enc dj[jp]!).length=k:=R.hk _;generalize enc dj[jp+1]! = cI7 at S4 l7a s7b n7a
      generalize enc dj[jp]! = cJ7 at S4 l7b s7a s7b n7b
      clear S3;go_wp2_with fail
      go_big_region_o
      clear l7a l7b s7a s7b;generalize (w3.drew.setCells blk (off+(jp+1)*k) cJ7).setCells blk (off+(jp)*k) cI7=w4 at S4 ⊢
      go_wp2
      go_roundg jp
      case measure=>omega
      case rel =>
       have hgo:=insInner_go (ltOf cf) a (jp+1) dj hja (by simpa only[xD] using hL);simp only[xD] at hgo
       have H2:Aside (insInner (ltOf cf) a jp (swp dj (jp+1) jp)=insInner (ltOf cf) a i dk):=(hgo.symm.trans HI.out:insInner (ltOf cf) a jp (swp dj (jp+1) jp)=insInner (ltOf cf) a i dk);exact⟨jp,swp dj (jp+1) jp,by first | rfl | go_num | (congr 1;omega),zo,zo,aA _,by rw[size_swp];exact hsj,S4,H2⟩
     | false =>
      have e11:((jp:Int)+1).toNat=jp+1:=zo;have p11:(0:Int)≤(jp:Int)+1:=zo;have b11:(jp:Int)+1<(N:Int):=zo;have r11:IntKind.i64.wrap ((jp:Int)+1)=(jp:Int)+1:=by rw[IntKind.wrap_i64];omega
      have e12:((jp:Int)).toNat=jp:=zo;have p12:(0:Int)≤(jp:Int):=zo;have b12:(jp:Int)<(N:Int):=zo;have r12:IntKind.i64.wrap ((jp:Int))=(jp:Int):=by rw[IntKind.wrap_i64];omega
      obtain⟨x10,hx10⟩:∃x,x=dj[jp+1]!:=⟨_,rfl⟩;obtain⟨y10,hy10⟩:∃x,x=dj[jp]!:=⟨_,rfl⟩;have l10a:=S2.out.ld R zo P (jp+1) zo;have l10b:=S2.out.ld R zo P (jp) zo;rw[←hx10] at l10a;rw[←hy10] at l10b;have hc10:=S2.out.cmp HC.out zo x10 y10;have hv10:¬cf x10 y10<0:=by rw[hx10,hy10];exact of_decide_eq_false hL
      have hd10:decide (cf x10 y10<0)=false:=yA hv10;clear hx10 hy10;go_wp2_with fail
      go_quiet_grown (first | (go_at_fn g;refine Calls.grown_of (hc10 _ _)))
      have S3:Aside (SWK enc k w0 blk off dj (grow (wr.drewN nq) osq)):=S2.out.grown nq osq;clear l10a l10b hc10 S2;generalize grow (wr.drewN nq) osq=w3 at S3 ⊢
      clear nq osq;go_wp2
      go_roundg (b-(i+1))
      case measure=>omega
      case rel =>
       have H2:Aside (insOuter (ltOf cf) a b (i+1) dj=insOuter (ltOf cf) a b (a+1) d):=OUT.out (Or.inr (by simpa only[xD] using hL));exact⟨i+1,dj,by go_num,zo,zo,zo,hsj,S3,H2⟩
    ·have hjaz:decide ((j:Int) > (a:Int))=false:=yA zo;have hjaz':¬(a:Int)<(j:Int):=zo;have S3:Aside (SWK enc k w0 blk off dj wr.drew):=S2.out.drew;clear S2;go_wp2_with fail
     go_big_region_o
     generalize wr.drew=w3 at S3 ⊢
     go_wp2
     go_roundg (b-(i+1))
     case measure=>omega
     case rel =>
      have H2:Aside (insOuter (ltOf cf) a b (i+1) dj=insOuter (ltOf cf) a b (a+1) d):=OUT.out (Or.inl zo);exact⟨i+1,dj,by go_num,zo,zo,zo,hsj,S3,H2⟩
  ·have hltz:¬(i:Int)<(b:Int):=zo;go_wp2
   go_end0
   have hst:=insOuter_stop (ltOf cf) a b i dk hlt;have hins:=insertionSort_holds (lt:=ltOf cf) hO d a b hab zo;have e:Sort.insertionSort (ltOf cf) d a b=dk:=by unfold Sort.insertionSort;rw[←HO.out,hst]
   rw[e] at hins;exact⟨rfl,dk,hins.1,hins.2,S1.out⟩
theorem symLeft_q (L:StLays P k) (enc:α→List Value) (g:Nat) (cb:Array Value) (blk off cap N:Nat) (d0 d:Array α) (w0 w:World) (R:RowK enc k w0 blk off d0) (hs0:d0.size=N) (hs:d.size=N) (S:SWK enc k w0 blk off d w) (hsz:N<4611686018427387904) (cf:α→α→Int) (eg:∀args w,(callFunc g args).run P w=.ok (.enter g args) w) (hcmp:CmpLays P g cb enc k cf blk off N w0) (hO:SWO (ltOf cf)) (a m b:Nat) (hm:m=a+1) (hmb:m<b) (hb:b≤N) (hr:Hid (SortedIn (ltOf cf) m b d)) :
  Calls P 132 #[.slice (some ⟨blk,off,none⟩) N cap,.int .i64 a,.int .i64 m,.int .i64 b,.func (.func g) #[] cb] w (SortedW enc k w0 blk off (ltOf cf) a b d):=by
 have mixed:=L.mixed;have tI:=L.tI;have aI:=L.aI;have zI:=L.zI;have vI:=L.vI;have tB:=L.tB;have aB:=L.aB;have zB:=L.zB;have vB:=L.vB;have tU:=L.tU;have aU:=L.aU;have zU:=L.zU;have vU:=L.vU;have tS:=L.tS;have aS:=L.aS;have zS:=L.zS;have vS:=L.vS;have aE:=L.aE;have zE:=L.zE;have c1:=L.c1;have c2:=L.c2;have c3:=L.c3;have c4:=L.c4;have c5:=L.c5;have uI:=run_underlying L.tI;have uB:=run_underlying L.tB;have uU:=run_underlying L.tU;have uS:=run_underlying L.tS;have S0:Aside (SWK enc k w0 blk off d w):=S;clear S;have HC:Aside (CmpLays P g cb enc k cf blk off N w0):=hcmp;clear hcmp;have t1:((m:Int)-(a:Int)==1)=true:=by simp;omega
 have HM0:=Lib.hid hm;have hm':m≤a+1∧a+1≤m:=zo;clear hm;go_enter L.f4,Tryz.ntmps132
 go_wp2_with fail
 go_loopg [10,11] (b-m) (fun kx s1 s2 wr=>∃(i j:Nat),s1=.int .i64 i∧s2=.int .i64 j∧m≤i∧i≤j∧j≤b∧j-i≤kx∧Aside (SWK enc k w0 blk off d wr)∧Aside ((∀x,m≤x→x<i→ltOf cf d[x]! d[a]! = true)∧(∀x,j≤x→x<b→ltOf cf d[x]! d[a]! = false)))
 case atStart =>
  have H0:Aside ((∀x,m≤x→x<m→ltOf cf d[x]! d[a]! = true)∧(∀x,b≤x→x<b→ltOf cf d[x]! d[a]! = false)):=(⟨fun x h1 h2=>by omega,fun x h1 h2=>by omega⟩:(∀x,m≤x→x<m→ltOf cf d[x]! d[a]! = true)∧(∀x,b≤x→x<b→ltOf cf d[x]! d[a]! = false));exact⟨m,b,rfl,rfl,aA _,zo,aA _,aA _,S0,H0⟩
 case round =>
  clear S0;obtain⟨i,j,rfl,rfl,hi,hij,hj,hkx,S1,HR⟩:=hrel;by_cases hlt:i<j
  ·have hltz:(i:Int)<(j:Int):=zo;go_wp2_with fail
   cases hL:ltOf cf d[(i+j) / 2]! d[a]! with
   | true =>
    have e14:(((i:Int)+(j:Int)) / 2).toNat=(i+j) / 2:=zo;have p14:(0:Int)≤((i:Int)+(j:Int)) / 2:=zo;have b14:((i:Int)+(j:Int)) / 2<(N:Int):=zo;have r14:IntKind.i64.wrap (((i:Int)+(j:Int)) / 2)=((i:Int)+(j:Int)) / 2:=by rw[IntKind.wrap_i64];omega
    have e15:((a:Int)).toNat=a:=zo;have p15:(0:Int)≤(a:Int):=zo;have b15:(a:Int)<(N:Int):=zo;have r15:IntKind.i64.wrap ((a:Int))=(a:Int):=by rw[IntKind.wrap_i64];omega
    obtain⟨x13,hx13⟩:∃x,x=d[(i+j) / 2]!:=⟨_,rfl⟩;obtain⟨y13,hy13⟩:∃x,x=d[a]!:=⟨_,rfl⟩;have l13a:=S1.out.ld R zo P ((i+j) / 2) zo;have l13b:=S1.out.ld R zo P (a) zo;rw[←hx13] at l13a;rw[←hy13] at l13b;have hc13:=S1.out.cmp HC.out zo x13 y13;have hv13:cf x13 y13<0:=by rw[hx13,hy13];exact of_decide_eq_true hL
    have hd13:decide (cf x13 y13<0)=true:=jA hv13;clear hx13 hy13;go_wp2_with fail
    go_quiet_grown (first | (go_at_fn g;refine Calls.grown_of (hc13 _ _)))
    have S2:Aside (SWK enc k w0 blk off d (grow (wr.drewN nq) osq)):=S1.out.grown nq osq;clear l13a l13b hc13 S1;generalize grow (wr.drewN nq) osq=w2 at S2 ⊢
    clear nq osq;go_wp2
    go_roundg (j-((i+j) / 2+1))
    case measure=>omega
    case rel =>
     have H2:Aside ((∀x,m≤x→x<(i+j) / 2+1→ltOf cf d[x]! d[a]! = true)∧(∀x,j≤x→x<b→ltOf cf d[x]! d[a]! = false)):=(⟨fun x h1 h2=>((eB x ((i+j) / 2)).elim (fun h3=>SWO.le_lt hO (hr.out x _ h1 h3 zo) hL) (fun h3=>by obtain rfl:x=(i+j) / 2:=zo;exact hL)),fun x h1 h2=>HR.out.2 x h1 h2⟩:(∀x,m≤x→x<(i+j) / 2+1→ltOf cf d[x]! d[a]! = true)∧(∀x,j≤x→x<b→ltOf cf d[x]! d[a]! = false));exact⟨(i+j) / 2+1,j,by first | rfl | (congr 1;omega),by first | rfl | (congr 1;omega),zo,zo,zo,aA _,S2,H2⟩
   | false =>
    have e17:(((i:Int)+(j:Int)) / 2).toNat=(i+j) / 2:=zo;have p17:(0:Int)≤((i:Int)+(j:Int)) / 2:=zo;have b17:((i:Int)+(j:Int)) / 2<(N:Int):=zo;have r17:IntKind.i64.wrap (((i:Int)+(j:Int)) / 2)=((i:Int)+(j:Int)) / 2:=by rw[IntKind.wrap_i64];omega
    have e18:((a:Int)).toNat=a:=zo;have p18:(0:Int)≤(a:Int):=zo;have b18:(a:Int)<(N:Int):=zo;have r18:IntKind.i64.wrap ((a:Int))=(a:Int):=by rw[IntKind.wrap_i64];omega
    obtain⟨x16,hx16⟩:∃x,x=d[(i+j) / 2]!:=⟨_,rfl⟩;obtain⟨y16,hy16⟩:∃x,x=d[a]!:=⟨_,rfl⟩;have l16a:=S1.out.ld R zo P ((i+j) / 2) zo;have l16b:=S1.out.ld R zo P (a) zo;rw[←hx16] at l16a;rw[←hy16] at l16b;have hc16:=S1.out.cmp HC.out zo x16 y16;have hv16:¬cf x16 y16<0:=by rw[hx16,hy16];exact of_decide_eq_false hL
    have hd16:decide (cf x16 y16<0)=false:=yA hv16;clear hx16 hy16;go_wp2_with fail
    go_quiet_grown (first | (go_at_fn g;refine Calls.grown_of (hc16 _ _)))
    have S2:Aside (SWK enc k w0 blk off d (grow (wr.drewN nq) osq)):=S1.out.grown nq osq;clear l16a l16b hc16 S1;generalize grow (wr.drewN nq) osq=w2 at S2 ⊢
    clear nq osq;go_wp2
    go_roundg ((i+j) / 2-i)
    case measure=>omega
    case rel =>
     have H2:Aside ((∀x,m≤x→x<i→ltOf cf d[x]! d[a]! = true)∧(∀x,(i+j) / 2≤x→x<b→ltOf cf d[x]! d[a]! = false)):=(⟨fun x h1 h2=>HR.out.1 x h1 h2,fun x h1 h2=>((eB ((i+j) / 2) x).elim (fun h3=>hO.ntrans _ _ _ (hr.out _ x zo h3 h2) hL) (fun h3=>by obtain rfl:x=(i+j) / 2:=zo;exact hL))⟩:(∀x,m≤x→x<i→ltOf cf d[x]! d[a]! = true)∧(∀x,(i+j) / 2≤x→x<b→ltOf cf d[x]! d[a]! = false));exact⟨i,(i+j) / 2,by first | rfl | (congr 1;omega),by first | rfl | (congr 1;omega),zo,zo,zo,aA _,S2,H2⟩
  ·have hltz:¬(i:Int)<(j:Int):=zo;obtain rfl:i=j:=zo;go_wp2_with fail
   go_loopg [13] N (fun kx s1 wr=>∃(q:Nat) (dk:Array α),s1=.int .i64 q∧a≤q∧q≤i-1∧i-1-q≤kx∧dk.size=N∧Aside (SWK enc k w0 blk off dk wr)∧Aside (Moved (upIdx a q) d dk∧PermIn a b d dk))
   case atStart =>
    have H0:Aside (Moved (upIdx a a) d d∧PermIn a b d d):=(⟨(Moved.refl d).congr fun x=>(upIdx_self a x).symm,permIn_refl _ _ _⟩:Moved (upIdx a a) d d∧PermIn a b d d);exact⟨a,d,rfl,zo,zo,zo,hs,S1,H0⟩
   case round =>
    clear S1;obtain⟨q,dk,rfl,hq1,hq2,hkq,hds,S1,HM⟩:=hrel;by_cases hq:q<i-1
    ·have hqz:(q:Int)<(i:Int)-1:=zo;have hqz':(q:Int)+1<(i:Int):=zo;go_wp2_with fail
     have e20:((q:Int)).toNat=q:=zo;have p20:(0:Int)≤(q:Int):=zo;have b20:(q:Int)<(N:Int):=zo;have r20:IntKind.i64.wrap ((q:Int))=(q:Int):=by rw[IntKind.wrap_i64];omega
     have e21:((q:Int)+1).toNat=q+1:=zo;have p21:(0:Int)≤(q:Int)+1:=zo;have b21:(q:Int)+1<(N:Int):=zo;have r21:IntKind.i64.wrap ((q:Int)+1)=(q:Int)+1:=by rw[IntKind.wrap_i64];omega
     have S4:Aside (SWK enc k w0 blk off (swp dk (q) (q+1)) ((wr.drew.setCells blk (off+(q)*k) (enc dk[q+1]!)).setCells blk (off+(q+1)*k) (enc dk[q]!))):=S1.out.swapped R (q) (q+1) zo zo;have l19a:=S1.out.ld1 R zo P (q) zo;have l19b:=S1.out.ld1 R zo P (q+1) zo;have s19a:=S1.out.st1 R zo P (q) zo dk[q+1]!;have s19b:=S1.out.st2 R zo P (q) (q+1) zo zo dk[q+1]! dk[q]!;have n19a:(enc dk[q]!).length=k:=R.hk _;have n19b:(enc dk[q+1]!).length=k:=R.hk _;generalize enc dk[q]! = cI19 at S4 l19a s19b n19a
     generalize enc dk[q+1]! = cJ19 at S4 l19b s19a s19b n19b
     clear S1;go_wp2_with fail
     go_big_region_o
     clear l19a l19b s19a s19b;generalize (wr.drew.setCells blk (off+(q)*k) cJ19).setCells blk (off+(q+1)*k) cI19=w4 at S4 ⊢
     go_wp2
     go_roundg (i-1-(q+1))
     case measure=>omega
     case rel =>
      have H2:Aside (Moved (upIdx a (q+1)) d (swp dk q (q+1))∧PermIn a b d (swp dk q (q+1))):=(⟨HM.out.1.up zo zo,permIn_trans _ _ _ _ _ HM.out.2 (swp_permIn dk a b q (q+1) zo zo zo zo zo)⟩:Moved (upIdx a (q+1)) d (swp dk q (q+1))∧PermIn a b d (swp dk q (q+1)));exact⟨q+1,swp dk q (q+1),by first | rfl | go_num | (congr 1;omega),zo,zo,aA _,by rw[size_swp];exact hds,S4,H2⟩
    ·have hqz:¬(q:Int)<(i:Int)-1:=zo;have hqz':¬(q:Int)+1<(i:Int):=zo;obtain rfl:q=i-1:=zo;go_wp2_with fail
     (try simp only[Exit.inBlock,Exit.then])
     refine bodyPost_ret (results_none rfl _ _ _) rfl ?_;exact⟨rfl,dk,HM.out.2,sym_up hO zo zo (by have:=hr.out;rwa [HM0.out] at this) (by have:=HR.out.1;rwa [HM0.out] at this) HR.out.2 HM.out.1,S1.out⟩
theorem symRight_q (L:StLays P k) (enc:α→List Value) (g:Nat) (cb:Array Value) (blk off cap N:Nat) (d0 d:Array α) (w0 w:World) (R:RowK enc k w0 blk off d0) (hs0:d0.size=N) (hs:d.size=N) (S:SWK enc k w0 blk off d w) (hsz:N<4611686018427387904) (cf:α→α→Int) (eg:∀args w,(callFunc g args).run P w=.ok (.enter g args) w) (hcmp:CmpLays P g cb enc k cf blk off N w0) (hO:SWO (ltOf cf)) (a m b:Nat) (hm:b=m+1) (ham:a<m) (ham1:m≠a+1) (hb:b≤N) (hl:Hid (SortedIn (ltOf cf) a m d)) :
  Calls P 132 #[.slice (some ⟨blk,off,none⟩) N cap,.int .i64 a,.int .i64 m,.int .i64 b,.func (.func g) #[] cb] w (SortedW enc k w0 blk off (ltOf cf) a b d):=by
 have mixed:=L.mixed;have tI:=L.tI;have aI:=L.aI;have zI:=L.zI;have vI:=L.vI;have tB:=L.tB;have aB:=L.aB;have zB:=L.zB;have vB:=L.vB;have tU:=L.tU;have aU:=L.aU;have zU:=L.zU;have vU:=L.vU;have tS:=L.tS;have aS:=L.aS;have zS:=L.zS;have vS:=L.vS;have aE:=L.aE;have zE:=L.zE;have c1:=L.c1;have c2:=L.c2;have c3:=L.c3;have c4:=L.c4;have c5:=L.c5;have uI:=run_underlying L.tI;have uB:=run_underlying L.tB;have uU:=run_underlying L.tU;have uS:=run_underlying L.tS;have S0:Aside (SWK enc k w0 blk off d w):=S;clear S;have HC:Aside (CmpLays P g cb enc k cf blk off N w0):=hcmp;clear hcmp;have t1:((m:Int)-(a:Int)==1)=false:=by simp;omega
 have t2:((b:Int)-(m:Int)==1)=true:=by simp;omega
 have HM0:=Lib.hid hm;have hm':b≤m+1∧m+1≤b:=zo;clear hm;go_enter L.f4,Tryz.ntmps132
 go_wp2_with fail
 go_loopg [14,15] (m-a) (fun kx s1 s2 wr=>∃(i j:Nat),s1=.int .i64 i∧s2=.int .i64 j∧a≤i∧i≤j∧j≤m∧j-i≤kx∧Aside (SWK enc k w0 blk off d wr)∧Aside ((∀x,a≤x→x<i→ltOf cf d[m]! d[x]! = false)∧(∀x,j≤x→x<m→ltOf cf d[m]! d[x]! = true)))
 case atStart =>
  have H0:Aside ((∀x,a≤x→x<a→ltOf cf d[m]! d[x]! = false)∧(∀x,m≤x→x<m→ltOf cf d[m]! d[x]! = true)):=(⟨fun x h1 h2=>by omega,fun x h1 h2=>by omega⟩:(∀x,a≤x→x<a→ltOf cf d[m]! d[x]! = false)∧(∀x,m≤x→x<m→ltOf cf d[m]! d[x]! = true));exact⟨a,m,rfl,rfl,aA _,zo,aA _,aA _,S0,H0⟩
 case round =>
  clear S0;obtain⟨i,j,rfl,rfl,hi,hij,hj,hkx,S1,HR⟩:=hrel;by_cases hlt:i<j
  ·have hltz:(i:Int)<(j:Int):=zo;go_wp2_with fail
   cases hL:ltOf cf d[m]! d[(i+j) / 2]! with
   | true =>
    have e23:((m:Int)).toNat=m:=zo;have p23:(0:Int)≤(m:Int):=zo;have b23:(m:Int)<(N:Int):=zo;have r23:IntKind.i64.wrap ((m:Int))=(m:Int):=by rw[IntKind.wrap_i64];omega
    have e24:(((i:Int)+(j:Int)) / 2).toNat=(i+j) / 2:=zo;have p24:(0:Int)≤((i:Int)+(j:Int)) / 2:=zo;have b24:((i:Int)+(j:Int)) / 2<(N:Int):=zo;have r24:IntKind.i64.wrap (((i:Int)+(j:Int)) / 2)=((i:Int)+(j:Int)) / 2:=by rw[IntKind.wrap_i64];omega
    obtain⟨x22,hx22⟩:∃x,x=d[m]!:=⟨_,rfl⟩;obtain⟨y22,hy22⟩:∃x,x=d[(i+j) / 2]!:=⟨_,rfl⟩;have l22a:=S1.out.ld R zo P (m) zo;have l22b:=S1.out.ld R zo P ((i+j) / 2) zo;rw[←hx22] at l22a;rw[←hy22] at l22b;have hc22:=S1.out.cmp HC.out zo x22 y22;have hv22:cf x22 y22<0:=by rw[hx22,hy22];exact of_decide_eq_true hL
    have hd22:decide (cf x22 y22<0)=true:=jA hv22;clear hx22 hy22;go_wp2_with fail
    go_quiet_grown (first | (go_at_fn g;refine Calls.grown_of (hc22 _ _)))
    have S2:Aside (SWK enc k w0 blk off d (grow (wr.drewN nq) osq)):=S1.out.grown nq osq;clear l22a l22b hc22 S1;generalize grow (wr.drewN nq) osq=w2 at S2 ⊢
    clear nq osq;go_wp2
    go_roundg ((i+j) / 2-i)
    case measure=>omega
    case rel =>
     have H2:Aside ((∀x,a≤x→x<i→ltOf cf d[m]! d[x]! = false)∧(∀x,(i+j) / 2≤x→x<m→ltOf cf d[m]! d[x]! = true)):=(⟨fun x h1 h2=>HR.out.1 x h1 h2,fun x h1 h2=>((eB ((i+j) / 2) x).elim (fun h3=>SWO.lt_le hO hL (hl.out _ x zo h3 h2)) (fun h3=>by obtain rfl:x=(i+j) / 2:=zo;exact hL))⟩:(∀x,a≤x→x<i→ltOf cf d[m]! d[x]! = false)∧(∀x,(i+j) / 2≤x→x<m→ltOf cf d[m]! d[x]! = true));exact⟨i,(i+j) / 2,by first | rfl | (congr 1;omega),by first | rfl | (congr 1;omega),zo,zo,zo,aA _,S2,H2⟩
   | false =>
    have e26:((m:Int)).toNat=m:=zo;have p26:(0:Int)≤(m:Int):=zo;have b26:(m:Int)<(N:Int):=zo;have r26:IntKind.i64.wrap ((m:Int))=(m:Int):=by rw[IntKind.wrap_i64];omega
    have e27:(((i:Int)+(j:Int)) / 2).toNat=(i+j) / 2:=zo;have p27:(0:Int)≤((i:Int)+(j:Int)) / 2:=zo;have b27:((i:Int)+(j:Int)) / 2<(N:Int):=zo;have r27:IntKind.i64.wrap (((i:Int)+(j:Int)) / 2)=((i:Int)+(j:Int)) / 2:=by rw[IntKind.wrap_i64];omega
    obtain⟨x25,hx25⟩:∃x,x=d[m]!:=⟨_,rfl⟩;obtain⟨y25,hy25⟩:∃x,x=d[(i+j) / 2]!:=⟨_,rfl⟩;have l25a:=S1.out.ld R zo P (m) zo;have l25b:=S1.out.ld R zo P ((i+j) / 2) zo;rw[←hx25] at l25a;rw[←hy25] at l25b;have hc25:=S1.out.cmp HC.out zo x25 y25;have hv25:¬cf x25 y25<0:=by rw[hx25,hy25];exact of_decide_eq_false hL
    have hd25:decide (cf x25 y25<0)=false:=yA hv25;clear hx25 hy25;go_wp2_with fail
    go_quiet_grown (first | (go_at_fn g;refine Calls.grown_of (hc25 _ _)))
    have S2:Aside (SWK enc k w0 blk off d (grow (wr.drewN nq) osq)):=S1.out.grown nq osq;clear l25a l25b hc25 S1;generalize grow (wr.drewN nq) osq=w2 at S2 ⊢
    clear nq osq;go_wp2
    go_roundg (j-((i+j) / 2+1))
    case measure=>omega
    case rel =>
     have H2:Aside ((∀x,a≤x→x<(i+j) / 2+1→ltOf cf d[m]! d[x]! = false)∧(∀x,j≤x→x<m→ltOf cf d[m]! d[x]! = true)):=(⟨fun x h1 h2=>((eB x ((i+j) / 2)).elim (fun h3=>hO.ntrans _ _ _ hL (hl.out x _ h1 h3 zo)) (fun h3=>by obtain rfl:x=(i+j) / 2:=zo;exact hL)),fun x h1 h2=>HR.out.2 x h1 h2⟩:(∀x,a≤x→x<(i+j) / 2+1→ltOf cf d[m]! d[x]! = false)∧(∀x,j≤x→x<m→ltOf cf d[m]! d[x]! = true));exact⟨(i+j) / 2+1,j,by first | rfl | (congr 1;omega),by first | rfl | (congr 1;omega),zo,zo,zo,aA _,S2,H2⟩
  ·have hltz:¬(i:Int)<(j:Int):=zo;obtain rfl:i=j:=zo;go_wp2_with fail
   go_loopg [17] N (fun kx s1 wr=>∃(q:Nat) (dk:Array α),s1=.int .i64 q∧i≤q∧q≤m∧q-i≤kx∧dk.size=N∧Aside (SWK enc k w0 blk off dk wr)∧Aside (Moved (downIdx m q) d dk∧PermIn a b d dk))
   case atStart =>
    have H0:Aside (Moved (downIdx m m) d d∧PermIn a b d d):=(⟨(Moved.refl d).congr fun x=>(downIdx_self m x).symm,permIn_refl _ _ _⟩:Moved (downIdx m m) d d∧PermIn a b d d);exact⟨m,d,rfl,zo,zo,zo,hs,S1,H0⟩
   case round =>
    clear S1;obtain⟨q,dk,rfl,hq1,hq2,hkq,hds,S1,HM⟩:=hrel;by_cases hq:i<q
    ·have hqz:(i:Int)<(q:Int):=zo;obtain⟨qp,rfl⟩:∃qp,q=qp+1:=⟨q-1,zo⟩;have hqz2:(i:Int)<(qp:Int)+1:=zo;go_wp2_with fail
     have e29:((qp:Int)+1).toNat=qp+1:=zo;have p29:(0:Int)≤(qp:Int)+1:=zo;have b29:(qp:Int)+1<(N:Int):=zo;have r29:IntKind.i64.wrap ((qp:Int)+1)=(qp:Int)+1:=by rw[IntKind.wrap_i64];omega
     have e30:((qp:Int)).toNat=qp:=zo;have p30:(0:Int)≤(qp:Int):=zo;have b30:(qp:Int)<(N:Int):=zo;have r30:IntKind.i64.wrap ((qp:Int))=(qp:Int):=by rw[IntKind.wrap_i64];omega
     have S4:Aside (SWK enc k w0 blk off (swp dk (qp+1) (qp)) ((wr.drew.setCells blk (off+(qp+1)*k) (enc dk[qp]!)).setCells blk (off+(qp)*k) (enc dk[qp+1]!))):=S1.out.swapped R (qp+1) (qp) zo zo;have l28a:=S1.out.ld1 R zo P (qp+1) zo;have l28b:=S1.out.ld1 R zo P (qp) zo;have s28a:=S1.out.st1 R zo P (qp+1) zo dk[qp]!;have s28b:=S1.out.st2 R zo P (qp+1) (qp) zo zo dk[qp]! dk[qp+1]!;have n28a:(enc dk[qp+1]!).length=k:=R.hk _;have n28b:(enc dk[qp]!).length=k:=R.hk _;generalize enc dk[qp+1]! = cI28 at S4 l28a s28b n28a
     generalize enc dk[qp]! = cJ28 at S4 l28b s28a s28b n28b
     clear S1;go_wp2_with fail
     go_big_region_o
     clear l28a l28b s28a s28b;generalize (wr.drew.setCells blk (off+(qp+1)*k) cJ28).setCells blk (off+(qp)*k) cI28=w4 at S4 ⊢
     go_wp2
     go_roundg (qp-i)
     case measure=>omega
     case rel =>
      have H2:Aside (Moved (downIdx m (qp)) d (swp dk (qp+1) qp)∧PermIn a b d (swp dk (qp+1) qp)):=(⟨HM.out.1.down zo zo,permIn_trans _ _ _ _ _ HM.out.2 (swp_permIn dk a b (qp+1) qp zo zo zo zo zo)⟩:Moved (downIdx m (qp)) d (swp dk (qp+1) qp)∧PermIn a b d (swp dk (qp+1) qp));exact⟨qp,swp dk (qp+1) qp,by first | rfl | go_num | (congr 1;omega),zo,zo,aA _,by rw[size_swp];exact hds,S4,H2⟩
    ·have hqz:¬(i:Int)<(q:Int):=zo;obtain rfl:q=i:=zo;go_wp2_with fail
     (try simp only[Exit.inBlock,Exit.then])
     refine bodyPost_ret (results_none rfl _ _ _) rfl ?_;exact⟨rfl,dk,HM.out.2,by have:=sym_down hO zo zo hl.out HR.out.1 HR.out.2 HM.out.1;rwa [←HM0.out] at this,S1.out⟩
end Go.Proofs.YtiondclbdgijbaaGreatDoor
