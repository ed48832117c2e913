import Derived.Test.YteggjbgbknkoiaaGreatDoorUVn
import Derived.Shelf.SlSortCmp.KitK
import Derived.Sort.WalkB2
import Derived.Sort.WalkB12
import Derived.Sort.LotA
import Derived.Deep.LoopGhost
import Derived.IntWalk
import Derived.Lib.Hide
import Derived.Test.YteggjbgbknkoiaaGreatDoorProg
set_option maxHeartbeats 16000000
set_option maxRecDepth 1000000
namespace Go.Proofs.YteggjbgbknkoiaaGreatDoor
open Go.Shelf Go.RowKit Go.Lib Go.Sort
variable {P:Program} {α:Type} [Inhabited α] {k:Nat}
structure StLays (P:Program) (k:Nat):Prop where
 mixed:P.follows .mixedOrders=true
 tI:P.underlying 3=some (.int .i64)
 aI:∀w,(isAgg 3).run P w=.ok false w
 zI:∀w,(Go.sizeOf 3).run P w=.ok 1 w
 vI:∀w,(zeroValue 3).run P w=.ok (.int .i64 0) w
 tB:P.underlying 4=some .bool
 aB:∀w,(isAgg 4).run P w=.ok false w
 zB:∀w,(Go.sizeOf 4).run P w=.ok 1 w
 vB:∀w,(zeroValue 4).run P w=.ok (.bool false) w
 tU:P.underlying 150=some (.int .u64)
 aU:∀w,(isAgg 150).run P w=.ok false w
 zU:∀w,(Go.sizeOf 150).run P w=.ok 1 w
 vU:∀w,(zeroValue 150).run P w=.ok (.int .u64 0) w
 tS:P.underlying 34=some (.slice 32)
 aS:∀w,(isAgg 34).run P w=.ok false w
 zS:∀w,(Go.sizeOf 34).run P w=.ok 1 w
 vS:∀w,(zeroValue 34).run P w=.ok (.slice none 0 0) w
 aE:∀w,(isAgg 32).run P w=.ok true w
 zE:∀w,(Go.sizeOf 32).run P w=.ok k w
 f1:P.funcs[193]?=some Tryz.f193
 f2:P.funcs[173]?=some Tryz.f173
 f3:P.funcs[142]?=some Tryz.f142
 f4:P.funcs[143]?=some Tryz.f143
 f5:P.funcs[103]?=some Tryz.f103
 c1:∀args w,(callFunc 193 args).run P w=.ok (.enter 193 args) w
 c2:∀args w,(callFunc 173 args).run P w=.ok (.enter 173 args) w
 c3:∀args w,(callFunc 142 args).run P w=.ok (.enter 142 args) w
 c4:∀args w,(callFunc 143 args).run P w=.ok (.enter 143 args) w
 c5:∀args w,(callFunc 103 args).run P w=.ok (.enter 103 args) w
def SortedW (enc:α→List Value) (k:Nat) (w0:World) (blk off:Nat) (lt:α→α→Bool) (lo hi:Nat) (d:Array α) (e:Ending) (w':World):Prop :=
 e=.returned (.tuple #[])∧∃d':Array α,PermIn lo hi d d'∧SortedIn lt lo hi d'∧SWK enc k w0 blk off d' w'
theorem insertion_q (L:StLays P k) (enc:α→List Value) (g:Nat) (cb:Array Value) (blk off cap N:Nat) (d0 d:Array α) (w0 w:World) (R:RowK enc k w0 blk off d0) (hs0:d0.size=N) (hs:d.size=N) (S:SWK enc k w0 blk off d w) (hsz:N<4611686018427387904) (cf:α→α→Int) (eg:∀args w,(callFunc g args).run P w=.ok (.enter g args) w) (hcmp:CmpLays P g cb enc k cf blk off N w0) (hO:SWO (ltOf cf)) (a b:Nat) (hab:a≤b) (hb:b≤N) :
  Calls P 142 #[.slice (some ⟨blk,off,none⟩) N cap,.int .i64 a,.int .i64 b,.func (.func g) #[] cb] w (SortedW enc k w0 blk off (ltOf cf) a b d):=by
 have mixed:=L.mixed;have tI:=L.tI;have aI:=L.aI;have zI:=L.zI;have vI:=L.vI;have tB:=L.tB;have aB:=L.aB;have zB:=L.zB;have vB:=L.vB;have tU:=L.tU;have aU:=L.aU;have zU:=L.zU;have vU:=L.vU;have tS:=L.tS;have aS:=L.aS;have zS:=L.zS;have vS:=L.vS;have aE:=L.aE;have zE:=L.zE;have c1:=L.c1;have c2:=L.c2;have c3:=L.c3;have c4:=L.c4;have c5:=L.c5;have uI:=run_underlying L.tI;have uB:=run_underlying L.tB;have uU:=run_underlying L.tU;have uS:=run_underlying L.tS;have S0:Aside (SWK enc k w0 blk off d w):=S;clear S;have HC:Aside (CmpLays P g cb enc k cf blk off N w0):=hcmp;clear hcmp;go_enter L.f3,Tryz.ntmps142
 go_wp2
 go_loopg [8] (b-a) (fun g1 vi wr=>∃(i:Nat) (dk:Array α),vi=.int .i64 i∧a<i∧i≤b+1∧b+1-i≤g1+1∧dk.size=N∧Aside (SWK enc k w0 blk off dk wr)∧Aside (insOuter (ltOf cf) a b i dk=insOuter (ltOf cf) a b (a+1) d))
 case atStart =>
  have H0:Aside (insOuter (ltOf cf) a b (a+1) d=insOuter (ltOf cf) a b (a+1) d):=(rfl:insOuter (ltOf cf) a b (a+1) d=insOuter (ltOf cf) a b (a+1) d);exact⟨a+1,d,by go_num,zo,zo,zo,hs,S0,H0⟩
 case round =>
  clear S0;obtain⟨i,dk,rfl,hai,hib,hg1,hsk,S1,HO⟩:=hrel;by_cases hlt:i<b
  ·have hltz:(i:Int)<(b:Int):=zo;go_wp2
   go_loopg [9] i (fun g2 vj wr=>∃(j:Nat) (dj:Array α),vj=.int .i64 j∧a≤j∧j≤i∧j≤g2∧dj.size=N∧Aside (SWK enc k w0 blk off dj wr)∧Aside (insInner (ltOf cf) a j dj=insInner (ltOf cf) a i dk))
   case atStart =>
    have H0:Aside (insInner (ltOf cf) a i dk=insInner (ltOf cf) a i dk):=(rfl:insInner (ltOf cf) a i dk=insInner (ltOf cf) a i dk);exact⟨i,dk,rfl,zo,cA _,cA _,hsk,S1,H0⟩
   case round =>
    clear S1;obtain⟨j,dj,rfl,haj,hji,hg2,hsj,S2,HI⟩:=hrel;have out:(j≤a∨ltOf cf dj[j]! dj[j-1]! = false)→insOuter (ltOf cf) a b (i+1) dj=insOuter (ltOf cf) a b (a+1) d:=fun hq=>by
     rw[←HO.out,insOuter_go _ _ _ _ _ hlt,←HI.out,insInner_stop _ _ _ _ hq]
    have OUT:Aside ((j≤a∨ltOf cf dj[j]! dj[j-1]! = false)→insOuter (ltOf cf) a b (i+1) dj=insOuter (ltOf cf) a b (a+1) d):=out;clear out;by_cases hja:a<j
    ·obtain⟨jp,rfl⟩:∃jp,j=jp+1:=⟨j-1,zo⟩;have hjaz:(a:Int)<(jp:Int)+1:=zo;have hjd:decide ((a:Int)<(jp:Int)+1)=true:=fC hjaz;cases hL:ltOf cf dj[jp+1]! dj[jp]! with
     | true =>
      have e5:((jp:Int)+1).toNat=jp+1:=zo;have p5:(0:Int)≤(jp:Int)+1:=zo;have b5:(jp:Int)+1<(N:Int):=zo;have r5:IntKind.i64.wrap ((jp:Int)+1)=(jp:Int)+1:=by rw[IntKind.wrap_i64];omega
      have e6:((jp:Int)).toNat=jp:=zo;have p6:(0:Int)≤(jp:Int):=zo;have b6:(jp:Int)<(N:Int):=zo;have r6:IntKind.i64.wrap ((jp:Int))=(jp:Int):=by rw[IntKind.wrap_i64];omega
      obtain⟨x4,hx4⟩:∃x,x=dj[jp+1]!:=⟨_,rfl⟩;obtain⟨y4,hy4⟩:∃x,x=dj[jp]!:=⟨_,rfl⟩;have l4a:=S2.out.ld R zo P (jp+1) zo;have l4b:=S2.out.ld R zo P (jp) zo;rw[←hx4] at l4a;rw[←hy4] at l4b;have hc4:=S2.out.cmp HC.out zo x4 y4;have hv4:cf x4 y4<0:=by rw[hx4,hy4];exact of_decide_eq_true hL
      have hd4:decide (cf x4 y4<0)=true:=fC hv4;clear hx4 hy4;go_wp2_with fail
      go_quiet_grown (first | (go_at_fn g;refine Calls.grown_of (hc4 _ _)))
      have S3:Aside (SWK enc k w0 blk off dj (grow (wr.drewN nq) osq)):=S2.out.grown nq osq;clear l4a l4b hc4 S2;generalize grow (wr.drewN nq) osq=w3 at S3 ⊢
      clear nq osq;go_wp2_with fail
      have e8:((jp:Int)+1).toNat=jp+1:=zo;have p8:(0:Int)≤(jp:Int)+1:=zo;have b8:(jp:Int)+1<(N:Int):=zo;have r8:IntKind.i64.wrap ((jp:Int)+1)=(jp:Int)+1:=by rw[IntKind.wrap_i64];omega
      have e9:((jp:Int)).toNat=jp:=zo;have p9:(0:Int)≤(jp:Int):=zo;have b9:(jp:Int)<(N:Int):=zo;have r9:IntKind.i64.wrap ((jp:Int))=(jp:Int):=by rw[IntKind.wrap_i64];omega
      have S4:Aside (SWK enc k w0 blk off (swp dj (jp+1) (jp)) ((w3.drew.setCells blk (off+(jp+1)*k) (enc dj[jp]!)).setCells blk (off+(jp)*k) (enc dj[jp+1]!))):=S3.out.swapped R (jp+1) (jp) zo zo;have l7a:=S3.out.ld1 R zo P (jp+1) zo;have l7b:=S3.out.ld1 R zo P (jp) zo;have s7a:=S3.out.st1 R zo P (jp+1) zo dj[jp]!;have s7b:=S3.out.st2 R zo P (jp+1) (jp) zo zo dj[jp]! dj[jp+1]!;have n7a:(enc dj[jp+1]!).length=k:=R.hk _;have n7b:(enc dj[jp]!).length=k:=R.hk _;generalize enc dj[jp+1]! = cI7 at S4 l7a s7b n7a
      generalize enc dj[jp]! = cJ7 at S4 l7b s7a s7b n7b
      clear S3;go_wp2_with fail
      go_big_region_o
      clear l7a l7b s7a s7b;generalize (w3.drew.setCells blk (off+(jp+1)*k) cJ7).setCells blk (off+(jp)*k) cI7=w4 at S4 ⊢
      go_wp2
      go_roundg jp
      case measure=>omega
      case rel =>
       have hgo:=insInner_go (ltOf cf) a (jp+1) dj hja (by simpa only[bE] using hL);simp only[bE] at hgo
       have H2:Aside (insInner (ltOf cf) a jp (swp dj (jp+1) jp)=insInner (ltOf cf) a i dk):=(hgo.symm.trans HI.out:insInner (ltOf cf) a jp (swp dj (jp+1) jp)=insInner (ltOf cf) a i dk);exact⟨jp,swp dj (jp+1) jp,by first | rfl | go_num | (congr 1;omega),zo,zo,cA _,by rw[size_swp];exact hsj,S4,H2⟩
     | false =>
      have e11:((jp:Int)+1).toNat=jp+1:=zo;have p11:(0:Int)≤(jp:Int)+1:=zo;have b11:(jp:Int)+1<(N:Int):=zo;have r11:IntKind.i64.wrap ((jp:Int)+1)=(jp:Int)+1:=by rw[IntKind.wrap_i64];omega
      have e12:((jp:Int)).toNat=jp:=zo;have p12:(0:Int)≤(jp:Int):=zo;have b12:(jp:Int)<(N:Int):=zo;have r12:IntKind.i64.wrap ((jp:Int))=(jp:Int):=by rw[IntKind.wrap_i64];omega
      obtain⟨x10,hx10⟩:∃x,x=dj[jp+1]!:=⟨_,rfl⟩;obtain⟨y10,hy10⟩:∃x,x=dj[jp]!:=⟨_,rfl⟩;have l10a:=S2.out.ld R zo P (jp+1) zo;have l10b:=S2.out.ld R zo P (jp) zo;rw[←hx10] at l10a;rw[←hy10] at l10b;have hc10:=S2.out.cmp HC.out zo x10 y10;have hv10:¬cf x10 y10<0:=by rw[hx10,hy10];exact of_decide_eq_false hL
      have hd10:decide (cf x10 y10<0)=false:=jB hv10;clear hx10 hy10;go_wp2_with fail
      go_quiet_grown (first | (go_at_fn g;refine Calls.grown_of (hc10 _ _)))
      have S3:Aside (SWK enc k w0 blk off dj (grow (wr.drewN nq) osq)):=S2.out.grown nq osq;clear l10a l10b hc10 S2;generalize grow (wr.drewN nq) osq=w3 at S3 ⊢
      clear nq osq;go_wp2
      go_roundg (b-(i+1))
      case measure=>omega
      case rel =>
       have H2:Aside (insOuter (ltOf cf) a b (i+1) dj=insOuter (ltOf cf) a b (a+1) d):=OUT.out (Or.inr (by simpa only[bE] using hL));exact⟨i+1,dj,by go_num,zo,zo,zo,hsj,S3,H2⟩
    ·have hjaz:decide ((j:Int) > (a:Int))=false:=jB zo;have hjaz':¬(a:Int)<(j:Int):=zo;have S3:Aside (SWK enc k w0 blk off dj wr.drew):=S2.out.drew;clear S2;go_wp2_with fail
     go_big_region_o
     generalize wr.drew=w3 at S3 ⊢
     go_wp2
     go_roundg (b-(i+1))
     case measure=>omega
     case rel =>
      have H2:Aside (insOuter (ltOf cf) a b (i+1) dj=insOuter (ltOf cf) a b (a+1) d):=OUT.out (Or.inl zo);exact⟨i+1,dj,by go_num,zo,zo,zo,hsj,S3,H2⟩
  ·have hltz:¬(i:Int)<(b:Int):=zo;go_wp2
   go_end0
   have hst:=insOuter_stop (ltOf cf) a b i dk hlt;have hins:=insertionSort_holds (lt:=ltOf cf) hO d a b hab zo;have e:Sort.insertionSort (ltOf cf) d a b=dk:=by unfold Sort.insertionSort;rw[←HO.out,hst]
   rw[e] at hins;exact⟨rfl,dk,hins.1,hins.2,S1.out⟩
end Go.Proofs.YteggjbgbknkoiaaGreatDoor
