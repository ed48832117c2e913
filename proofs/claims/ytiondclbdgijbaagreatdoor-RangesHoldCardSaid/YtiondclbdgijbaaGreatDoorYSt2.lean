import Derived.Test.YtiondclbdgijbaaGreatDoorYSt1
import Derived.Deep.DeepCutAuto
set_option maxHeartbeats 16000000
set_option maxRecDepth 1000000
namespace Go.Proofs.YtiondclbdgijbaaGreatDoor
open Go.Shelf Go.RowKit Go.Lib Go.Sort
variable {P:Program} {α:Type} [Inhabited α] {k:Nat}
def SymOk (P:Program) (enc:α→List Value) (k g:Nat) (cb:Array Value) (blk off cap N:Nat) (w0:World) (cf:α→α→Int) (n:Nat):Prop :=
 ∀(a m b:Nat) (d:Array α) (w:World),b-a≤n→a<m→m<b→b≤N→d.size=N→SWK enc k w0 blk off d w→SortedIn (ltOf cf) a m d→SortedIn (ltOf cf) m b d→
  Calls P 132 #[.slice (some ⟨blk,off,none⟩) N cap,.int .i64 a,.int .i64 m,.int .i64 b,.func (.func g) #[] cb] w (SortedW enc k w0 blk off (ltOf cf) a b d)
theorem SymOk.go {enc:α→List Value} {g:Nat} {cb:Array Value} {blk off cap N:Nat} {w0:World} {cf:α→α→Int} {n:Nat} (h:SymOk P enc k g cb blk off cap N w0 cf n) (a m b:Nat) (d:Array α) (w:World) (h1:b-a≤n) (h2:a<m) (h3:m<b) (h4:b≤N)
  (h5:d.size=N) (h6:SWK enc k w0 blk off d w) (h7:SortedIn (ltOf cf) a m d) (h8:SortedIn (ltOf cf) m b d):Calls P 132 #[.slice (some ⟨blk,off,none⟩) N cap,.int .i64 a,.int .i64 m,.int .i64 b,.func (.func g) #[] cb] w (SortedW enc k w0 blk off (ltOf cf) a b d):=h a m b d w h1 h2 h3 h4 h5 h6 h7 h8
theorem SortedIn.kept {lt:α→α→Bool} {d d':Array α} {a m lo hi:Nat} (p:PermIn a m d d') (h:m≤lo) (hs:SortedIn lt lo hi d):SortedIn lt lo hi d':=fun i j h1 h2 h3=>by
 rw[p.2.1 i (.inr zo),p.2.1 j (.inr zo)];exact hs i j h1 h2 h3
theorem symRestA_q (L:StLays P k) (enc:α→List Value) (g:Nat) (cb:Array Value) (blk off cap N:Nat) (d0 d:Array α) (w0 w:World) (R:RowK enc k w0 blk off d0) (hs0:d0.size=N) (hs:d.size=N) (S:SWK enc k w0 blk off d w) (hsz:N<4611686018427387904) (cf:α→α→Int) (eg:∀args w,(callFunc g args).run P w=.ok (.enter g args) w) (hcmp:CmpLays P g cb enc k cf blk off N w0) (hO:SWO (ltOf cf)) (a m b mid:Nat) (ham:a<m) (hmb:m<b) (ham1:m≠a+1) (hmb1:b≠m+1) (hb:b≤N) (hmid:mid=(a+b) / 2) (hl:Hid (SortedIn (ltOf cf) a m d)) (hr:Hid (SortedIn (ltOf cf) m b d)) (hI:Hid (SymOk P enc k g cb blk off cap N w0 cf (b-a-1))) (hlt:mid<m) :
  Calls P 132 #[.slice (some ⟨blk,off,none⟩) N cap,.int .i64 a,.int .i64 m,.int .i64 b,.func (.func g) #[] cb] w (SortedW enc k w0 blk off (ltOf cf) a b d):=by
 have mixed:=L.mixed;have tI:=L.tI;have aI:=L.aI;have zI:=L.zI;have vI:=L.vI;have tB:=L.tB;have aB:=L.aB;have zB:=L.zB;have vB:=L.vB;have tU:=L.tU;have aU:=L.aU;have zU:=L.zU;have vU:=L.vU;have tS:=L.tS;have aS:=L.aS;have zS:=L.zS;have vS:=L.vS;have aE:=L.aE;have zE:=L.zE;have c1:=L.c1;have c2:=L.c2;have c3:=L.c3;have c4:=L.c4;have c5:=L.c5;have uI:=run_underlying L.tI;have uB:=run_underlying L.tB;have uU:=run_underlying L.tU;have uS:=run_underlying L.tS;have S0:Aside (SWK enc k w0 blk off d w):=S;clear S;have HC:Aside (CmpLays P g cb enc k cf blk off N w0):=hcmp;clear hcmp;have t1:((m:Int)-(a:Int)==1)=false:=by simp;omega
 have t2:((b:Int)-(m:Int)==1)=false:=by simp;omega
 have eM:((a:Int)+(b:Int)) / 2=(mid:Int):=zo;have t3:(mid:Int)<(m:Int):=zo;have HMID:=Lib.hid hmid;have hmm:2*mid≤a+b∧a+b≤2*mid+1:=zo;clear hmid;go_enter L.f4,Tryz.ntmps132
 go_wp2_with fail
 go_loopg [20,21] (mid-(mid+m-b)) (fun kx s1 s2 wr=>∃(s r:Nat),s1=.int .i64 s∧s2=.int .i64 r∧mid+m-b≤s∧s≤r∧r≤mid∧r-s≤kx∧Aside (SWK enc k w0 blk off d wr)∧Aside ((s=mid+m-b∨ltOf cf d[mid+m-(s)]! d[s-1]! = false)∧(r=mid∨ltOf cf d[mid+m-1-(r)]! d[r]! = true)))
 case atStart =>
  have H0:Aside (((mid+m-b)=mid+m-b∨ltOf cf d[mid+m-((mid+m-b))]! d[(mid+m-b)-1]! = false)∧(mid=mid∨ltOf cf d[mid+m-1-(mid)]! d[mid]! = true)):=(⟨.inl rfl,.inl rfl⟩:((mid+m-b)=mid+m-b∨ltOf cf d[mid+m-((mid+m-b))]! d[(mid+m-b)-1]! = false)∧(mid=mid∨ltOf cf d[mid+m-1-(mid)]! d[mid]! = true));exact⟨mid+m-b,mid,by first | rfl | (congr 1;omega),by first | rfl | (congr 1;omega),aA _,zo,aA _,aA _,S0,H0⟩
 case round =>
  clear S0;obtain⟨s,r,rfl,rfl,h1,h2,h3,hkx,S1,HI⟩:=hrel;by_cases hlt:s<r
  ·have hltz:(s:Int)<(r:Int):=zo;go_wp2_with fail
   obtain⟨pc,hpc⟩:∃pc,pc=mid+m-1-(s+r) / 2:=⟨_,rfl⟩;have HPC:=Lib.hid hpc;have eP:(mid:Int)+(m:Int)-1-((s:Int)+(r:Int)) / 2=(pc:Int):=zo;have hpb:pc<N:=zo;clear hpc;cases hL:ltOf cf d[pc]! d[(s+r) / 2]! with
   | true =>
    have e32:((pc:Int)).toNat=pc:=zo;have p32:(0:Int)≤(pc:Int):=zo;have b32:(pc:Int)<(N:Int):=zo;have r32:IntKind.i64.wrap ((pc:Int))=(pc:Int):=by rw[IntKind.wrap_i64];omega
    have e33:(((s:Int)+(r:Int)) / 2).toNat=(s+r) / 2:=zo;have p33:(0:Int)≤((s:Int)+(r:Int)) / 2:=zo;have b33:((s:Int)+(r:Int)) / 2<(N:Int):=zo;have r33:IntKind.i64.wrap (((s:Int)+(r:Int)) / 2)=((s:Int)+(r:Int)) / 2:=by rw[IntKind.wrap_i64];omega
    obtain⟨x31,hx31⟩:∃x,x=d[pc]!:=⟨_,rfl⟩;obtain⟨y31,hy31⟩:∃x,x=d[(s+r) / 2]!:=⟨_,rfl⟩;have l31a:=S1.out.ld R zo P (pc) zo;have l31b:=S1.out.ld R zo P ((s+r) / 2) zo;rw[←hx31] at l31a;rw[←hy31] at l31b;have hc31:=S1.out.cmp HC.out zo x31 y31;have hv31:cf x31 y31<0:=by rw[hx31,hy31];exact of_decide_eq_true hL
    have hd31:decide (cf x31 y31<0)=true:=jA hv31;clear hx31 hy31;go_wp2_with fail
    go_quiet_grown (first | (go_at_fn g;refine Calls.grown_of (hc31 _ _)))
    have S2:Aside (SWK enc k w0 blk off d (grow (wr.drewN nq) osq)):=S1.out.grown nq osq;clear l31a l31b hc31 S1;generalize grow (wr.drewN nq) osq=w2 at S2 ⊢
    clear nq osq;go_wp2
    go_roundg ((s+r) / 2-s)
    case measure=>omega
    case rel =>
     have H2:Aside (((s)=mid+m-b∨ltOf cf d[mid+m-((s))]! d[(s)-1]! = false)∧(((s+r) / 2)=mid∨ltOf cf d[mid+m-1-(((s+r) / 2))]! d[((s+r) / 2)]! = true)):=(⟨HI.out.1,.inr (by rw[←HPC.out];exact hL)⟩:((s)=mid+m-b∨ltOf cf d[mid+m-((s))]! d[(s)-1]! = false)∧(((s+r) / 2)=mid∨ltOf cf d[mid+m-1-(((s+r) / 2))]! d[((s+r) / 2)]! = true));exact⟨s,(s+r) / 2,by first | rfl | (congr 1;omega),by first | rfl | (congr 1;omega),zo,zo,zo,aA _,S2,H2⟩
   | false =>
    have e35:((pc:Int)).toNat=pc:=zo;have p35:(0:Int)≤(pc:Int):=zo;have b35:(pc:Int)<(N:Int):=zo;have r35:IntKind.i64.wrap ((pc:Int))=(pc:Int):=by rw[IntKind.wrap_i64];omega
    have e36:(((s:Int)+(r:Int)) / 2).toNat=(s+r) / 2:=zo;have p36:(0:Int)≤((s:Int)+(r:Int)) / 2:=zo;have b36:((s:Int)+(r:Int)) / 2<(N:Int):=zo;have r36:IntKind.i64.wrap (((s:Int)+(r:Int)) / 2)=((s:Int)+(r:Int)) / 2:=by rw[IntKind.wrap_i64];omega
    obtain⟨x34,hx34⟩:∃x,x=d[pc]!:=⟨_,rfl⟩;obtain⟨y34,hy34⟩:∃x,x=d[(s+r) / 2]!:=⟨_,rfl⟩;have l34a:=S1.out.ld R zo P (pc) zo;have l34b:=S1.out.ld R zo P ((s+r) / 2) zo;rw[←hx34] at l34a;rw[←hy34] at l34b;have hc34:=S1.out.cmp HC.out zo x34 y34;have hv34:¬cf x34 y34<0:=by rw[hx34,hy34];exact of_decide_eq_false hL
    have hd34:decide (cf x34 y34<0)=false:=yA hv34;clear hx34 hy34;go_wp2_with fail
    go_quiet_grown (first | (go_at_fn g;refine Calls.grown_of (hc34 _ _)))
    have S2:Aside (SWK enc k w0 blk off d (grow (wr.drewN nq) osq)):=S1.out.grown nq osq;clear l34a l34b hc34 S1;generalize grow (wr.drewN nq) osq=w2 at S2 ⊢
    clear nq osq;go_wp2
    go_roundg (r-((s+r) / 2+1))
    case measure=>omega
    case rel =>
     have H2:Aside ((((s+r) / 2+1)=mid+m-b∨ltOf cf d[mid+m-(((s+r) / 2+1))]! d[((s+r) / 2+1)-1]! = false)∧((r)=mid∨ltOf cf d[mid+m-1-((r))]! d[(r)]! = true)):=(⟨.inr (by rw[show mid+m-((s+r) / 2+1)=pc by rw[HPC.out];omega,xD];exact hL),HI.out.2⟩:(((s+r) / 2+1)=mid+m-b∨ltOf cf d[mid+m-(((s+r) / 2+1))]! d[((s+r) / 2+1)-1]! = false)∧((r)=mid∨ltOf cf d[mid+m-1-((r))]! d[(r)]! = true));exact⟨(s+r) / 2+1,r,by first | rfl | (congr 1;omega),by first | rfl | (congr 1;omega),zo,zo,zo,aA _,S2,H2⟩
  ·have hltz:¬(s:Int)<(r:Int):=zo;obtain rfl:s=r:=zo;obtain⟨en,hen⟩:∃en,en=mid+m-s:=⟨_,rfl⟩;have HEN:=Lib.hid hen;have eE:(mid:Int)+(m:Int)-(s:Int)=(en:Int):=zo;have bd:a≤s∧s≤m∧s≤mid∧mid≤en∧m≤en∧en≤b∧s+en=mid+m:=zo;obtain⟨k1,k2,k3,k4,k5,k6,k7⟩:=bd;have HSP:Hid (∀d1:Array α,Moved (rotIdx s m en) d d1→SortedIn (ltOf cf) a s d1∧SortedIn (ltOf cf) s mid d1∧SortedIn (ltOf cf) mid en d1∧SortedIn (ltOf cf) en b d1∧(∀i j,a≤i→i<mid→mid≤j→j<b→ltOf cf d1[j]! d1[i]! = false)):=Lib.hid fun d1 hM=>by
    have:=sym_split (lo:=mid+m-b) (hi:=mid) (s:=s) hO ham hmb hl.out hr.out (by rw[←HMID.out];first | rw[bB zo] | rw[dA zo]) (by rw[←HMID.out];first | rw[bB zo] | rw[dA zo]) h1 h3 (by rw[←HMID.out];exact HI.out.1) (by rw[←HMID.out];exact HI.out.2) (d1:=d1) (by rw[←HMID.out,←HEN.out];exact hM);rw[←HMID.out,←HEN.out] at this;exact this.2
   clear hen HI hkx;by_cases hA1:s<m
   ·by_cases hA2:s<mid
    ·by_cases hA3:a<s
     ·by_cases hA4:en<b
      ·have f1:(s:Int)<(m:Int):=zo;have f1d:decide ((s:Int)<(m:Int))=true:=jA f1;have f2:(mid:Int)<(en:Int):=zo;have f2d:decide ((mid:Int)<(en:Int))=true:=jA f2;have f3:(m:Int)<(en:Int):=zo;have f3d:decide ((m:Int)<(en:Int))=true:=jA f3;have f4:(s:Int)<(mid:Int):=zo;have f4d:decide ((s:Int)<(mid:Int))=true:=jA f4;have f5:(a:Int)<(s:Int):=zo;have f5d:decide ((a:Int)<(s:Int))=true:=jA f5;have f6:(en:Int)<(b:Int):=zo;have f6d:decide ((en:Int)<(b:Int))=true:=jA f6;go_wp2_with fail
       have hcall:=rotate_q L enc g cb blk off cap N d0 d w0 wr R hs0 hs S1.out hsz s m en zo zo zo;with_reducible refine hcall.mono ?_
       rintro e w2 ⟨rfl,d1,m1,p1,s1⟩;have HZ1:=Lib.hid (p1.1.trans hs);have HSO:=Lib.hid (HSP.out d1 m1);have P1:=Lib.hid (permIn_mono _ _ _ _ a b zo zo zo p1);have S2:=Lib.hid s1;clear hcall m1 p1 s1;go_wp2_with fail
       with_reducible refine(hI.out.go a s mid d1 w2 zo zo zo zo HZ1.out S2.out HSO.out.1 HSO.out.2.1).mono ?_
       rintro e w3 ⟨rfl,d2,p2,o2,s2⟩;have HZ2:=Lib.hid (p2.1.trans HZ1.out);have P2:=Lib.hid p2;have O2:=Lib.hid o2;have S3:=Lib.hid s2;clear p2 o2 s2;go_wp2_with fail
       with_reducible refine(hI.out.go mid en b d2 w3 zo zo zo zo HZ2.out S3.out (SortedIn.kept P2.out (aA _) HSO.out.2.2.1) (SortedIn.kept P2.out zo HSO.out.2.2.2.1)).mono ?_
       rintro e w4 ⟨rfl,d3,p3,o3,s3⟩;have P3:=Lib.hid p3;have O3:=Lib.hid o3;have S4:=Lib.hid s3;clear p3 o3 s3;go_wp2_with fail
       go_end0
       have hj:=sym_join (lt:=ltOf cf) (a:=a) (mid:=mid) (b:=b) zo zo (by rw[HZ1.out];exact hb) HSO.out.2.2.2.2 P2.out O2.out P3.out O3.out;exact⟨rfl,d3,permIn_trans _ _ _ _ _ P1.out hj.1,hj.2,S4.out⟩
      ·have f1:(s:Int)<(m:Int):=zo;have f1d:decide ((s:Int)<(m:Int))=true:=jA f1;have f2:(mid:Int)<(en:Int):=zo;have f2d:decide ((mid:Int)<(en:Int))=true:=jA f2;have f3:(m:Int)<(en:Int):=zo;have f3d:decide ((m:Int)<(en:Int))=true:=jA f3;have f4:(s:Int)<(mid:Int):=zo;have f4d:decide ((s:Int)<(mid:Int))=true:=jA f4;have f5:(a:Int)<(s:Int):=zo;have f5d:decide ((a:Int)<(s:Int))=true:=jA f5;have f6:¬(en:Int)<(b:Int):=zo;have f6d:decide ((en:Int)<(b:Int))=false:=yA f6;go_wp2_with fail
       have hcall:=rotate_q L enc g cb blk off cap N d0 d w0 wr R hs0 hs S1.out hsz s m en zo zo zo;with_reducible refine hcall.mono ?_
       rintro e w2 ⟨rfl,d1,m1,p1,s1⟩;have HZ1:=Lib.hid (p1.1.trans hs);have HSO:=Lib.hid (HSP.out d1 m1);have P1:=Lib.hid (permIn_mono _ _ _ _ a b zo zo zo p1);have S2:=Lib.hid s1;clear hcall m1 p1 s1;go_wp2_with fail
       with_reducible refine(hI.out.go a s mid d1 w2 zo zo zo zo HZ1.out S2.out HSO.out.1 HSO.out.2.1).mono ?_
       rintro e w3 ⟨rfl,d2,p2,o2,s2⟩;have HZ2:=Lib.hid (p2.1.trans HZ1.out);have P2:=Lib.hid p2;have O2:=Lib.hid o2;have S3:=Lib.hid s2;clear p2 o2 s2;go_wp2_with fail
       have P3:=Lib.hid (permIn_refl d2 mid b);have S4:=Lib.hid S3.out;have O3:Hid (SortedIn (ltOf cf) mid b d2):=by obtain rfl:en=b:=zo;exact Lib.hid (SortedIn.kept P2.out (aA _) HSO.out.2.2.1)
       go_end0
       have hj:=sym_join (lt:=ltOf cf) (a:=a) (mid:=mid) (b:=b) zo zo (by rw[HZ1.out];exact hb) HSO.out.2.2.2.2 P2.out O2.out P3.out O3.out;exact⟨rfl,d2,permIn_trans _ _ _ _ _ P1.out hj.1,hj.2,S4.out⟩
     ·by_cases hA4:en<b
      ·have f1:(s:Int)<(m:Int):=zo;have f1d:decide ((s:Int)<(m:Int))=true:=jA f1;have f2:(mid:Int)<(en:Int):=zo;have f2d:decide ((mid:Int)<(en:Int))=true:=jA f2;have f3:(m:Int)<(en:Int):=zo;have f3d:decide ((m:Int)<(en:Int))=true:=jA f3;have f4:(s:Int)<(mid:Int):=zo;have f4d:decide ((s:Int)<(mid:Int))=true:=jA f4;have f5:¬(a:Int)<(s:Int):=zo;have f5d:decide ((a:Int)<(s:Int))=false:=yA f5;have f6:(en:Int)<(b:Int):=zo;have f6d:decide ((en:Int)<(b:Int))=true:=jA f6;go_wp2_with fail
       have hcall:=rotate_q L enc g cb blk off cap N d0 d w0 wr R hs0 hs S1.out hsz s m en zo zo zo;with_reducible refine hcall.mono ?_
       rintro e w2 ⟨rfl,d1,m1,p1,s1⟩;have HZ1:=Lib.hid (p1.1.trans hs);have HSO:=Lib.hid (HSP.out d1 m1);have P1:=Lib.hid (permIn_mono _ _ _ _ a b zo zo zo p1);have S2:=Lib.hid s1;clear hcall m1 p1 s1;go_wp2_with fail
       have HZ2:=Lib.hid HZ1.out;have P2:=Lib.hid (permIn_refl d1 a mid);have S3:=Lib.hid S2.out;have O2:Hid (SortedIn (ltOf cf) a mid d1):=by obtain rfl:s=a:=zo;exact Lib.hid HSO.out.2.1
       with_reducible refine(hI.out.go mid en b d1 w2 zo zo zo zo HZ2.out S3.out (SortedIn.kept P2.out (aA _) HSO.out.2.2.1) (SortedIn.kept P2.out zo HSO.out.2.2.2.1)).mono ?_
       rintro e w4 ⟨rfl,d3,p3,o3,s3⟩;have P3:=Lib.hid p3;have O3:=Lib.hid o3;have S4:=Lib.hid s3;clear p3 o3 s3;go_wp2_with fail
       go_end0
       have hj:=sym_join (lt:=ltOf cf) (a:=a) (mid:=mid) (b:=b) zo zo (by rw[HZ1.out];exact hb) HSO.out.2.2.2.2 P2.out O2.out P3.out O3.out;exact⟨rfl,d3,permIn_trans _ _ _ _ _ P1.out hj.1,hj.2,S4.out⟩
      ·have f1:(s:Int)<(m:Int):=zo;have f1d:decide ((s:Int)<(m:Int))=true:=jA f1;have f2:(mid:Int)<(en:Int):=zo;have f2d:decide ((mid:Int)<(en:Int))=true:=jA f2;have f3:(m:Int)<(en:Int):=zo;have f3d:decide ((m:Int)<(en:Int))=true:=jA f3;have f4:(s:Int)<(mid:Int):=zo;have f4d:decide ((s:Int)<(mid:Int))=true:=jA f4;have f5:¬(a:Int)<(s:Int):=zo;have f5d:decide ((a:Int)<(s:Int))=false:=yA f5;have f6:¬(en:Int)<(b:Int):=zo;have f6d:decide ((en:Int)<(b:Int))=false:=yA f6;go_wp2_with fail
       have hcall:=rotate_q L enc g cb blk off cap N d0 d w0 wr R hs0 hs S1.out hsz s m en zo zo zo;with_reducible refine hcall.mono ?_
       rintro e w2 ⟨rfl,d1,m1,p1,s1⟩;have HZ1:=Lib.hid (p1.1.trans hs);have HSO:=Lib.hid (HSP.out d1 m1);have P1:=Lib.hid (permIn_mono _ _ _ _ a b zo zo zo p1);have S2:=Lib.hid s1;clear hcall m1 p1 s1;go_wp2_with fail
       have HZ2:=Lib.hid HZ1.out;have P2:=Lib.hid (permIn_refl d1 a mid);have S3:=Lib.hid S2.out;have O2:Hid (SortedIn (ltOf cf) a mid d1):=by obtain rfl:s=a:=zo;exact Lib.hid HSO.out.2.1
       have P3:=Lib.hid (permIn_refl d1 mid b);have S4:=Lib.hid S3.out;have O3:Hid (SortedIn (ltOf cf) mid b d1):=by obtain rfl:en=b:=zo;exact Lib.hid (SortedIn.kept P2.out (aA _) HSO.out.2.2.1)
       go_end0
       have hj:=sym_join (lt:=ltOf cf) (a:=a) (mid:=mid) (b:=b) zo zo (by rw[HZ1.out];exact hb) HSO.out.2.2.2.2 P2.out O2.out P3.out O3.out;exact⟨rfl,d1,permIn_trans _ _ _ _ _ P1.out hj.1,hj.2,S4.out⟩
    ·by_cases hA3:a<s
     ·by_cases hA4:en<b
      ·have f1:(s:Int)<(m:Int):=zo;have f1d:decide ((s:Int)<(m:Int))=true:=jA f1;have f2:(mid:Int)<(en:Int):=zo;have f2d:decide ((mid:Int)<(en:Int))=true:=jA f2;have f3:¬(m:Int)<(en:Int):=zo;have f3d:decide ((m:Int)<(en:Int))=false:=yA f3;have f4:¬(s:Int)<(mid:Int):=zo;have f4d:decide ((s:Int)<(mid:Int))=false:=yA f4;have f5:(a:Int)<(s:Int):=zo;have f5d:decide ((a:Int)<(s:Int))=true:=jA f5;have f6:(en:Int)<(b:Int):=zo;have f6d:decide ((en:Int)<(b:Int))=true:=jA f6;go_wp2_with fail
       have HZ1:=Lib.hid hs;have HSO:=Lib.hid (HSP.out d ((Moved.refl d).congr fun x=>(rot_none zo zo zo x).symm));have P1:=Lib.hid (permIn_refl d a b);have S2:=Lib.hid S1.out;have HZ2:=Lib.hid HZ1.out;have P2:=Lib.hid (permIn_refl d a mid);have S3:=Lib.hid S2.out;have O2:Hid (SortedIn (ltOf cf) a mid d):=by obtain rfl:s=mid:=zo;exact Lib.hid HSO.out.1
       with_reducible refine(hI.out.go mid en b d wr zo zo zo zo HZ2.out S3.out (SortedIn.kept P2.out (aA _) HSO.out.2.2.1) (SortedIn.kept P2.out zo HSO.out.2.2.2.1)).mono ?_
       rintro e w4 ⟨rfl,d3,p3,o3,s3⟩;have P3:=Lib.hid p3;have O3:=Lib.hid o3;have S4:=Lib.hid s3;clear p3 o3 s3;go_wp2_with fail
       go_end0
       have hj:=sym_join (lt:=ltOf cf) (a:=a) (mid:=mid) (b:=b) zo zo (by rw[HZ1.out];exact hb) HSO.out.2.2.2.2 P2.out O2.out P3.out O3.out;exact⟨rfl,d3,permIn_trans _ _ _ _ _ P1.out hj.1,hj.2,S4.out⟩
      ·have f1:(s:Int)<(m:Int):=zo;have f1d:decide ((s:Int)<(m:Int))=true:=jA f1;have f2:(mid:Int)<(en:Int):=zo;have f2d:decide ((mid:Int)<(en:Int))=true:=jA f2;have f3:¬(m:Int)<(en:Int):=zo;have f3d:decide ((m:Int)<(en:Int))=false:=yA f3;have f4:¬(s:Int)<(mid:Int):=zo;have f4d:decide ((s:Int)<(mid:Int))=false:=yA f4;have f5:(a:Int)<(s:Int):=zo;have f5d:decide ((a:Int)<(s:Int))=true:=jA f5;have f6:¬(en:Int)<(b:Int):=zo;have f6d:decide ((en:Int)<(b:Int))=false:=yA f6;go_wp2_with fail
       have HZ1:=Lib.hid hs;have HSO:=Lib.hid (HSP.out d ((Moved.refl d).congr fun x=>(rot_none zo zo zo x).symm));have P1:=Lib.hid (permIn_refl d a b);have S2:=Lib.hid S1.out;have HZ2:=Lib.hid HZ1.out;have P2:=Lib.hid (permIn_refl d a mid);have S3:=Lib.hid S2.out;have O2:Hid (SortedIn (ltOf cf) a mid d):=by obtain rfl:s=mid:=zo;exact Lib.hid HSO.out.1
       have P3:=Lib.hid (permIn_refl d mid b);have S4:=Lib.hid S3.out;have O3:Hid (SortedIn (ltOf cf) mid b d):=by obtain rfl:en=b:=zo;exact Lib.hid (SortedIn.kept P2.out (aA _) HSO.out.2.2.1)
       go_end0
       have hj:=sym_join (lt:=ltOf cf) (a:=a) (mid:=mid) (b:=b) zo zo (by rw[HZ1.out];exact hb) HSO.out.2.2.2.2 P2.out O2.out P3.out O3.out;exact⟨rfl,d,permIn_trans _ _ _ _ _ P1.out hj.1,hj.2,S4.out⟩
     ·by_cases hA4:en<b
      ·have f1:(s:Int)<(m:Int):=zo;have f1d:decide ((s:Int)<(m:Int))=true:=jA f1;have f2:(mid:Int)<(en:Int):=zo;have f2d:decide ((mid:Int)<(en:Int))=true:=jA f2;have f3:¬(m:Int)<(en:Int):=zo;have f3d:decide ((m:Int)<(en:Int))=false:=yA f3;have f4:¬(s:Int)<(mid:Int):=zo;have f4d:decide ((s:Int)<(mid:Int))=false:=yA f4;have f5:¬(a:Int)<(s:Int):=zo;have f5d:decide ((a:Int)<(s:Int))=false:=yA f5;have f6:(en:Int)<(b:Int):=zo;have f6d:decide ((en:Int)<(b:Int))=true:=jA f6;go_wp2_with fail
       have HZ1:=Lib.hid hs;have HSO:=Lib.hid (HSP.out d ((Moved.refl d).congr fun x=>(rot_none zo zo zo x).symm));have P1:=Lib.hid (permIn_refl d a b);have S2:=Lib.hid S1.out;have HZ2:=Lib.hid HZ1.out;have P2:=Lib.hid (permIn_refl d a mid);have S3:=Lib.hid S2.out;have O2:Hid (SortedIn (ltOf cf) a mid d):=by obtain rfl:s=a:=zo;exact Lib.hid HSO.out.2.1
       with_reducible refine(hI.out.go mid en b d wr zo zo zo zo HZ2.out S3.out (SortedIn.kept P2.out (aA _) HSO.out.2.2.1) (SortedIn.kept P2.out zo HSO.out.2.2.2.1)).mono ?_
       rintro e w4 ⟨rfl,d3,p3,o3,s3⟩;have P3:=Lib.hid p3;have O3:=Lib.hid o3;have S4:=Lib.hid s3;clear p3 o3 s3;go_wp2_with fail
       go_end0
       have hj:=sym_join (lt:=ltOf cf) (a:=a) (mid:=mid) (b:=b) zo zo (by rw[HZ1.out];exact hb) HSO.out.2.2.2.2 P2.out O2.out P3.out O3.out;exact⟨rfl,d3,permIn_trans _ _ _ _ _ P1.out hj.1,hj.2,S4.out⟩
      ·have f1:(s:Int)<(m:Int):=zo;have f1d:decide ((s:Int)<(m:Int))=true:=jA f1;have f2:(mid:Int)<(en:Int):=zo;have f2d:decide ((mid:Int)<(en:Int))=true:=jA f2;have f3:¬(m:Int)<(en:Int):=zo;have f3d:decide ((m:Int)<(en:Int))=false:=yA f3;have f4:¬(s:Int)<(mid:Int):=zo;have f4d:decide ((s:Int)<(mid:Int))=false:=yA f4;have f5:¬(a:Int)<(s:Int):=zo;have f5d:decide ((a:Int)<(s:Int))=false:=yA f5;have f6:¬(en:Int)<(b:Int):=zo;have f6d:decide ((en:Int)<(b:Int))=false:=yA f6;go_wp2_with fail
       have HZ1:=Lib.hid hs;have HSO:=Lib.hid (HSP.out d ((Moved.refl d).congr fun x=>(rot_none zo zo zo x).symm));have P1:=Lib.hid (permIn_refl d a b);have S2:=Lib.hid S1.out;have HZ2:=Lib.hid HZ1.out;have P2:=Lib.hid (permIn_refl d a mid);have S3:=Lib.hid S2.out;have O2:Hid (SortedIn (ltOf cf) a mid d):=by obtain rfl:s=a:=zo;exact Lib.hid HSO.out.2.1
       have P3:=Lib.hid (permIn_refl d mid b);have S4:=Lib.hid S3.out;have O3:Hid (SortedIn (ltOf cf) mid b d):=by obtain rfl:en=b:=zo;exact Lib.hid (SortedIn.kept P2.out (aA _) HSO.out.2.2.1)
       go_end0
       have hj:=sym_join (lt:=ltOf cf) (a:=a) (mid:=mid) (b:=b) zo zo (by rw[HZ1.out];exact hb) HSO.out.2.2.2.2 P2.out O2.out P3.out O3.out;exact⟨rfl,d,permIn_trans _ _ _ _ _ P1.out hj.1,hj.2,S4.out⟩
   ·exfalso;omega
theorem symRestB_q (L:StLays P k) (enc:α→List Value) (g:Nat) (cb:Array Value) (blk off cap N:Nat) (d0 d:Array α) (w0 w:World) (R:RowK enc k w0 blk off d0) (hs0:d0.size=N) (hs:d.size=N) (S:SWK enc k w0 blk off d w) (hsz:N<4611686018427387904) (cf:α→α→Int) (eg:∀args w,(callFunc g args).run P w=.ok (.enter g args) w) (hcmp:CmpLays P g cb enc k cf blk off N w0) (hO:SWO (ltOf cf)) (a m b mid:Nat) (ham:a<m) (hmb:m<b) (ham1:m≠a+1) (hmb1:b≠m+1) (hb:b≤N) (hmid:mid=(a+b) / 2) (hl:Hid (SortedIn (ltOf cf) a m d)) (hr:Hid (SortedIn (ltOf cf) m b d)) (hI:Hid (SymOk P enc k g cb blk off cap N w0 cf (b-a-1))) (hlt:m≤mid) :
  Calls P 132 #[.slice (some ⟨blk,off,none⟩) N cap,.int .i64 a,.int .i64 m,.int .i64 b,.func (.func g) #[] cb] w (SortedW enc k w0 blk off (ltOf cf) a b d):=by
 have mixed:=L.mixed;have tI:=L.tI;have aI:=L.aI;have zI:=L.zI;have vI:=L.vI;have tB:=L.tB;have aB:=L.aB;have zB:=L.zB;have vB:=L.vB;have tU:=L.tU;have aU:=L.aU;have zU:=L.zU;have vU:=L.vU;have tS:=L.tS;have aS:=L.aS;have zS:=L.zS;have vS:=L.vS;have aE:=L.aE;have zE:=L.zE;have c1:=L.c1;have c2:=L.c2;have c3:=L.c3;have c4:=L.c4;have c5:=L.c5;have uI:=run_underlying L.tI;have uB:=run_underlying L.tB;have uU:=run_underlying L.tU;have uS:=run_underlying L.tS;have S0:Aside (SWK enc k w0 blk off d w):=S;clear S;have HC:Aside (CmpLays P g cb enc k cf blk off N w0):=hcmp;clear hcmp;have t1:((m:Int)-(a:Int)==1)=false:=by simp;omega
 have t2:((b:Int)-(m:Int)==1)=false:=by simp;omega
 have eM:((a:Int)+(b:Int)) / 2=(mid:Int):=zo;have t3:¬(mid:Int)<(m:Int):=zo;have HMID:=Lib.hid hmid;have hmm:2*mid≤a+b∧a+b≤2*mid+1:=zo;clear hmid;go_enter L.f4,Tryz.ntmps132
 go_wp2_with fail
 go_loopg [20,21] (m-(a)) (fun kx s1 s2 wr=>∃(s r:Nat),s1=.int .i64 s∧s2=.int .i64 r∧a≤s∧s≤r∧r≤m∧r-s≤kx∧Aside (SWK enc k w0 blk off d wr)∧Aside ((s=a∨ltOf cf d[mid+m-(s)]! d[s-1]! = false)∧(r=m∨ltOf cf d[mid+m-1-(r)]! d[r]! = true)))
 case atStart =>
  have H0:Aside (((a)=a∨ltOf cf d[mid+m-((a))]! d[(a)-1]! = false)∧(m=m∨ltOf cf d[mid+m-1-(m)]! d[m]! = true)):=(⟨.inl rfl,.inl rfl⟩:((a)=a∨ltOf cf d[mid+m-((a))]! d[(a)-1]! = false)∧(m=m∨ltOf cf d[mid+m-1-(m)]! d[m]! = true));exact⟨a,m,by first | rfl | (congr 1;omega),by first | rfl | (congr 1;omega),aA _,zo,aA _,aA _,S0,H0⟩
 case round =>
  clear S0;obtain⟨s,r,rfl,rfl,h1,h2,h3,hkx,S1,HI⟩:=hrel;by_cases hlt:s<r
  ·have hltz:(s:Int)<(r:Int):=zo;go_wp2_with fail
   obtain⟨pc,hpc⟩:∃pc,pc=mid+m-1-(s+r) / 2:=⟨_,rfl⟩;have HPC:=Lib.hid hpc;have eP:(mid:Int)+(m:Int)-1-((s:Int)+(r:Int)) / 2=(pc:Int):=zo;have hpb:pc<N:=zo;clear hpc;cases hL:ltOf cf d[pc]! d[(s+r) / 2]! with
   | true =>
    have e38:((pc:Int)).toNat=pc:=zo;have p38:(0:Int)≤(pc:Int):=zo;have b38:(pc:Int)<(N:Int):=zo;have r38:IntKind.i64.wrap ((pc:Int))=(pc:Int):=by rw[IntKind.wrap_i64];omega
    have e39:(((s:Int)+(r:Int)) / 2).toNat=(s+r) / 2:=zo;have p39:(0:Int)≤((s:Int)+(r:Int)) / 2:=zo;have b39:((s:Int)+(r:Int)) / 2<(N:Int):=zo;have r39:IntKind.i64.wrap (((s:Int)+(r:Int)) / 2)=((s:Int)+(r:Int)) / 2:=by rw[IntKind.wrap_i64];omega
    obtain⟨x37,hx37⟩:∃x,x=d[pc]!:=⟨_,rfl⟩;obtain⟨y37,hy37⟩:∃x,x=d[(s+r) / 2]!:=⟨_,rfl⟩;have l37a:=S1.out.ld R zo P (pc) zo;have l37b:=S1.out.ld R zo P ((s+r) / 2) zo;rw[←hx37] at l37a;rw[←hy37] at l37b;have hc37:=S1.out.cmp HC.out zo x37 y37;have hv37:cf x37 y37<0:=by rw[hx37,hy37];exact of_decide_eq_true hL
    have hd37:decide (cf x37 y37<0)=true:=jA hv37;clear hx37 hy37;go_wp2_with fail
    go_quiet_grown (first | (go_at_fn g;refine Calls.grown_of (hc37 _ _)))
    have S2:Aside (SWK enc k w0 blk off d (grow (wr.drewN nq) osq)):=S1.out.grown nq osq;clear l37a l37b hc37 S1;generalize grow (wr.drewN nq) osq=w2 at S2 ⊢
    clear nq osq;go_wp2
    go_roundg ((s+r) / 2-s)
    case measure=>omega
    case rel =>
     have H2:Aside (((s)=a∨ltOf cf d[mid+m-((s))]! d[(s)-1]! = false)∧(((s+r) / 2)=m∨ltOf cf d[mid+m-1-(((s+r) / 2))]! d[((s+r) / 2)]! = true)):=(⟨HI.out.1,.inr (by rw[←HPC.out];exact hL)⟩:((s)=a∨ltOf cf d[mid+m-((s))]! d[(s)-1]! = false)∧(((s+r) / 2)=m∨ltOf cf d[mid+m-1-(((s+r) / 2))]! d[((s+r) / 2)]! = true));exact⟨s,(s+r) / 2,by first | rfl | (congr 1;omega),by first | rfl | (congr 1;omega),zo,zo,zo,aA _,S2,H2⟩
   | false =>
    have e41:((pc:Int)).toNat=pc:=zo;have p41:(0:Int)≤(pc:Int):=zo;have b41:(pc:Int)<(N:Int):=zo;have r41:IntKind.i64.wrap ((pc:Int))=(pc:Int):=by rw[IntKind.wrap_i64];omega
    have e42:(((s:Int)+(r:Int)) / 2).toNat=(s+r) / 2:=zo;have p42:(0:Int)≤((s:Int)+(r:Int)) / 2:=zo;have b42:((s:Int)+(r:Int)) / 2<(N:Int):=zo;have r42:IntKind.i64.wrap (((s:Int)+(r:Int)) / 2)=((s:Int)+(r:Int)) / 2:=by rw[IntKind.wrap_i64];omega
    obtain⟨x40,hx40⟩:∃x,x=d[pc]!:=⟨_,rfl⟩;obtain⟨y40,hy40⟩:∃x,x=d[(s+r) / 2]!:=⟨_,rfl⟩;have l40a:=S1.out.ld R zo P (pc) zo;have l40b:=S1.out.ld R zo P ((s+r) / 2) zo;rw[←hx40] at l40a;rw[←hy40] at l40b;have hc40:=S1.out.cmp HC.out zo x40 y40;have hv40:¬cf x40 y40<0:=by rw[hx40,hy40];exact of_decide_eq_false hL
    have hd40:decide (cf x40 y40<0)=false:=yA hv40;clear hx40 hy40;go_wp2_with fail
    go_quiet_grown (first | (go_at_fn g;refine Calls.grown_of (hc40 _ _)))
    have S2:Aside (SWK enc k w0 blk off d (grow (wr.drewN nq) osq)):=S1.out.grown nq osq;clear l40a l40b hc40 S1;generalize grow (wr.drewN nq) osq=w2 at S2 ⊢
    clear nq osq;go_wp2
    go_roundg (r-((s+r) / 2+1))
    case measure=>omega
    case rel =>
     have H2:Aside ((((s+r) / 2+1)=a∨ltOf cf d[mid+m-(((s+r) / 2+1))]! d[((s+r) / 2+1)-1]! = false)∧((r)=m∨ltOf cf d[mid+m-1-((r))]! d[(r)]! = true)):=(⟨.inr (by rw[show mid+m-((s+r) / 2+1)=pc by rw[HPC.out];omega,xD];exact hL),HI.out.2⟩:(((s+r) / 2+1)=a∨ltOf cf d[mid+m-(((s+r) / 2+1))]! d[((s+r) / 2+1)-1]! = false)∧((r)=m∨ltOf cf d[mid+m-1-((r))]! d[(r)]! = true));exact⟨(s+r) / 2+1,r,by first | rfl | (congr 1;omega),by first | rfl | (congr 1;omega),zo,zo,zo,aA _,S2,H2⟩
  ·have hltz:¬(s:Int)<(r:Int):=zo;obtain rfl:s=r:=zo;obtain⟨en,hen⟩:∃en,en=mid+m-s:=⟨_,rfl⟩;have HEN:=Lib.hid hen;have eE:(mid:Int)+(m:Int)-(s:Int)=(en:Int):=zo;have bd:a≤s∧s≤m∧s≤mid∧mid≤en∧m≤en∧en≤b∧s+en=mid+m:=zo;obtain⟨k1,k2,k3,k4,k5,k6,k7⟩:=bd;have HSP:Hid (∀d1:Array α,Moved (rotIdx s m en) d d1→SortedIn (ltOf cf) a s d1∧SortedIn (ltOf cf) s mid d1∧SortedIn (ltOf cf) mid en d1∧SortedIn (ltOf cf) en b d1∧(∀i j,a≤i→i<mid→mid≤j→j<b→ltOf cf d1[j]! d1[i]! = false)):=Lib.hid fun d1 hM=>by
    have:=sym_split (lo:=a) (hi:=m) (s:=s) hO ham hmb hl.out hr.out (by rw[←HMID.out];first | rw[bB zo] | rw[dA zo]) (by rw[←HMID.out];first | rw[bB zo] | rw[dA zo]) h1 h3 (by rw[←HMID.out];exact HI.out.1) (by rw[←HMID.out];exact HI.out.2) (d1:=d1) (by rw[←HMID.out,←HEN.out];exact hM);rw[←HMID.out,←HEN.out] at this;exact this.2
   clear hen HI hkx;by_cases hA1:s<m
   ·by_cases hA2:s<mid
    ·by_cases hA3:a<s
     ·by_cases hA4:en<b
      ·have f1:(s:Int)<(m:Int):=zo;have f1d:decide ((s:Int)<(m:Int))=true:=jA f1;have f2:(mid:Int)<(en:Int):=zo;have f2d:decide ((mid:Int)<(en:Int))=true:=jA f2;have f3:(m:Int)<(en:Int):=zo;have f3d:decide ((m:Int)<(en:Int))=true:=jA f3;have f4:(s:Int)<(mid:Int):=zo;have f4d:decide ((s:Int)<(mid:Int))=true:=jA f4;have f5:(a:Int)<(s:Int):=zo;have f5d:decide ((a:Int)<(s:Int))=true:=jA f5;have f6:(en:Int)<(b:Int):=zo;have f6d:decide ((en:Int)<(b:Int))=true:=jA f6;go_wp2_with fail
       have hcall:=rotate_q L enc g cb blk off cap N d0 d w0 wr R hs0 hs S1.out hsz s m en zo zo zo;with_reducible refine hcall.mono ?_
       rintro e w2 ⟨rfl,d1,m1,p1,s1⟩;have HZ1:=Lib.hid (p1.1.trans hs);have HSO:=Lib.hid (HSP.out d1 m1);have P1:=Lib.hid (permIn_mono _ _ _ _ a b zo zo zo p1);have S2:=Lib.hid s1;clear hcall m1 p1 s1;go_wp2_with fail
       with_reducible refine(hI.out.go a s mid d1 w2 zo zo zo zo HZ1.out S2.out HSO.out.1 HSO.out.2.1).mono ?_
       rintro e w3 ⟨rfl,d2,p2,o2,s2⟩;have HZ2:=Lib.hid (p2.1.trans HZ1.out);have P2:=Lib.hid p2;have O2:=Lib.hid o2;have S3:=Lib.hid s2;clear p2 o2 s2;go_wp2_with fail
       with_reducible refine(hI.out.go mid en b d2 w3 zo zo zo zo HZ2.out S3.out (SortedIn.kept P2.out (aA _) HSO.out.2.2.1) (SortedIn.kept P2.out zo HSO.out.2.2.2.1)).mono ?_
       rintro e w4 ⟨rfl,d3,p3,o3,s3⟩;have P3:=Lib.hid p3;have O3:=Lib.hid o3;have S4:=Lib.hid s3;clear p3 o3 s3;go_wp2_with fail
       go_end0
       have hj:=sym_join (lt:=ltOf cf) (a:=a) (mid:=mid) (b:=b) zo zo (by rw[HZ1.out];exact hb) HSO.out.2.2.2.2 P2.out O2.out P3.out O3.out;exact⟨rfl,d3,permIn_trans _ _ _ _ _ P1.out hj.1,hj.2,S4.out⟩
      ·have f1:(s:Int)<(m:Int):=zo;have f1d:decide ((s:Int)<(m:Int))=true:=jA f1;have f2:(mid:Int)<(en:Int):=zo;have f2d:decide ((mid:Int)<(en:Int))=true:=jA f2;have f3:(m:Int)<(en:Int):=zo;have f3d:decide ((m:Int)<(en:Int))=true:=jA f3;have f4:(s:Int)<(mid:Int):=zo;have f4d:decide ((s:Int)<(mid:Int))=true:=jA f4;have f5:(a:Int)<(s:Int):=zo;have f5d:decide ((a:Int)<(s:Int))=true:=jA f5;have f6:¬(en:Int)<(b:Int):=zo;have f6d:decide ((en:Int)<(b:Int))=false:=yA f6;go_wp2_with fail
       have hcall:=rotate_q L enc g cb blk off cap N d0 d w0 wr R hs0 hs S1.out hsz s m en zo zo zo;with_reducible refine hcall.mono ?_
       rintro e w2 ⟨rfl,d1,m1,p1,s1⟩;have HZ1:=Lib.hid (p1.1.trans hs);have HSO:=Lib.hid (HSP.out d1 m1);have P1:=Lib.hid (permIn_mono _ _ _ _ a b zo zo zo p1);have S2:=Lib.hid s1;clear hcall m1 p1 s1;go_wp2_with fail
       with_reducible refine(hI.out.go a s mid d1 w2 zo zo zo zo HZ1.out S2.out HSO.out.1 HSO.out.2.1).mono ?_
       rintro e w3 ⟨rfl,d2,p2,o2,s2⟩;have HZ2:=Lib.hid (p2.1.trans HZ1.out);have P2:=Lib.hid p2;have O2:=Lib.hid o2;have S3:=Lib.hid s2;clear p2 o2 s2;go_wp2_with fail
       have P3:=Lib.hid (permIn_refl d2 mid b);have S4:=Lib.hid S3.out;have O3:Hid (SortedIn (ltOf cf) mid b d2):=by obtain rfl:en=b:=zo;exact Lib.hid (SortedIn.kept P2.out (aA _) HSO.out.2.2.1)
       go_end0
       have hj:=sym_join (lt:=ltOf cf) (a:=a) (mid:=mid) (b:=b) zo zo (by rw[HZ1.out];exact hb) HSO.out.2.2.2.2 P2.out O2.out P3.out O3.out;exact⟨rfl,d2,permIn_trans _ _ _ _ _ P1.out hj.1,hj.2,S4.out⟩
     ·by_cases hA4:en<b
      ·have f1:(s:Int)<(m:Int):=zo;have f1d:decide ((s:Int)<(m:Int))=true:=jA f1;have f2:(mid:Int)<(en:Int):=zo;have f2d:decide ((mid:Int)<(en:Int))=true:=jA f2;have f3:(m:Int)<(en:Int):=zo;have f3d:decide ((m:Int)<(en:Int))=true:=jA f3;have f4:(s:Int)<(mid:Int):=zo;have f4d:decide ((s:Int)<(mid:Int))=true:=jA f4;have f5:¬(a:Int)<(s:Int):=zo;have f5d:decide ((a:Int)<(s:Int))=false:=yA f5;have f6:(en:Int)<(b:Int):=zo;have f6d:decide ((en:Int)<(b:Int))=true:=jA f6;go_wp2_with fail
       have hcall:=rotate_q L enc g cb blk off cap N d0 d w0 wr R hs0 hs S1.out hsz s m en zo zo zo;with_reducible refine hcall.mono ?_
       rintro e w2 ⟨rfl,d1,m1,p1,s1⟩;have HZ1:=Lib.hid (p1.1.trans hs);have HSO:=Lib.hid (HSP.out d1 m1);have P1:=Lib.hid (permIn_mono _ _ _ _ a b zo zo zo p1);have S2:=Lib.hid s1;clear hcall m1 p1 s1;go_wp2_with fail
       have HZ2:=Lib.hid HZ1.out;have P2:=Lib.hid (permIn_refl d1 a mid);have S3:=Lib.hid S2.out;have O2:Hid (SortedIn (ltOf cf) a mid d1):=by obtain rfl:s=a:=zo;exact Lib.hid HSO.out.2.1
       with_reducible refine(hI.out.go mid en b d1 w2 zo zo zo zo HZ2.out S3.out (SortedIn.kept P2.out (aA _) HSO.out.2.2.1) (SortedIn.kept P2.out zo HSO.out.2.2.2.1)).mono ?_
       rintro e w4 ⟨rfl,d3,p3,o3,s3⟩;have P3:=Lib.hid p3;have O3:=Lib.hid o3;have S4:=Lib.hid s3;clear p3 o3 s3;go_wp2_with fail
       go_end0
       have hj:=sym_join (lt:=ltOf cf) (a:=a) (mid:=mid) (b:=b) zo zo (by rw[HZ1.out];exact hb) HSO.out.2.2.2.2 P2.out O2.out P3.out O3.out;exact⟨rfl,d3,permIn_trans _ _ _ _ _ P1.out hj.1,hj.2,S4.out⟩
      ·have f1:(s:Int)<(m:Int):=zo;have f1d:decide ((s:Int)<(m:Int))=true:=jA f1;have f2:(mid:Int)<(en:Int):=zo;have f2d:decide ((mid:Int)<(en:Int))=true:=jA f2;have f3:(m:Int)<(en:Int):=zo;have f3d:decide ((m:Int)<(en:Int))=true:=jA f3;have f4:(s:Int)<(mid:Int):=zo;have f4d:decide ((s:Int)<(mid:Int))=true:=jA f4;have f5:¬(a:Int)<(s:Int):=zo;have f5d:decide ((a:Int)<(s:Int))=false:=yA f5;have f6:¬(en:Int)<(b:Int):=zo;have f6d:decide ((en:Int)<(b:Int))=false:=yA f6;go_wp2_with fail
       have hcall:=rotate_q L enc g cb blk off cap N d0 d w0 wr R hs0 hs S1.out hsz s m en zo zo zo;with_reducible refine hcall.mono ?_
       rintro e w2 ⟨rfl,d1,m1,p1,s1⟩;have HZ1:=Lib.hid (p1.1.trans hs);have HSO:=Lib.hid (HSP.out d1 m1);have P1:=Lib.hid (permIn_mono _ _ _ _ a b zo zo zo p1);have S2:=Lib.hid s1;clear hcall m1 p1 s1;go_wp2_with fail
       have HZ2:=Lib.hid HZ1.out;have P2:=Lib.hid (permIn_refl d1 a mid);have S3:=Lib.hid S2.out;have O2:Hid (SortedIn (ltOf cf) a mid d1):=by obtain rfl:s=a:=zo;exact Lib.hid HSO.out.2.1
       have P3:=Lib.hid (permIn_refl d1 mid b);have S4:=Lib.hid S3.out;have O3:Hid (SortedIn (ltOf cf) mid b d1):=by obtain rfl:en=b:=zo;exact Lib.hid (SortedIn.kept P2.out (aA _) HSO.out.2.2.1)
       go_end0
       have hj:=sym_join (lt:=ltOf cf) (a:=a) (mid:=mid) (b:=b) zo zo (by rw[HZ1.out];exact hb) HSO.out.2.2.2.2 P2.out O2.out P3.out O3.out;exact⟨rfl,d1,permIn_trans _ _ _ _ _ P1.out hj.1,hj.2,S4.out⟩
    ·by_cases hA3:a<s
     ·by_cases hA4:en<b
      ·have f1:(s:Int)<(m:Int):=zo;have f1d:decide ((s:Int)<(m:Int))=true:=jA f1;have f2:(mid:Int)<(en:Int):=zo;have f2d:decide ((mid:Int)<(en:Int))=true:=jA f2;have f3:¬(m:Int)<(en:Int):=zo;have f3d:decide ((m:Int)<(en:Int))=false:=yA f3;have f4:¬(s:Int)<(mid:Int):=zo;have f4d:decide ((s:Int)<(mid:Int))=false:=yA f4;have f5:(a:Int)<(s:Int):=zo;have f5d:decide ((a:Int)<(s:Int))=true:=jA f5;have f6:(en:Int)<(b:Int):=zo;have f6d:decide ((en:Int)<(b:Int))=true:=jA f6;go_wp2_with fail
       have HZ1:=Lib.hid hs;have HSO:=Lib.hid (HSP.out d ((Moved.refl d).congr fun x=>(rot_none zo zo zo x).symm));have P1:=Lib.hid (permIn_refl d a b);have S2:=Lib.hid S1.out;have HZ2:=Lib.hid HZ1.out;have P2:=Lib.hid (permIn_refl d a mid);have S3:=Lib.hid S2.out;have O2:Hid (SortedIn (ltOf cf) a mid d):=by obtain rfl:s=mid:=zo;exact Lib.hid HSO.out.1
       with_reducible refine(hI.out.go mid en b d wr zo zo zo zo HZ2.out S3.out (SortedIn.kept P2.out (aA _) HSO.out.2.2.1) (SortedIn.kept P2.out zo HSO.out.2.2.2.1)).mono ?_
       rintro e w4 ⟨rfl,d3,p3,o3,s3⟩;have P3:=Lib.hid p3;have O3:=Lib.hid o3;have S4:=Lib.hid s3;clear p3 o3 s3;go_wp2_with fail
       go_end0
       have hj:=sym_join (lt:=ltOf cf) (a:=a) (mid:=mid) (b:=b) zo zo (by rw[HZ1.out];exact hb) HSO.out.2.2.2.2 P2.out O2.out P3.out O3.out;exact⟨rfl,d3,permIn_trans _ _ _ _ _ P1.out hj.1,hj.2,S4.out⟩
      ·have f1:(s:Int)<(m:Int):=zo;have f1d:decide ((s:Int)<(m:Int))=true:=jA f1;have f2:(mid:Int)<(en:Int):=zo;have f2d:decide ((mid:Int)<(en:Int))=true:=jA f2;have f3:¬(m:Int)<(en:Int):=zo;have f3d:decide ((m:Int)<(en:Int))=false:=yA f3;have f4:¬(s:Int)<(mid:Int):=zo;have f4d:decide ((s:Int)<(mid:Int))=false:=yA f4;have f5:(a:Int)<(s:Int):=zo;have f5d:decide ((a:Int)<(s:Int))=true:=jA f5;have f6:¬(en:Int)<(b:Int):=zo;have f6d:decide ((en:Int)<(b:Int))=false:=yA f6;go_wp2_with fail
       have HZ1:=Lib.hid hs;have HSO:=Lib.hid (HSP.out d ((Moved.refl d).congr fun x=>(rot_none zo zo zo x).symm));have P1:=Lib.hid (permIn_refl d a b);have S2:=Lib.hid S1.out;have HZ2:=Lib.hid HZ1.out;have P2:=Lib.hid (permIn_refl d a mid);have S3:=Lib.hid S2.out;have O2:Hid (SortedIn (ltOf cf) a mid d):=by obtain rfl:s=mid:=zo;exact Lib.hid HSO.out.1
       have P3:=Lib.hid (permIn_refl d mid b);have S4:=Lib.hid S3.out;have O3:Hid (SortedIn (ltOf cf) mid b d):=by obtain rfl:en=b:=zo;exact Lib.hid (SortedIn.kept P2.out (aA _) HSO.out.2.2.1)
       go_end0
       have hj:=sym_join (lt:=ltOf cf) (a:=a) (mid:=mid) (b:=b) zo zo (by rw[HZ1.out];exact hb) HSO.out.2.2.2.2 P2.out O2.out P3.out O3.out;exact⟨rfl,d,permIn_trans _ _ _ _ _ P1.out hj.1,hj.2,S4.out⟩
     ·by_cases hA4:en<b
      ·have f1:(s:Int)<(m:Int):=zo;have f1d:decide ((s:Int)<(m:Int))=true:=jA f1;have f2:(mid:Int)<(en:Int):=zo;have f2d:decide ((mid:Int)<(en:Int))=true:=jA f2;have f3:¬(m:Int)<(en:Int):=zo;have f3d:decide ((m:Int)<(en:Int))=false:=yA f3;have f4:¬(s:Int)<(mid:Int):=zo;have f4d:decide ((s:Int)<(mid:Int))=false:=yA f4;have f5:¬(a:Int)<(s:Int):=zo;have f5d:decide ((a:Int)<(s:Int))=false:=yA f5;have f6:(en:Int)<(b:Int):=zo;have f6d:decide ((en:Int)<(b:Int))=true:=jA f6;go_wp2_with fail
       have HZ1:=Lib.hid hs;have HSO:=Lib.hid (HSP.out d ((Moved.refl d).congr fun x=>(rot_none zo zo zo x).symm));have P1:=Lib.hid (permIn_refl d a b);have S2:=Lib.hid S1.out;have HZ2:=Lib.hid HZ1.out;have P2:=Lib.hid (permIn_refl d a mid);have S3:=Lib.hid S2.out;have O2:Hid (SortedIn (ltOf cf) a mid d):=by obtain rfl:s=a:=zo;exact Lib.hid HSO.out.2.1
       with_reducible refine(hI.out.go mid en b d wr zo zo zo zo HZ2.out S3.out (SortedIn.kept P2.out (aA _) HSO.out.2.2.1) (SortedIn.kept P2.out zo HSO.out.2.2.2.1)).mono ?_
       rintro e w4 ⟨rfl,d3,p3,o3,s3⟩;have P3:=Lib.hid p3;have O3:=Lib.hid o3;have S4:=Lib.hid s3;clear p3 o3 s3;go_wp2_with fail
       go_end0
       have hj:=sym_join (lt:=ltOf cf) (a:=a) (mid:=mid) (b:=b) zo zo (by rw[HZ1.out];exact hb) HSO.out.2.2.2.2 P2.out O2.out P3.out O3.out;exact⟨rfl,d3,permIn_trans _ _ _ _ _ P1.out hj.1,hj.2,S4.out⟩
      ·have f1:(s:Int)<(m:Int):=zo;have f1d:decide ((s:Int)<(m:Int))=true:=jA f1;have f2:(mid:Int)<(en:Int):=zo;have f2d:decide ((mid:Int)<(en:Int))=true:=jA f2;have f3:¬(m:Int)<(en:Int):=zo;have f3d:decide ((m:Int)<(en:Int))=false:=yA f3;have f4:¬(s:Int)<(mid:Int):=zo;have f4d:decide ((s:Int)<(mid:Int))=false:=yA f4;have f5:¬(a:Int)<(s:Int):=zo;have f5d:decide ((a:Int)<(s:Int))=false:=yA f5;have f6:¬(en:Int)<(b:Int):=zo;have f6d:decide ((en:Int)<(b:Int))=false:=yA f6;go_wp2_with fail
       have HZ1:=Lib.hid hs;have HSO:=Lib.hid (HSP.out d ((Moved.refl d).congr fun x=>(rot_none zo zo zo x).symm));have P1:=Lib.hid (permIn_refl d a b);have S2:=Lib.hid S1.out;have HZ2:=Lib.hid HZ1.out;have P2:=Lib.hid (permIn_refl d a mid);have S3:=Lib.hid S2.out;have O2:Hid (SortedIn (ltOf cf) a mid d):=by obtain rfl:s=a:=zo;exact Lib.hid HSO.out.2.1
       have P3:=Lib.hid (permIn_refl d mid b);have S4:=Lib.hid S3.out;have O3:Hid (SortedIn (ltOf cf) mid b d):=by obtain rfl:en=b:=zo;exact Lib.hid (SortedIn.kept P2.out (aA _) HSO.out.2.2.1)
       go_end0
       have hj:=sym_join (lt:=ltOf cf) (a:=a) (mid:=mid) (b:=b) zo zo (by rw[HZ1.out];exact hb) HSO.out.2.2.2.2 P2.out O2.out P3.out O3.out;exact⟨rfl,d,permIn_trans _ _ _ _ _ P1.out hj.1,hj.2,S4.out⟩
   ·by_cases hA2:s<mid
    ·by_cases hA3:a<s
     ·have f1:¬(s:Int)<(m:Int):=zo;have f1d:decide ((s:Int)<(m:Int))=false:=yA f1;have f2:¬(mid:Int)<(en:Int):=zo;have f2d:decide ((mid:Int)<(en:Int))=false:=yA f2;have f3:(m:Int)<(en:Int):=zo;have f3d:decide ((m:Int)<(en:Int))=true:=jA f3;have f4:(s:Int)<(mid:Int):=zo;have f4d:decide ((s:Int)<(mid:Int))=true:=jA f4;have f5:(a:Int)<(s:Int):=zo;have f5d:decide ((a:Int)<(s:Int))=true:=jA f5;go_wp2_with fail
      have HZ1:=Lib.hid hs;have HSO:=Lib.hid (HSP.out d ((Moved.refl d).congr fun x=>(rot_none zo zo zo x).symm));have P1:=Lib.hid (permIn_refl d a b);have S2:=Lib.hid S1.out;with_reducible refine(hI.out.go a s mid d wr zo zo zo zo HZ1.out S2.out HSO.out.1 HSO.out.2.1).mono ?_
      rintro e w3 ⟨rfl,d2,p2,o2,s2⟩;have HZ2:=Lib.hid (p2.1.trans HZ1.out);have P2:=Lib.hid p2;have O2:=Lib.hid o2;have S3:=Lib.hid s2;clear p2 o2 s2;go_wp2_with fail
      have P3:=Lib.hid (permIn_refl d2 mid b);have S4:=Lib.hid S3.out;have O3:Hid (SortedIn (ltOf cf) mid b d2):=by obtain rfl:en=mid:=zo;exact Lib.hid (SortedIn.kept P2.out (aA _) HSO.out.2.2.2.1)
      go_end0
      have hj:=sym_join (lt:=ltOf cf) (a:=a) (mid:=mid) (b:=b) zo zo (by rw[HZ1.out];exact hb) HSO.out.2.2.2.2 P2.out O2.out P3.out O3.out;exact⟨rfl,d2,permIn_trans _ _ _ _ _ P1.out hj.1,hj.2,S4.out⟩
     ·have f1:¬(s:Int)<(m:Int):=zo;have f1d:decide ((s:Int)<(m:Int))=false:=yA f1;have f2:¬(mid:Int)<(en:Int):=zo;have f2d:decide ((mid:Int)<(en:Int))=false:=yA f2;have f3:(m:Int)<(en:Int):=zo;have f3d:decide ((m:Int)<(en:Int))=true:=jA f3;have f4:(s:Int)<(mid:Int):=zo;have f4d:decide ((s:Int)<(mid:Int))=true:=jA f4;have f5:¬(a:Int)<(s:Int):=zo;have f5d:decide ((a:Int)<(s:Int))=false:=yA f5;go_wp2_with fail
      have HZ1:=Lib.hid hs;have HSO:=Lib.hid (HSP.out d ((Moved.refl d).congr fun x=>(rot_none zo zo zo x).symm));have P1:=Lib.hid (permIn_refl d a b);have S2:=Lib.hid S1.out;have HZ2:=Lib.hid HZ1.out;have P2:=Lib.hid (permIn_refl d a mid);have S3:=Lib.hid S2.out;have O2:Hid (SortedIn (ltOf cf) a mid d):=by obtain rfl:s=a:=zo;exact Lib.hid HSO.out.2.1
      have P3:=Lib.hid (permIn_refl d mid b);have S4:=Lib.hid S3.out;have O3:Hid (SortedIn (ltOf cf) mid b d):=by obtain rfl:en=mid:=zo;exact Lib.hid (SortedIn.kept P2.out (aA _) HSO.out.2.2.2.1)
      go_end0
      have hj:=sym_join (lt:=ltOf cf) (a:=a) (mid:=mid) (b:=b) zo zo (by rw[HZ1.out];exact hb) HSO.out.2.2.2.2 P2.out O2.out P3.out O3.out;exact⟨rfl,d,permIn_trans _ _ _ _ _ P1.out hj.1,hj.2,S4.out⟩
    ·by_cases hA3:a<s
     ·have f1:¬(s:Int)<(m:Int):=zo;have f1d:decide ((s:Int)<(m:Int))=false:=yA f1;have f2:¬(mid:Int)<(en:Int):=zo;have f2d:decide ((mid:Int)<(en:Int))=false:=yA f2;have f3:¬(m:Int)<(en:Int):=zo;have f3d:decide ((m:Int)<(en:Int))=false:=yA f3;have f4:¬(s:Int)<(mid:Int):=zo;have f4d:decide ((s:Int)<(mid:Int))=false:=yA f4;have f5:(a:Int)<(s:Int):=zo;have f5d:decide ((a:Int)<(s:Int))=true:=jA f5;go_wp2_with fail
      have HZ1:=Lib.hid hs;have HSO:=Lib.hid (HSP.out d ((Moved.refl d).congr fun x=>(rot_none zo zo zo x).symm));have P1:=Lib.hid (permIn_refl d a b);have S2:=Lib.hid S1.out;have HZ2:=Lib.hid HZ1.out;have P2:=Lib.hid (permIn_refl d a mid);have S3:=Lib.hid S2.out;have O2:Hid (SortedIn (ltOf cf) a mid d):=by obtain rfl:s=mid:=zo;exact Lib.hid HSO.out.1
      have P3:=Lib.hid (permIn_refl d mid b);have S4:=Lib.hid S3.out;have O3:Hid (SortedIn (ltOf cf) mid b d):=by obtain rfl:en=mid:=zo;exact Lib.hid (SortedIn.kept P2.out (aA _) HSO.out.2.2.2.1)
      go_end0
      have hj:=sym_join (lt:=ltOf cf) (a:=a) (mid:=mid) (b:=b) zo zo (by rw[HZ1.out];exact hb) HSO.out.2.2.2.2 P2.out O2.out P3.out O3.out;exact⟨rfl,d,permIn_trans _ _ _ _ _ P1.out hj.1,hj.2,S4.out⟩
     ·have f1:¬(s:Int)<(m:Int):=zo;have f1d:decide ((s:Int)<(m:Int))=false:=yA f1;have f2:¬(mid:Int)<(en:Int):=zo;have f2d:decide ((mid:Int)<(en:Int))=false:=yA f2;have f3:¬(m:Int)<(en:Int):=zo;have f3d:decide ((m:Int)<(en:Int))=false:=yA f3;have f4:¬(s:Int)<(mid:Int):=zo;have f4d:decide ((s:Int)<(mid:Int))=false:=yA f4;have f5:¬(a:Int)<(s:Int):=zo;have f5d:decide ((a:Int)<(s:Int))=false:=yA f5;go_wp2_with fail
      have HZ1:=Lib.hid hs;have HSO:=Lib.hid (HSP.out d ((Moved.refl d).congr fun x=>(rot_none zo zo zo x).symm));have P1:=Lib.hid (permIn_refl d a b);have S2:=Lib.hid S1.out;have HZ2:=Lib.hid HZ1.out;have P2:=Lib.hid (permIn_refl d a mid);have S3:=Lib.hid S2.out;have O2:Hid (SortedIn (ltOf cf) a mid d):=by obtain rfl:s=a:=zo;exact Lib.hid HSO.out.2.1
      have P3:=Lib.hid (permIn_refl d mid b);have S4:=Lib.hid S3.out;have O3:Hid (SortedIn (ltOf cf) mid b d):=by obtain rfl:en=mid:=zo;exact Lib.hid (SortedIn.kept P2.out (aA _) HSO.out.2.2.2.1)
      go_end0
      have hj:=sym_join (lt:=ltOf cf) (a:=a) (mid:=mid) (b:=b) zo zo (by rw[HZ1.out];exact hb) HSO.out.2.2.2.2 P2.out O2.out P3.out O3.out;exact⟨rfl,d,permIn_trans _ _ _ _ _ P1.out hj.1,hj.2,S4.out⟩
theorem SymOk.less {enc:α→List Value} {g:Nat} {cb:Array Value} {blk off cap N:Nat} {w0:World} {cf:α→α→Int} {n n':Nat} (h:SymOk P enc k g cb blk off cap N w0 cf n) (hn:n'≤n):SymOk P enc k g cb blk off cap N w0 cf n' :=
 fun a m b d w h1=>h a m b d w (wA h1 hn)
theorem symMerge_q {cap:Nat} (L:StLays P k) (enc:α→List Value) (g:Nat) (cb:Array Value) (blk off N:Nat) (d0:Array α) (w0:World) (R:RowK enc k w0 blk off d0) (hs0:d0.size=N) (hsz:N<4611686018427387904)
  (cf:α→α→Int) (eg:∀args w,(callFunc g args).run P w=.ok (.enter g args) w) (hcmp:CmpLays P g cb enc k cf blk off N w0) (hO:SWO (ltOf cf)):∀n,SymOk P enc k g cb blk off cap N w0 cf n:=by
 intro n;induction n with
 | zero=>intro a m b d w h1 h2 h3;omega
 | succ n ih =>
  intro a m b d w h1 h2 h3 h4 hs S hl hr;by_cases hm:m=a+1
  ·exact symLeft_q L enc g cb blk off cap N d0 d w0 w R hs0 hs S hsz cf eg hcmp hO a m b hm h3 h4 (Lib.hid hr)
  ·by_cases hm2:b=m+1
   ·exact symRight_q L enc g cb blk off cap N d0 d w0 w R hs0 hs S hsz cf eg hcmp hO a m b hm2 h2 hm h4 (Lib.hid hl)
   ·by_cases h:(a+b) / 2<m
    ·exact symRestA_q L enc g cb blk off cap N d0 d w0 w R hs0 hs S hsz cf eg hcmp hO a m b _ h2 h3 hm hm2 h4 rfl (Lib.hid hl) (Lib.hid hr) (Lib.hid (ih.less zo)) h
    ·exact symRestB_q L enc g cb blk off cap N d0 d w0 w R hs0 hs S hsz cf eg hcmp hO a m b _ h2 h3 hm hm2 h4 rfl (Lib.hid hl) (Lib.hid hr) (Lib.hid (ih.less zo)) zo
inductive Runs (lt:α→α→Bool) (bs n:Nat) (d:Array α):Nat→Prop
 | done {lo:Nat}:n≤lo→Runs lt bs n d lo
 | more {lo:Nat}:SortedIn lt lo (min (lo+bs) n) d→Runs lt bs n d (lo+bs)→Runs lt bs n d lo
inductive Upto (lt:α→α→Bool) (bs:Nat) (d:Array α):Nat→Prop
 | zero:Upto lt bs d 0
 | step {a:Nat}:Upto lt bs d a→SortedIn lt a (a+bs) d→Upto lt bs d (a+bs)
section
variable {lt:α→α→Bool} {bs n:Nat} {d d':Array α}
theorem sorted_front {a m lo hi:Nat} (p:PermIn a m d d') (h:hi≤a) (hs:SortedIn lt lo hi d):SortedIn lt lo hi d':=fun i j h1 h2 h3=>by
 rw[p.2.1 i (.inl zo),p.2.1 j (.inl zo)];exact hs i j h1 h2 h3
theorem Upto.kept {a lo hi:Nat} (h:Upto lt bs d a) (p:PermIn lo hi d d') (hl:a≤lo):Upto lt bs d' a:=by
 induction h with
 | zero=>exact .zero
 | step _ hs ih=>exact .step (ih zo) (sorted_front p hl hs)
theorem Runs.kept {lo' lo hi:Nat} (h:Runs lt bs n d lo') (p:PermIn lo hi d d') (hl:hi≤lo'):Runs lt bs n d' lo':=by
 induction h with
 | done h=>exact .done h
 | more hs _ ih=>exact .more (SortedIn.kept p hl hs) (ih zo)
theorem Upto.runs {a:Nat} (h:Upto lt bs d a) (k:Runs lt bs n d a) (ha:a≤n):Runs lt bs n d 0:=by
 induction h with
 | zero=>exact k
 | step _ hs ih=>exact ih (.more (by rw[sC ha];exact hs) k) zo
theorem Runs.head {lo:Nat} (h:Runs lt bs n d lo) (hl:lo<n):SortedIn lt lo (min (lo+bs) n) d:=by
 cases h with
 | done h=>omega
 | more hs _=>exact hs
theorem Runs.tail {lo:Nat} (h:Runs lt bs n d lo):Runs lt bs n d (lo+bs):=by
 cases h with
 | done h=>exact .done zo
 | more _ hk=>exact hk
end
theorem stable_q (L:StLays P k) (enc:α→List Value) (g:Nat) (cb:Array Value) (blk off cap N:Nat) (d0 d:Array α) (w0 w:World) (R:RowK enc k w0 blk off d0) (hs0:d0.size=N) (hs:d.size=N) (S:SWK enc k w0 blk off d w) (hsz:N<4611686018427387904) (cf:α→α→Int) (eg:∀args w,(callFunc g args).run P w=.ok (.enter g args) w) (hcmp:CmpLays P g cb enc k cf blk off N w0) (hO:SWO (ltOf cf)) :
  Calls P 108 #[.slice (some ⟨blk,off,none⟩) N cap,.int .i64 N,.func (.func g) #[] cb] w (SortedW enc k w0 blk off (ltOf cf) 0 N d):=by
 have mixed:=L.mixed;have tI:=L.tI;have aI:=L.aI;have zI:=L.zI;have vI:=L.vI;have tB:=L.tB;have aB:=L.aB;have zB:=L.zB;have vB:=L.vB;have tU:=L.tU;have aU:=L.aU;have zU:=L.zU;have vU:=L.vU;have tS:=L.tS;have aS:=L.aS;have zS:=L.zS;have vS:=L.vS;have aE:=L.aE;have zE:=L.zE;have c1:=L.c1;have c2:=L.c2;have c3:=L.c3;have c4:=L.c4;have c5:=L.c5;have uI:=run_underlying L.tI;have uB:=run_underlying L.tB;have uU:=run_underlying L.tU;have uS:=run_underlying L.tS;have S0:Aside (SWK enc k w0 blk off d w):=S;clear S;have HC:Aside (CmpLays P g cb enc k cf blk off N w0):=hcmp;clear hcmp;go_enter L.f5,Tryz.ntmps108
 go_wp2_with fail
 go_loopg [7,8] N (fun kx s7 s8 wr=>∃(a:Nat) (dk:Array α),s7=.int .i64 a∧s8=.int .i64 (a+20:Nat)∧a≤N∧N-a≤kx∧dk.size=N∧Aside (SWK enc k w0 blk off dk wr)∧Aside (Upto (ltOf cf) 20 dk a∧PermIn 0 N d dk))
 case atStart =>
  have H0:Aside (Upto (ltOf cf) 20 d 0∧PermIn 0 N d d):=(⟨.zero,permIn_refl _ _ _⟩:Upto (ltOf cf) 20 d 0∧PermIn 0 N d d);exact⟨0,d,rfl,rfl,uA _,zo,hs,S0,H0⟩
 case round =>
  clear S0;obtain⟨a,dk,rfl,rfl,haN,hkx,hds,S1,HU⟩:=hrel;by_cases hle:a+20≤N
  ·have hz:(a:Int)+20≤(N:Int):=zo;have hcall:=insertion_q L enc g cb blk off cap N d0 dk w0 wr R hs0 hds S1.out hsz cf eg HC.out hO a (a+20) zo hle;rw[show((a+20:Nat):Int)=(a:Int)+20 by omega] at hcall;go_wp2_with fail
   with_reducible refine hcall.mono ?_
   rintro e w2 ⟨rfl,d2,p2,o2,s2⟩;have S2:=Lib.hid s2;have HD2:=Lib.hid (p2.1.trans hds);have HU2:Hid (Upto (ltOf cf) 20 d2 (a+20)∧PermIn 0 N d d2):=Lib.hid ⟨.step (HU.out.1.kept p2 (aA _)) o2,permIn_trans _ _ _ _ _ HU.out.2 (permIn_mono _ _ _ _ _ _ zo zo zo p2)⟩;clear p2 o2 s2 hcall;go_wp2_with fail
   go_roundg (N-(a+20))
   case measure=>omega
   case rel=>exact⟨a+20,d2,by first | rfl | (congr 1;omega),by first | rfl | (congr 1;omega),hle,aA _,HD2.out,S2.out,HU2.out⟩
  ·have hz:¬(a:Int)+20≤(N:Int):=zo;have hcall:=insertion_q L enc g cb blk off cap N d0 dk w0 wr R hs0 hds S1.out hsz cf eg HC.out hO a N haN (aA _);go_wp2_with fail
   with_reducible refine hcall.mono ?_
   rintro e w2 ⟨rfl,d2,p2,o2,s2⟩;have S2:=Lib.hid s2;have HD2:=Lib.hid (p2.1.trans hds);have HU2:Hid (Runs (ltOf cf) 20 N d2 0∧PermIn 0 N d d2):=Lib.hid ⟨(HU.out.1.kept p2 (aA _)).runs (.more (by rw[dG zo];exact o2) (.done zo)) haN,permIn_trans _ _ _ _ _ HU.out.2 (permIn_mono _ _ _ _ _ _ zo (aA _) zo p2)⟩;clear p2 o2 s2 hcall S1 HU;go_wp2_with fail
   go_loopg [6] N (fun kx s6 wr=>∃(bs:Nat) (dk:Array α),s6=.int .i64 bs∧0<bs∧bs<9223372036854775808∧N-bs≤kx∧dk.size=N∧Aside (SWK enc k w0 blk off dk wr)∧Aside (Runs (ltOf cf) bs N dk 0∧PermIn 0 N d dk))
   case atStart=>exact⟨20,d2,rfl,zo,zo,zo,HD2.out,S2.out,HU2.out⟩
   case round =>
    clear S2 HU2 HD2 hkx;obtain⟨bs,dk,rfl,hb0,hb1,hkx,hds,S1,HU⟩:=hrel;by_cases hlt:bs<N
    ·have hz:(bs:Int)<(N:Int):=zo;go_wp2_with fail
     go_loopg [7,8] N (fun kx s7 s8 wr=>∃(a:Nat) (dk:Array α),s7=.int .i64 a∧s8=.int .i64 (a+2*bs:Nat)∧a≤N∧N-a≤kx∧dk.size=N∧Aside (SWK enc k w0 blk off dk wr)∧Aside (Upto (ltOf cf) (2*bs) dk a∧Runs (ltOf cf) bs N dk a∧PermIn 0 N d dk))
     case atStart =>
      have H0:Aside (Upto (ltOf cf) (2*bs) dk 0∧Runs (ltOf cf) bs N dk 0∧PermIn 0 N d dk):=(⟨.zero,HU.out⟩:Upto (ltOf cf) (2*bs) dk 0∧Runs (ltOf cf) bs N dk 0∧PermIn 0 N d dk);exact⟨0,dk,rfl,by first | rfl | (congr 1;omega),uA _,zo,hds,S1,H0⟩
     case round =>
      clear S1 HU;obtain⟨a,dk,rfl,rfl,haN',hkx2,hds,S1,HU⟩:=hrel;by_cases hle2:a+2*bs≤N
      ·have hz2:(a:Int)+2*(bs:Int)≤(N:Int):=zo;have hcall:=(symMerge_q (cap:=cap) L enc g cb blk off N d0 w0 R hs0 hsz cf eg HC.out hO N).go a (a+bs) (a+2*bs) dk wr zo zo zo hle2 hds S1.out
        (by have:=HU.out.2.1.head zo;rwa [sC zo] at this) (by have:=HU.out.2.1.tail.head zo;rwa [sC zo,show a+bs+bs=a+2*bs by omega] at this)
       rw[show((a+2*bs:Nat):Int)=(a:Int)+2*(bs:Int) by omega,show((a+bs:Nat):Int)=(a:Int)+(bs:Int) by omega] at hcall;go_wp2_with fail
       with_reducible refine hcall.mono ?_
       rintro e w2 ⟨rfl,d2,p2,o2,s2⟩;have S2:=Lib.hid s2;have HD2:=Lib.hid (p2.1.trans hds);have HU2:Hid (Upto (ltOf cf) (2*bs) d2 (a+2*bs)∧Runs (ltOf cf) bs N d2 (a+2*bs)∧PermIn 0 N d d2):=Lib.hid ⟨.step (HU.out.1.kept p2 (aA _)) o2,by have:=HU.out.2.1.tail.tail;rw[show a+bs+bs=a+2*bs by omega] at this;exact this.kept p2 (aA _),permIn_trans _ _ _ _ _ HU.out.2.2 (permIn_mono _ _ _ _ _ _ zo zo zo p2)⟩;clear p2 o2 s2 hcall;go_wp2_with fail
       go_roundg (N-(a+2*bs))
       case measure=>omega
       case rel=>exact⟨a+2*bs,d2,by first | rfl | (congr 1;omega),by first | rfl | (congr 1;omega),hle2,aA _,HD2.out,S2.out,HU2.out⟩
      ·have hz2:¬(a:Int)+2*(bs:Int)≤(N:Int):=zo;by_cases hm:a+bs<N
       ·have hz3:(a:Int)+(bs:Int)<(N:Int):=zo;have hcall:=(symMerge_q (cap:=cap) L enc g cb blk off N d0 w0 R hs0 hsz cf eg HC.out hO N).go a (a+bs) N dk wr zo zo zo (aA _) hds S1.out
         (by have:=HU.out.2.1.head zo;rwa [sC zo] at this) (by have:=HU.out.2.1.tail.head zo;rwa [dG zo] at this)
        rw[show((a+bs:Nat):Int)=(a:Int)+(bs:Int) by omega] at hcall;go_wp2_with fail
        with_reducible refine hcall.mono ?_
        rintro e w2 ⟨rfl,d2,p2,o2,s2⟩;have S2:=Lib.hid s2;have HD2:=Lib.hid (p2.1.trans hds);have HU2:Hid (Runs (ltOf cf) (bs*2) N d2 0∧PermIn 0 N d d2):=by
         rw[show bs*2=2*bs by omega];exact Lib.hid ⟨(HU.out.1.kept p2 (aA _)).runs (.more (by rw[dG zo];exact o2) (.done zo)) haN',permIn_trans _ _ _ _ _ HU.out.2.2 (permIn_mono _ _ _ _ _ _ zo (aA _) zo p2)⟩
        clear p2 o2 s2 hcall;go_wp2_with fail
        go_roundg (N-bs*2)
        case measure=>omega
        case rel=>exact⟨bs*2,d2,by first | rfl | (congr 1;omega),zo,zo,aA _,HD2.out,S2.out,HU2.out⟩
       ·have hz3:¬(a:Int)+(bs:Int)<(N:Int):=zo;have HU2:Hid (Runs (ltOf cf) (bs*2) N dk 0∧PermIn 0 N d dk):=by
         rw[show bs*2=2*bs by omega];refine Lib.hid ⟨HU.out.1.runs ?_ haN',HU.out.2.2⟩;by_cases hae:a<N
         ·exact .more (by have:=HU.out.2.1.head hae;rw[dG zo] at this ⊢;exact this) (.done zo)
         ·exact .done zo
        go_wp2_with fail
        go_roundg (N-bs*2)
        case measure=>omega
        case rel=>exact⟨bs*2,dk,by first | rfl | (congr 1;omega),zo,zo,aA _,hds,S1,HU2.out⟩
    ·have hz:¬(bs:Int)<(N:Int):=zo;go_wp2_with fail
     go_end0
     refine⟨rfl,dk,HU.out.2,?_,S1.out⟩;rcases qC N with h0 | h0
     ·intro i j _ _ h3;omega
     ·have:=HU.out.1.head h0;rwa [dG zo] at this
end Go.Proofs.YtiondclbdgijbaaGreatDoor
