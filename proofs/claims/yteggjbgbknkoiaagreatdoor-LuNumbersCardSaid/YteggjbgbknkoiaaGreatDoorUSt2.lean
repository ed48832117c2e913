import Derived.Test.YteggjbgbknkoiaaGreatDoorUSt1
import Derived.Deep.DeepCutAuto
set_option maxHeartbeats 16000000
set_option maxRecDepth 1000000
namespace Go.Proofs.YteggjbgbknkoiaaGreatDoor
open Go.Shelf Go.RowKit Go.Lib Go.Sort
variable {P:Program} {α:Type} [Inhabited α] {k:Nat}
def SymOk (P:Program) (enc:α→List Value) (k g:Nat) (cb:Array Value) (blk off cap N:Nat) (w0:World) (cf:α→α→Int) (n:Nat):Prop :=
 ∀(a m b:Nat) (d:Array α) (w:World),b-a≤n→a<m→m<b→b≤N→d.size=N→SWK enc k w0 blk off d w→SortedIn (ltOf cf) a m d→SortedIn (ltOf cf) m b d→
  Calls P 143 #[.slice (some ⟨blk,off,none⟩) N cap,.int .i64 a,.int .i64 m,.int .i64 b,.func (.func g) #[] cb] w (SortedW enc k w0 blk off (ltOf cf) a b d)
theorem SymOk.go {enc:α→List Value} {g:Nat} {cb:Array Value} {blk off cap N:Nat} {w0:World} {cf:α→α→Int} {n:Nat} (h:SymOk P enc k g cb blk off cap N w0 cf n) (a m b:Nat) (d:Array α) (w:World) (h1:b-a≤n) (h2:a<m) (h3:m<b) (h4:b≤N)
  (h5:d.size=N) (h6:SWK enc k w0 blk off d w) (h7:SortedIn (ltOf cf) a m d) (h8:SortedIn (ltOf cf) m b d):Calls P 143 #[.slice (some ⟨blk,off,none⟩) N cap,.int .i64 a,.int .i64 m,.int .i64 b,.func (.func g) #[] cb] w (SortedW enc k w0 blk off (ltOf cf) a b d):=h a m b d w h1 h2 h3 h4 h5 h6 h7 h8
theorem SymOk.less {enc:α→List Value} {g:Nat} {cb:Array Value} {blk off cap N:Nat} {w0:World} {cf:α→α→Int} {n n':Nat} (h:SymOk P enc k g cb blk off cap N w0 cf n) (hn:n'≤n):SymOk P enc k g cb blk off cap N w0 cf n' :=
 fun a m b d w h1=>h a m b d w (kA h1 hn)
inductive Runs (lt:α→α→Bool) (bs n:Nat) (d:Array α):Nat→Prop
 | done {lo:Nat}:n≤lo→Runs lt bs n d lo
 | more {lo:Nat}:SortedIn lt lo (min (lo+bs) n) d→Runs lt bs n d (lo+bs)→Runs lt bs n d lo
inductive Upto (lt:α→α→Bool) (bs:Nat) (d:Array α):Nat→Prop
 | zero:Upto lt bs d 0
 | step {a:Nat}:Upto lt bs d a→SortedIn lt a (a+bs) d→Upto lt bs d (a+bs)
section
variable {lt:α→α→Bool} {bs n:Nat} {d d':Array α}
theorem sorted_front {a m lo hi:Nat} (p:PermIn a m d d') (h:hi≤a) (hs:SortedIn lt lo hi d):SortedIn lt lo hi d':=fun i j h1 h2 h3=>by
 rw[p.2.1 i (.inl zo),p.2.1 j (.inl zo)];exact hs i j h1 h2 h3
theorem Upto.kept {a lo hi:Nat} (h:Upto lt bs d a) (p:PermIn lo hi d d') (hl:a≤lo):Upto lt bs d' a:=by
 induction h with
 | zero=>exact .zero
 | step _ hs ih=>exact .step (ih zo) (sorted_front p hl hs)
theorem Upto.runs {a:Nat} (h:Upto lt bs d a) (k:Runs lt bs n d a) (ha:a≤n):Runs lt bs n d 0:=by
 induction h with
 | zero=>exact k
 | step _ hs ih=>exact ih (.more (by rw[dD ha];exact hs) k) zo
theorem Runs.head {lo:Nat} (h:Runs lt bs n d lo) (hl:lo<n):SortedIn lt lo (min (lo+bs) n) d:=by
 cases h with
 | done h=>omega
 | more hs _=>exact hs
end
theorem stable_q (L:StLays P k) (enc:α→List Value) (g:Nat) (cb:Array Value) (blk off cap N:Nat) (d0 d:Array α) (w0 w:World) (R:RowK enc k w0 blk off d0) (hs0:d0.size=N) (hs:d.size=N) (S:SWK enc k w0 blk off d w) (hsz:N<20) (cf:α→α→Int) (eg:∀args w,(callFunc g args).run P w=.ok (.enter g args) w) (hcmp:CmpLays P g cb enc k cf blk off N w0) (hO:SWO (ltOf cf)) :
  Calls P 103 #[.slice (some ⟨blk,off,none⟩) N cap,.int .i64 N,.func (.func g) #[] cb] w (SortedW enc k w0 blk off (ltOf cf) 0 N d):=by
 have mixed:=L.mixed;have tI:=L.tI;have aI:=L.aI;have zI:=L.zI;have vI:=L.vI;have tB:=L.tB;have aB:=L.aB;have zB:=L.zB;have vB:=L.vB;have tU:=L.tU;have aU:=L.aU;have zU:=L.zU;have vU:=L.vU;have tS:=L.tS;have aS:=L.aS;have zS:=L.zS;have vS:=L.vS;have aE:=L.aE;have zE:=L.zE;have c1:=L.c1;have c2:=L.c2;have c3:=L.c3;have c4:=L.c4;have c5:=L.c5;have uI:=run_underlying L.tI;have uB:=run_underlying L.tB;have uU:=run_underlying L.tU;have uS:=run_underlying L.tS;have S0:Aside (SWK enc k w0 blk off d w):=S;clear S;have HC:Aside (CmpLays P g cb enc k cf blk off N w0):=hcmp;clear hcmp;go_enter L.f5,Tryz.ntmps103
 go_wp2_with fail
 go_loopg [7,8] N (fun _ s7 s8 wr=>s7=.int .i64 0∧s8=.int .i64 20∧Aside (SWK enc k w0 blk off d wr))
 case atStart=>exact⟨rfl,rfl,S0⟩
 case round =>
  clear S0;obtain⟨rfl,rfl,S1⟩:=hrel;have hz:¬(20:Int)≤(N:Int):=zo;have hcall:=insertion_q L enc g cb blk off cap N d0 d w0 wr R hs0 hs S1.out zo cf eg HC.out hO 0 N (nA _) (cA _);rw[show((0:Nat):Int)=0 from rfl] at hcall;go_wp2_with fail
  with_reducible refine hcall.mono ?_
  rintro e w2 ⟨rfl,d2,p2,o2,s2⟩;have S2:=Lib.hid s2;have HD2:=Lib.hid p2;have HU2:=Lib.hid o2;clear p2 o2 s2 hcall S1;go_wp2_with fail
  go_loopg [6] N (fun _ s6 wr=>s6=.int .i64 20∧Aside (SWK enc k w0 blk off d2 wr))
  case atStart=>exact⟨rfl,S2.out⟩
  case round =>
   clear S2;obtain⟨rfl,S1⟩:=hrel;have hz2:¬(20:Int)<(N:Int):=zo;go_wp2_with fail
   go_end0
   exact⟨rfl,d2,HD2.out,HU2.out,S1.out⟩
end Go.Proofs.YteggjbgbknkoiaaGreatDoor
