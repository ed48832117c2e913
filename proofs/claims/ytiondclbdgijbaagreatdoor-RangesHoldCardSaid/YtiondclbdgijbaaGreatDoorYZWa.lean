import Derived.Test.YtiondclbdgijbaaGreatDoorYZV
import Derived.Handy
set_option maxHeartbeats 8000000
set_option maxRecDepth 100000
namespace Go.Proofs.YtiondclbdgijbaaGreatDoor
open Go.RowKit Tw
theorem bT {a b c:World} (h:Below a.heap.size a b) (k:Below b.heap.size b c:=by go_grown):Below a.heap.size a c:=below_trans h k
theorem zq {a b c:World} (k:Below b.heap.size b c) (h:Below a.heap.size a b:=by go_grown):Below a.heap.size a c:=below_trans h k
theorem zr (w:World):Below w.heap.size w w:=Below.refl _ w
theorem ze (n:Nat):∃b,b=n:=⟨_,rfl⟩
theorem zt {a b c d:World} (t:Hid (Tab a)) (h:Below a.heap.size a b) (k:Below b.heap.size b c) (l:Below c.heap.size c d:=by go_grown):Hid (Tab d):=Lib.hid (((t.out.below h).below k).below l)
def sgn (b:Bool) (n:Nat):Int:=if b then -(n:Int) else n
theorem sgn_abs (b:Bool) (n:Nat):(sgn b n).natAbs=n:=by unfold sgn;split<;>omega
theorem sgn_neg (b:Bool) (n:Nat):decide (sgn b n<0)=(b&&decide (n≠0)):=by
 unfold sgn
 cases b
 ·simp
 ·rw[Bool.eq_iff_iff];simp;omega
def TellsI (w:World) (z:Int) (m:Nat) (e:Ending) (w':World):Prop :=
 ∃A c l,e=.returned (.agg #[.bool (decide (z<0)),.slice A l c])∧C w' A c l z.natAbs∧l≤m∧Below w.heap.size w w'
theorem signed_at (b:Bool) (A:Option Addr) (l c:Nat) (w:World) :
  Calls Tryz.prog 66 #[.bool b,.slice A l c] w fun e w'=>e=.returned (.agg #[.bool (b&&decide (0<l)),.slice A l c])∧Below w.heap.size w w':=by
 cases b
 ·go_enter Tryz.func66,Tryz.ntmps66
  go_wp2_with fail
  go_returns
  exact⟨by simp,by go_grown⟩
 ·by_cases h:0<l
  ·have p1:decide ((0:Int)<(l:Int))=true:=by simp;omega
   go_enter Tryz.func66,Tryz.ntmps66
   go_wp2_with fail
   go_returns
   exact⟨by simp[h],by go_grown⟩
  ·have p1:decide ((0:Int)<(l:Int))=false:=by simp;omega
   go_enter Tryz.func66,Tryz.ntmps66
   go_wp2_with fail
   go_returns
   exact⟨by simp[h],by go_grown⟩
theorem signed_c {w:World} {A:Option Addr} {c l n:Nat} (b:Bool) (z:Int) (h:C w A c l n) (hz:sgn b n=z) :
  Calls Tryz.prog 66 #[.bool b,.slice A l c] w fun e w'=>e=.returned (.agg #[.bool (decide (z<0)),.slice A l c])∧Below w.heap.size w w':=by
 refine(signed_at b A l c w).mono fun e w' ⟨he,hb⟩=>⟨?_,hb⟩;rw[he,←hz,sgn_neg,←h.2];have:decide (0<nl n)=decide (n≠0):=by
  have:=@nl_eq_zero n;rw[Bool.eq_iff_iff];simp;omega
 rw[this]
def IBox (w:World) (b:Nat) (v0 v1:Value):Prop:=w.heap[b]?=some (.cells #[v0,v1] 45)
theorem IBox.lt {w:World} {b:Nat} {v0 v1:Value} (h:IBox w b v0 v1):b<w.heap.size:=by
 rcases eB b w.heap.size with h1 | h1
 ·exact h1
 ·unfold IBox at h;rw[gD zo] at h;cases h
theorem IBox.below {w w':World} {b:Nat} {v0 v1:Value} (h:IBox w b v0 v1) (hb:Below w.heap.size w w':=by go_grown):IBox w' b v0 v1:=(hb.block b h.lt).trans h
theorem IBox.drew {w:World} {b:Nat} {v0 v1:Value} (h:IBox w b v0 v1):IBox w.drew b v0 v1:=h
theorem IBox.look {w:World} {b:Nat} {v0 v1:Value} (h:IBox w b v0 v1) :
  (w.cell? ⟨b,0,none⟩=some v0∧w.cell? ⟨b,1,none⟩=some v1)∧(w.frozen? ⟨b,0,none⟩=false∧w.frozen? ⟨b,1,none⟩=false)∧b<w.heap.size:=by
 have hl:=h.lt;unfold IBox at h
 refine⟨⟨?_,?_⟩,⟨?_,?_⟩,hl⟩<;>simp[World.cell?,World.frozen?,h]
theorem IBox.new (w:World) (v0 v1:Value):IBox (w.alloc (.cells #[v0,v1] 45)) w.heap.size v0 v1:=heap_alloc_new _ _
theorem V.drew {w:World} {A:Option Addr} {c l n:Nat} (h:V w A c l n):V w.drew A c l n:=h.below (Below.drew (Below.refl _ _))
theorem C.drew {w:World} {A:Option Addr} {c l n:Nat} (h:C w A c l n):C w.drew A c l n:=h.below (Below.drew (Below.refl _ _))
theorem C.set {w:World} {A:Option Addr} {c l n:Nat} {p:Addr} {u:Value} (h:C w A c l n) (x:w.cell? p=some u) (hu:∀m,u≠.int .u64 m) (v:Value):C (w.setCell p v) A c l n:=by
 refine⟨⟨h.1.ok,h.1.le,fun hp=>?_⟩,h.2⟩;obtain⟨b,off,e,hc⟩:=h.1.cells hp;refine⟨b,off,e,fun k hk=>?_⟩;have h1:=hc k hk;rw[World.cell?_setCell_other]
 ·exact h1
 ·intro e;rw[←e,x] at h1;exact hu _ (Option.some.inj h1)
theorem C.box {w:World} {A:Option Addr} {c l n b:Nat} {s:Bool} {v' u v:Value} (h:C w A c l n) (x:w.cell? ⟨b,0,none⟩=some (.bool s)) (y:w.cell? ⟨b,1,none⟩=some v') (hv:∀m,v'≠.int .u64 m) :
  C ((w.setCell ⟨b,0,none⟩ u).setCell ⟨b,1,none⟩ v) A c l n :=
 (h.set x (fun m e=>by cases e) u).set ((World.cell?_setCell_other _ _ _ _ (by intro e;cases e)).trans y) hv v
theorem box1 (w:World) (v0 v1 u0 u1:Value):∃W,W=(w.alloc (.cells #[v0,v1] 45)).alloc (.cells #[u0,u1] 45)∧IBox W w.heap.size v0 v1∧IBox W (w.heap.size+1) u0 u1∧Below w.heap.size w W:=by
 refine⟨_,rfl,(IBox.new _ _ _).below (zAe _ _),?_,by go_grown⟩;have:=IBox.new (w.alloc (.cells #[v0,v1] 45)) u0 u1;simpa using this
section
variable {w:World} {A A':Option Addr} {c c' l l' n n':Nat}
theorem norm_v (b:Bool) (h:V w A c l n) (hl:l≤800000000000) :
  Calls Tryz.prog 70 #[.agg #[.bool b,.slice A l c]] w (TellsI w (sgn b n) l):=by
 obtain⟨W,hW,x0,x1,hB⟩:=box1 w (.bool b) (.slice A l c) (.bool false) (.slice none 0 0);have HV:=zh (h.below hB);have HX:=zh x0;have HY:=zh x1;obtain⟨⟨a1,a2⟩,_,a4⟩:=x0.look;clear h x0 x1;go_enter Tryz.func70,Tryz.ntmps70
 go_wp2_with fail
 rw[←hW];clear hW;go_region_with ((first
  | (go_at_call 80;refine(trim_v (by repeat (first | exact HV.out | apply V.drew)) hl).mono ?_;rintro e w1 ⟨A1,c1,l1,rfl,h1,m1,b1⟩;obtain⟨⟨x1,x2⟩,x3,x4⟩:=(HX.out.below (bT (by go_grown) b1)).look)
  | (go_at_call 66;refine(signed_c b (sgn b n) (by repeat (first | exact h1 | apply C.drew)) rfl).mono ?_;rintro e w2 ⟨rfl,b2⟩;have b3:=bT (bT (zq (a:=W) b1)) b2;obtain⟨⟨y1,y2⟩,⟨y3,y4⟩,y5⟩:=(HY.out.below b3).look)))
 all_goals
  go_wp2_with fail
  (try simp only[Exit.inBlock,Exit.then])
  refine bodyPost_ret (by simp[results,Tryz.results70,go_sem,y1,y2];try rfl) rfl ?_;exact⟨A1,c1,l1,rfl,by rw[sgn_abs];exact(h1.below (bT (by go_grown) b2)).box y1 y2 nofun,m1,((bT hB b3).setCell (by simp) _).setCell (by simp) _⟩
theorem neg_v (b:Bool) (h:V w A c l n) (hl:l≤800000000000) :
  Calls Tryz.prog 92 #[.agg #[.bool b,.slice A l c]] w (TellsI w (sgn (!b) n) l):=by
 obtain⟨W,hW,x0,x1,hB⟩:=box1 w (.bool b) (.slice A l c) (.bool false) (.slice none 0 0);have HV:=zh (h.below hB);have HX:=zh x0;have HY:=zh x1;obtain⟨⟨a1,a2⟩,_,a4⟩:=x0.look;clear h x0 x1;go_enter Tryz.func92,Tryz.ntmps92
 go_wp2_with fail
 rw[←hW];clear hW;go_region_with ((first
  | (go_at_call 80;refine(trim_v (by repeat (first | exact HV.out | apply V.drew)) hl).mono ?_;rintro e w1 ⟨A1,c1,l1,rfl,h1,m1,b1⟩;obtain⟨⟨x1,x2⟩,x3,x4⟩:=(HX.out.below (bT (by go_grown) b1)).look)
  | (go_at_call 66;refine(signed_c (!b) (sgn (!b) n) (by repeat (first | exact h1 | apply C.drew)) rfl).mono ?_;rintro e w2 ⟨rfl,b2⟩;have b3:=bT (bT (zq (a:=W) b1)) b2;obtain⟨⟨y1,y2⟩,⟨y3,y4⟩,y5⟩:=(HY.out.below b3).look)))
 all_goals
  go_wp2_with fail
  (try simp only[Exit.inBlock,Exit.then])
  refine bodyPost_ret (by simp[results,Tryz.results92,go_sem,y1,y2];try rfl) rfl ?_;exact⟨A1,c1,l1,rfl,by rw[sgn_abs];exact(h1.below (bT (by go_grown) b2)).box y1 y2 nofun,m1,((bT hB b3).setCell (by simp) _).setCell (by simp) _⟩
end
theorem sgn_sign (b:Bool) (n:Nat):(sgn b n).sign=if n=0 then 0 else if b=true then -1 else 1:=by
 unfold sgn
 by_cases h:n=0
 ·subst h;cases b<;>rfl
 ·rw[dA h];cases b
  ·exact yE (by simp;omega)
  ·exact jE (by simp;omega)
theorem bits_x {w:World} {A:Option Addr} {c l a:Nat} (z:Int) (h:V w A c l a) (hl:l≤800000000000) (hz:(nbits a:Int)=z):Calls Tryz.prog 93 #[.slice A l c] w fun e w'=>e=.returned (.int .i64 z)∧w=w':=by
 rw[←hz];exact bits_v h hl
section
variable {w:World} {A A':Option Addr} {c c' l l' n n':Nat}
theorem sign_x (b:Bool) (h:V w A c l n) (hl:l≤800000000000) (s:Int) (hs:(sgn b n).sign=s) :
  Calls Tryz.prog 63 #[.agg #[.bool b,.slice A l c]] w fun e w'=>e=.returned (.int .i64 s)∧w'=w.alloc (.cells #[.bool b,.slice A l c] 45):=by
 rw[sgn_sign] at hs;have HV:=zh (h.below (zAe w (.cells #[.bool b,.slice A l c] 45)));obtain⟨k,hk⟩:∃k:Nat,nbits n=k:=⟨_,rfl⟩;have HK:Hid ((nbits n:Int)=(k:Int)):=by show(nbits n:Int)=k;rw[hk]
 have hz:k=0↔n=0:=by rw[←hk];unfold nbits;split<;>omega
 clear h;by_cases h0:n=0
 ·have p1:((k:Int)==0)=true:=by simp;omega
  rw[bB h0] at hs;subst hs;clear hk hz h0;go_enter Tryz.func63,Tryz.ntmps63
  go_wp2_with fail
  refine(bits_x (k:Int) HV.out hl HK.out).mono ?_;rintro e _ ⟨rfl,rfl⟩;go_wp2_with fail
  go_returns
  exact⟨rfl,rfl⟩
 ·have p1:((k:Int)==0)=false:=by simp;omega
  rw[dA h0] at hs;clear hk hz h0;cases b
  ·have hs':s=1:=by simpa using hs.symm
   clear hs;subst hs';go_enter Tryz.func63,Tryz.ntmps63
   go_wp2_with fail
   refine(bits_x (k:Int) HV.out hl HK.out).mono ?_;rintro e _ ⟨rfl,rfl⟩;go_wp2_with fail
   go_returns
   exact⟨rfl,rfl⟩
  ·have hs':s = -1:=by simpa using hs.symm
   clear hs;subst hs';go_enter Tryz.func63,Tryz.ntmps63
   go_wp2_with fail
   refine(bits_x (k:Int) HV.out hl HK.out).mono ?_;rintro e _ ⟨rfl,rfl⟩;go_wp2_with fail
   go_returns
   exact⟨rfl,rfl⟩
theorem sign_v (b:Bool) (h:V w A c l n) (hl:l≤800000000000) (s:Int) (hs:(sgn b n).sign=s) :
  Calls Tryz.prog 63 #[.agg #[.bool b,.slice A l c]] w fun e w'=>e=.returned (.int .i64 s)∧Below w.heap.size w w' :=
 (sign_x b h hl s hs).mono fun e w' ⟨he,hw⟩=>⟨he,by rw[hw];exact zAe _ _⟩
theorem below_x (b:Bool) (h:V w A c l n) (hl:l≤800000000000) (t:Bool) (ht:decide (sgn b n<0)=t) :
  Calls Tryz.prog 77 #[.agg #[.bool b,.slice A l c]] w fun e w'=>e=.returned (.bool t)∧w'=(w.alloc (.cells #[.bool b,.slice A l c] 45)).alloc (.cells #[.bool b,.slice A l c] 45):=by
 have HV:=zh (h.below (zAe w (.cells #[.bool b,.slice A l c] 45)));obtain⟨s,hs⟩:∃s,(sgn b n).sign=s:=⟨_,rfl⟩;have p1:decide (s<0)=t:=by
  rw[←ht,←hs];rw[Bool.eq_iff_iff];simp
 have HS:=zh hs;clear h hs ht;go_enter Tryz.func77,Tryz.ntmps77
 go_wp2_with fail
 refine(sign_x b HV.out hl s HS.out).mono ?_;rintro e _ ⟨rfl,rfl⟩;go_wp2_with fail
 go_returns
 exact⟨rfl,rfl⟩
end
theorem cell_off {w:World} {b b' j:Nat} {u v:Value} (h:b≠b'):((w.setCell ⟨b,0,none⟩ u).setCell ⟨b,1,none⟩ v).cell? ⟨b',j,none⟩=w.cell? ⟨b',j,none⟩:=by
 rw[World.cell?_setCell_other _ _ _ _ (by intro e;cases e;exact h rfl),World.cell?_setCell_other _ _ _ _ (by intro e;cases e;exact h rfl)]
theorem box2 (w:World) (v0 v1 u0 u1 r0 r1:Value):∃W,W=((w.alloc (.cells #[v0,v1] 45)).alloc (.cells #[u0,u1] 45)).alloc (.cells #[r0,r1] 45)∧IBox W w.heap.size v0 v1∧IBox W (w.heap.size+1) u0 u1∧IBox W (w.heap.size+1+1) r0 r1∧Below w.heap.size w W:=by
 obtain⟨W,hW,x0,x1,hB⟩:=box1 w v0 v1 u0 u1;have hs:W.heap.size=w.heap.size+1+1:=by rw[hW];simp
 have:=IBox.new W r0 r1;rw[hs] at this;refine⟨_,rfl,?_,?_,?_,?_⟩
 ·rw[←hW];exact x0.below (zAe _ _)
 ·rw[←hW];exact x1.below (zAe _ _)
 ·rw[←hW];exact this
 ·rw[←hW];exact bT hB (zAe _ _)
theorem sgn_mul (b b':Bool) (n n':Nat):sgn (b != b') (n*n')=sgn b n*sgn b' n':=by
 unfold sgn
 cases b<;>cases b'<;>simp[Int.mul_neg,Int.neg_mul]
section
variable {w:World} {A A':Option Addr} {c c' l l' n n':Nat}
theorem mul_i (b b':Bool) (h:V w A c l n) (h':V w A' c' l' n') (hl:l+l'≤800000000000) :
  Calls Tryz.prog 33 #[.agg #[.bool b,.slice A l c],.agg #[.bool b',.slice A' l' c']] w (TellsI w (sgn b n*sgn b' n') (l+l')):=by
 rw[←sgn_mul];obtain⟨W,hW,x0,x1,x2,hB⟩:=box2 w (.bool b) (.slice A l c) (.bool b') (.slice A' l' c') (.bool false) (.slice none 0 0);have HV:=zh (h.below hB);have HV':=zh (h'.below hB);have HX:=zh x0;have HX':=zh x1;have HY:=zh x2;obtain⟨⟨a1,a2⟩,_,a4⟩:=x0.look;obtain⟨⟨a1',a2'⟩,_,a4'⟩:=x1.look;clear h h' x0 x1 x2;go_enter Tryz.func33,Tryz.ntmps33
 go_wp2_with fail
 rw[←hW];clear hW;go_region_held3 (fun w'=>w'.cell? ⟨w.heap.size,0,none⟩=some (.bool b)∧w'.cell? ⟨w.heap.size,1,none⟩=some (.slice A l c)∧w'.cell? ⟨w.heap.size+1,0,none⟩=some (.bool b')∧w'.cell? ⟨w.heap.size+1,1,none⟩=some (.slice A' l' c'))
  (first | exact⟨a1,a2,a1',a2'⟩ | exact⟨x1,x2,x1',x2'⟩ | exact⟨s1,s2,s1',s2'⟩ | exact⟨(cell_off zo).trans s1,(cell_off zo).trans s2,(cell_off zo).trans s1',(cell_off zo).trans s2'⟩ | go_keep)
  (first
   | (go_at_call 67;refine(mul_v (by repeat (first | exact HV.out | apply V.drew)) (by repeat (first | exact HV'.out | apply V.drew)) hl).mono ?_;rintro e w1 ⟨A1,c1,l1,rfl,h1,m1,b1⟩;obtain⟨⟨x1,x2⟩,x3,x4⟩:=(HX.out.below (bT (by go_grown) b1)).look;obtain⟨⟨x1',x2'⟩,x3',x4'⟩:=(HX'.out.below (bT (by go_grown) b1)).look)
   | (go_at_call 66;refine(signed_c (b != b') (sgn (b != b') (n*n')) (by repeat (first | exact h1 | apply C.drew)) rfl).mono ?_;rintro e w2 ⟨rfl,b2⟩;have b3:=bT (bT (zq (a:=W) b1)) b2;obtain⟨⟨y1,y2⟩,⟨y3,y4⟩,y5⟩:=(HY.out.below b3).look;obtain⟨⟨s1,s2⟩,s3,s4⟩:=(HX.out.below b3).look;obtain⟨⟨s1',s2'⟩,s3',s4'⟩:=(HX'.out.below b3).look))
 all_goals
  go_wp2_with fail
  (try simp only[Exit.inBlock,Exit.then])
  have q1:w2.cell? ⟨w.heap.size+2,0,none⟩=some (.bool false):=y1;have q2:w2.cell? ⟨w.heap.size+2,1,none⟩=some (.slice none 0 0):=y2;refine bodyPost_ret (by simp[results,Tryz.results33,go_sem,q1,q2];try rfl) rfl ?_;exact⟨A1,c1,l1,rfl,by rw[sgn_abs];exact(h1.below (bT (by go_grown) b2)).box y1 y2 nofun,m1,((bT hB b3).setCell (by simp only[];omega) _).setCell (by simp only[];omega) _⟩
end
section
variable {w:World} {A A':Option Addr} {c c' l l' n n':Nat}
theorem below_v (b:Bool) (h:V w A c l n) (hl:l≤800000000000) (t:Bool) (ht:decide (sgn b n<0)=t) :
  Calls Tryz.prog 77 #[.agg #[.bool b,.slice A l c]] w fun e w'=>e=.returned (.bool t)∧Below w.heap.size w w' :=
 (below_x b h hl t ht).mono fun e w' ⟨he,hw⟩=>⟨he,by rw[hw];exact bT (zAe _ _) (zAe _ _)⟩
theorem add_same (b b' t:Bool) (h:V w A c l n) (h':V w A' c' l' n') (hl:l+l'≤800000000000) (ht:Hid (decide (sgn b n<0)=t)) (ht':Hid (decide (sgn b' n'<0)=t)) :
  Calls Tryz.prog 44 #[.agg #[.bool b,.slice A l c],.agg #[.bool b',.slice A' l' c']] w (TellsI w (sgn t (n+n')) (max l l'+1)):=by
 obtain⟨W,hW,x0,x1,x2,hB⟩:=box2 w (.bool b) (.slice A l c) (.bool b') (.slice A' l' c') (.bool false) (.slice none 0 0);have HV:=zh (h.below hB);have HV':=zh (h'.below hB);have HX:=zh x0;have HX':=zh x1;have HY:=zh x2;obtain⟨⟨a1,a2⟩,_,a4⟩:=x0.look;obtain⟨⟨a1',a2'⟩,_,a4'⟩:=x1.look;have Bz:=zr W;have p1:(t==t)=true:=by simp
 clear h h' x0 x1 x2;go_enter Tryz.func44,Tryz.ntmps44
 go_wp2_with fail
 rw[←hW];clear hW;go_region_held3 (fun w'=>w'.cell? ⟨w.heap.size,0,none⟩=some (.bool b)∧w'.cell? ⟨w.heap.size,1,none⟩=some (.slice A l c)∧w'.cell? ⟨w.heap.size+1,0,none⟩=some (.bool b')∧w'.cell? ⟨w.heap.size+1,1,none⟩=some (.slice A' l' c'))
  (first | exact⟨a1,a2,a1',a2'⟩ | go_keep)
  (first
   | (go_at_call 77;refine(below_v b (HV.out.below (bT Bz)) zo t ht.out).mono ?_;rintro e wz ⟨rfl,bz⟩;have Bz:=bT (bT Bz) bz;obtain⟨⟨a1,a2⟩,a3,a4⟩:=(HX.out.below Bz).look;obtain⟨⟨a1',a2'⟩,a3',a4'⟩:=(HX'.out.below Bz).look)
   | (go_at_call 77;refine(below_v b' (HV'.out.below (bT Bz)) zo t ht'.out).mono ?_;rintro e wz ⟨rfl,bz⟩;have Bz:=bT (bT Bz) bz;obtain⟨⟨a1,a2⟩,a3,a4⟩:=(HX.out.below Bz).look;obtain⟨⟨a1',a2'⟩,a3',a4'⟩:=(HX'.out.below Bz).look))
 all_goals
  go_wp2_with fail
  go_region_held3 (fun w'=>w'.cell? ⟨w.heap.size,0,none⟩=some (.bool b)∧w'.cell? ⟨w.heap.size,1,none⟩=some (.slice A l c)∧w'.cell? ⟨w.heap.size+1,0,none⟩=some (.bool b')∧w'.cell? ⟨w.heap.size+1,1,none⟩=some (.slice A' l' c'))
   (first | exact⟨a1,a2,a1',a2'⟩ | exact⟨(cell_off zo).trans a1,(cell_off zo).trans a2,(cell_off zo).trans a1',(cell_off zo).trans a2'⟩ | go_keep)
   (first
    | (go_at_call 77;refine(below_v b (HV.out.below (bT Bz)) zo t ht.out).mono ?_;rintro e wz ⟨rfl,bz⟩;have Bz:=bT (bT Bz) bz;obtain⟨⟨a1,a2⟩,a3,a4⟩:=(HX.out.below Bz).look;obtain⟨⟨a1',a2'⟩,a3',a4'⟩:=(HX'.out.below Bz).look)
    | (go_at_call 78;refine(add_v (HV.out.below (bT Bz)) (HV'.out.below (bT Bz)) hl).mono ?_;rintro e w1 ⟨A1,c1,l1,rfl,h1,m1,b1⟩;have Bz:=bT (bT Bz) b1;obtain⟨⟨a1,a2⟩,a3,a4⟩:=(HX.out.below Bz).look;obtain⟨⟨a1',a2'⟩,a3',a4'⟩:=(HX'.out.below Bz).look)
    | (go_at_call 66;refine(signed_c t (sgn t (n+n')) (by first | exact h1 | exact h1.drew | exact h1.below bz | exact h1.below (bT (by go_grown) bz)) rfl).mono ?_;rintro e w2 ⟨rfl,b2⟩;have h2:C w2 A1 c1 l1 (n+n'):=(by first | exact h1.below b2 | exact h1.below (bT bz b2) | exact h1.below (bT (by go_grown) b2) | exact h1.below (bT (bT (by go_grown) bz) b2) | exact h1.below (bT (bT (bT (by go_grown) bz)) b2));have Bz:=bT (bT Bz) b2;obtain⟨⟨a1,a2⟩,a3,a4⟩:=(HX.out.below Bz).look;obtain⟨⟨a1',a2'⟩,a3',a4'⟩:=(HX'.out.below Bz).look;obtain⟨⟨y1,y2⟩,⟨y3,y4⟩,y5⟩:=(HY.out.below Bz).look))
 all_goals
  go_wp2_with fail
  (try simp only[Exit.inBlock,Exit.then])
  have q1:w2.cell? ⟨w.heap.size+2,0,none⟩=some (.bool false):=y1;have q2:w2.cell? ⟨w.heap.size+2,1,none⟩=some (.slice none 0 0):=y2;refine bodyPost_ret (by simp[results,Tryz.results44,go_sem,q1,q2];try rfl) rfl ?_;exact⟨A1,c1,l1,rfl,by rw[sgn_abs];exact h2.box y1 y2 nofun,m1,((bT hB Bz).setCell (by simp only[];omega) _).setCell (by simp only[];omega) _⟩
end
section
variable {w:World} {A A':Option Addr} {c c' l l' n n':Nat}
theorem add_keep (b b' t:Bool) (h:V w A c l n) (h':V w A' c' l' n') (hl:l+l'≤800000000000) (ht:Hid (decide (sgn b n<0)=t)) (ht':Hid (decide (sgn b' n'<0)=!t)) (z:Int) (hz:Hid (cmpI (n:Int) (n':Int)=z)) (p2:decide (z<0)=false) :
  Calls Tryz.prog 44 #[.agg #[.bool b,.slice A l c],.agg #[.bool b',.slice A' l' c']] w (TellsI w (sgn t (n-n')) l):=by
 have p1:(t==!t)=false:=by cases t<;>rfl
 obtain⟨W,hW,x0,x1,x2,hB⟩:=box2 w (.bool b) (.slice A l c) (.bool b') (.slice A' l' c') (.bool false) (.slice none 0 0);have HV:=zh (h.below hB);have HV':=zh (h'.below hB);have HX:=zh x0;have HX':=zh x1;have HY:=zh x2;obtain⟨⟨a1,a2⟩,⟨a3,a3b⟩,a4⟩:=x0.look;obtain⟨⟨a1',a2'⟩,⟨a3',a3b'⟩,a4'⟩:=x1.look;have Bz:=zr W;clear h h' x0 x1 x2;go_enter Tryz.func44,Tryz.ntmps44
 go_wp2_with fail
 rw[←hW];clear hW;go_region_held3 (fun w'=>w'.cell? ⟨w.heap.size,0,none⟩=some (.bool b)∧w'.cell? ⟨w.heap.size,1,none⟩=some (.slice A l c)∧w'.cell? ⟨w.heap.size+1,0,none⟩=some (.bool b')∧w'.cell? ⟨w.heap.size+1,1,none⟩=some (.slice A' l' c'))
  (first | exact⟨a1,a2,a1',a2'⟩ | go_keep)
  (first
   | (go_at_call 77;refine(below_v b (HV.out.below (bT Bz)) zo t ht.out).mono ?_;rintro e wz ⟨rfl,bz⟩;have Bz:=bT (bT Bz) bz;obtain⟨⟨a1,a2⟩,⟨a3,a3b⟩,a4⟩:=(HX.out.below Bz).look;obtain⟨⟨a1',a2'⟩,⟨a3',a3b'⟩,a4'⟩:=(HX'.out.below Bz).look)
   | (go_at_call 77;refine(below_v b' (HV'.out.below (bT Bz)) zo (!t) ht'.out).mono ?_;rintro e wz ⟨rfl,bz⟩;have Bz:=bT (bT Bz) bz;obtain⟨⟨a1,a2⟩,⟨a3,a3b⟩,a4⟩:=(HX.out.below Bz).look;obtain⟨⟨a1',a2'⟩,⟨a3',a3b'⟩,a4'⟩:=(HX'.out.below Bz).look))
 all_goals
  go_wp2_with fail
  refine(cmp_v z (HV.out.below (bT Bz)) (HV'.out.below (bT Bz)) hl hz.out).mono ?_;rintro e wz ⟨rfl,bz⟩;have Bz:=bT (bT Bz) bz;obtain⟨⟨a1,a2⟩,⟨a3,a3b⟩,a4⟩:=(HX.out.below Bz).look;obtain⟨⟨a1',a2'⟩,⟨a3',a3b'⟩,a4'⟩:=(HX'.out.below Bz).look;go_wp2_with fail
  go_region_held3 (fun w'=>w'.cell? ⟨w.heap.size,0,none⟩=some (.bool b)∧w'.cell? ⟨w.heap.size,1,none⟩=some (.slice A l c)∧w'.cell? ⟨w.heap.size+1,0,none⟩=some (.bool b')∧w'.cell? ⟨w.heap.size+1,1,none⟩=some (.slice A' l' c'))
   (first | exact⟨a1,a2,a1',a2'⟩ | exact⟨(cell_off zo).trans a1,(cell_off zo).trans a2,(cell_off zo).trans a1',(cell_off zo).trans a2'⟩ | go_keep)
   (first
    | (go_at_call 77;refine(below_v b (HV.out.below (bT Bz)) zo t ht.out).mono ?_;rintro e wz ⟨rfl,bz⟩;have Bz:=bT (bT Bz) bz;obtain⟨⟨a1,a2⟩,⟨a3,a3b⟩,a4⟩:=(HX.out.below Bz).look;obtain⟨⟨a1',a2'⟩,⟨a3',a3b'⟩,a4'⟩:=(HX'.out.below Bz).look)
    | (go_at_call 79;refine(sub_v (HV.out.below (bT Bz)) (HV'.out.below (bT Bz)) zo).mono ?_;rintro e w1 ⟨A1,c1,l1,rfl,h1,m1,b1⟩;have Bz:=bT (bT Bz) b1;obtain⟨⟨a1,a2⟩,⟨a3,a3b⟩,a4⟩:=(HX.out.below Bz).look;obtain⟨⟨a1',a2'⟩,⟨a3',a3b'⟩,a4'⟩:=(HX'.out.below Bz).look)
    | (go_at_call 66;refine(signed_c t (sgn t (n-n')) (by first | exact h1 | exact h1.drew | exact h1.below bz | exact h1.below (bT (by go_grown) bz)) rfl).mono ?_;rintro e w2 ⟨rfl,b2⟩;have h2:C w2 A1 c1 l1 (n-n'):=(by first | exact h1.below b2 | exact h1.below (bT bz b2) | exact h1.below (bT (by go_grown) b2) | exact h1.below (bT (bT (by go_grown) bz) b2) | exact h1.below (bT (bT (bT (by go_grown) bz)) b2));have Bz:=bT (bT Bz) b2;obtain⟨⟨a1,a2⟩,⟨a3,a3b⟩,a4⟩:=(HX.out.below Bz).look;obtain⟨⟨a1',a2'⟩,⟨a3',a3b'⟩,a4'⟩:=(HX'.out.below Bz).look;obtain⟨⟨y1,y2⟩,⟨y3,y4⟩,y5⟩:=(HY.out.below Bz).look))
 all_goals
  go_wp2_with fail
  (try simp only[Exit.inBlock,Exit.then])
  have q1:w2.cell? ⟨w.heap.size+2,0,none⟩=some (.bool false):=y1;have q2:w2.cell? ⟨w.heap.size+2,1,none⟩=some (.slice none 0 0):=y2;refine bodyPost_ret (by simp[results,Tryz.results44,go_sem,q1,q2];try rfl) rfl ?_;exact⟨A1,c1,l1,rfl,by rw[sgn_abs];exact h2.box y1 y2 nofun,m1,((bT hB Bz).setCell (by simp only[];omega) _).setCell (by simp only[];omega) _⟩
end
theorem V.set {w:World} {A:Option Addr} {c l n:Nat} {p:Addr} {u:Value} (h:V w A c l n) (x:w.cell? p=some u) (hu:∀m,u≠.int .u64 m) (v:Value):V (w.setCell p v) A c l n:=by
 obtain⟨xs,h1,h2,h3⟩:=h;refine⟨xs,⟨h1.ok,h1.le,fun hp=>?_⟩,h2,h3⟩;obtain⟨b,off,e,hc⟩:=h1.cells hp;refine⟨b,off,e,fun k hk=>?_⟩;have h4:=hc k hk;rw[World.cell?_setCell_other]
 ·exact h4
 ·intro e;rw[←e,x] at h4;exact hu _ (Option.some.inj h4)
theorem V.box {w:World} {A:Option Addr} {c l n b:Nat} {s:Bool} {B':Option Addr} {m k:Nat} {u v:Value} (h:V w A c l n) (x:IBox w b (.bool s) (.slice B' m k)) :
  V ((w.setCell ⟨b,0,none⟩ u).setCell ⟨b,1,none⟩ v) A c l n :=
 (h.set x.look.1.1 (fun m e=>by cases e) u).set ((World.cell?_setCell_other _ _ _ _ (by intro e;cases e)).trans x.look.1.2) nofun v
theorem IBox.set {w:World} {b:Nat} {v0 v1 u v:Value} (h:IBox w b v0 v1):IBox ((w.setCell ⟨b,0,none⟩ u).setCell ⟨b,1,none⟩ v) b u v:=by
 unfold IBox at h ⊢
 have h1:=heap_setCell_same w b 0 _ _ u h;have h2:=heap_setCell_same _ b 1 _ _ v h1;rw[h2];rfl
theorem IBox.other {w:World} {b b':Nat} {v0 v1 u v:Value} (h:IBox w b v0 v1) (hne:b'≠b):IBox ((w.setCell ⟨b',0,none⟩ u).setCell ⟨b',1,none⟩ v) b v0 v1:=by
 unfold IBox at h ⊢
 have:=Below.heap_setCell (w.setCell ⟨b',0,none⟩ u) ⟨b',1,none⟩ v b (by simpa using Ne.symm hne);have h2:=Below.heap_setCell w ⟨b',0,none⟩ u b (by simpa using Ne.symm hne);rw[this,h2,h]
theorem swapped {w:World} {i j k:Nat} {b b':Bool} {A A':Option Addr} {l l' c c':Nat} {r0 r1:Value} (hij:i≠j) (hik:i≠k) (hjk:j≠k) (x:IBox w i (.bool b) (.slice A l c)) (y:IBox w j (.bool b') (.slice A' l' c')) (z:IBox w k r0 r1) :
  ∃W,W=(((w.setCell ⟨i,0,none⟩ (.bool b')).setCell ⟨i,1,none⟩ (.slice A' l' c')).setCell ⟨j,0,none⟩ (.bool b)).setCell ⟨j,1,none⟩ (.slice A l c)∧IBox W i (.bool b') (.slice A' l' c')∧IBox W j (.bool b) (.slice A l c)∧IBox W k r0 r1∧(∀A c l n,V w A c l n→V W A c l n)∧∀B,B≤i→B≤j→∀v,Below B v w→Below B v W:=by
 have y2:IBox ((w.setCell ⟨i,0,none⟩ (.bool b')).setCell ⟨i,1,none⟩ (.slice A' l' c')) j (.bool b') (.slice A' l' c'):=y.other hij;refine⟨_,rfl,x.set.other hij.symm,y2.set,(z.other hik).other hjk,fun A c l n h=>(h.box x).box y2,fun B h1 h2 v h=>((((h.setCell h1 _).setCell h1 _).setCell h2 _).setCell h2 _)⟩
section
variable {w:World} {A A':Option Addr} {c c' l l' n n':Nat}
theorem add_swap (b b' t:Bool) (h:V w A c l n) (h':V w A' c' l' n') (hl:l+l'≤800000000000) (ht:Hid (decide (sgn b n<0)=t)) (ht':Hid (decide (sgn b' n'<0)=!t)) (z:Int) (hz:Hid (cmpI (n:Int) (n':Int)=z)) (p2:decide (z<0)=true) :
  Calls Tryz.prog 44 #[.agg #[.bool b,.slice A l c],.agg #[.bool b',.slice A' l' c']] w (TellsI w (sgn (!t) (n'-n)) l'):=by
 have p1:(t==!t)=false:=by cases t<;>rfl
 obtain⟨W,hW,x0,x1,x2,hB⟩:=box2 w (.bool b) (.slice A l c) (.bool b') (.slice A' l' c') (.bool false) (.slice none 0 0);have HV:=zh (h.below hB);have HV':=zh (h'.below hB);have HX:=zh x0;have HX':=zh x1;have HY:=zh x2;obtain⟨⟨a1,a2⟩,⟨a3,a3b⟩,a4⟩:=x0.look;obtain⟨⟨a1',a2'⟩,⟨a3',a3b'⟩,a4'⟩:=x1.look;have Bz:=zr W;clear h h' x0 x1 x2;go_enter Tryz.func44,Tryz.ntmps44
 go_wp2_with fail
 rw[←hW];clear hW;go_region_held3 (fun w'=>w'.cell? ⟨w.heap.size,0,none⟩=some (.bool b)∧w'.cell? ⟨w.heap.size,1,none⟩=some (.slice A l c)∧w'.cell? ⟨w.heap.size+1,0,none⟩=some (.bool b')∧w'.cell? ⟨w.heap.size+1,1,none⟩=some (.slice A' l' c'))
  (first | exact⟨a1,a2,a1',a2'⟩ | go_keep)
  (first
   | (go_at_call 77;refine(below_v b (HV.out.below (bT Bz)) zo t ht.out).mono ?_;rintro e wz ⟨rfl,bz⟩;have Bz:=bT (bT Bz) bz;obtain⟨⟨a1,a2⟩,⟨a3,a3b⟩,a4⟩:=(HX.out.below Bz).look;obtain⟨⟨a1',a2'⟩,⟨a3',a3b'⟩,a4'⟩:=(HX'.out.below Bz).look)
   | (go_at_call 77;refine(below_v b' (HV'.out.below (bT Bz)) zo (!t) ht'.out).mono ?_;rintro e wz ⟨rfl,bz⟩;have Bz:=bT (bT Bz) bz;obtain⟨⟨a1,a2⟩,⟨a3,a3b⟩,a4⟩:=(HX.out.below Bz).look;obtain⟨⟨a1',a2'⟩,⟨a3',a3b'⟩,a4'⟩:=(HX'.out.below Bz).look))
 all_goals
  go_wp2_with fail
  refine(cmp_v z (HV.out.below (bT Bz)) (HV'.out.below (bT Bz)) hl hz.out).mono ?_;rintro e wz ⟨rfl,bz⟩;have Bz:=bT (bT Bz) bz;obtain⟨⟨a1,a2⟩,⟨a3,a3b⟩,a4⟩:=(HX.out.below Bz).look;obtain⟨⟨a1',a2'⟩,⟨a3',a3b'⟩,a4'⟩:=(HX'.out.below Bz).look;obtain⟨W2,hW2,u0,u1,u2,hv,hbb⟩:=swapped zo zo zo (HX.out.below Bz) (HX'.out.below Bz) (HY.out.below Bz);have HU:=zh hW2;have gV:=zh (hv _ _ _ _ (HV.out.below Bz));have gV':=zh (hv _ _ _ _ (HV'.out.below Bz));have gB:=zh (hbb w.heap.size zo zo w (bT hB Bz));clear hW2 hv hbb;go_wp2_with fail
  rw[←HU.out];clear HV HV' HX HX' HY HU;have HV:=gV;have HV':=gV';have HX:=zh u0;have HX':=zh u1;have HY:=zh u2;clear gV gV' Bz hB;have hB:=gB.out;clear gB;have Bz:=zr W2;obtain⟨⟨a1,a2⟩,⟨a3,a3b⟩,a4⟩:=(HX.out.below Bz).look;obtain⟨⟨a1',a2'⟩,⟨a3',a3b'⟩,a4'⟩:=(HX'.out.below Bz).look;clear u0 u1 u2;go_region_held3 (fun w'=>w'.cell? ⟨w.heap.size,0,none⟩=some (.bool b')∧w'.cell? ⟨w.heap.size,1,none⟩=some (.slice A' l' c')∧w'.cell? ⟨w.heap.size+1,0,none⟩=some (.bool b)∧w'.cell? ⟨w.heap.size+1,1,none⟩=some (.slice A l c))
   (first | exact⟨a1,a2,a1',a2'⟩ | exact⟨(cell_off zo).trans a1,(cell_off zo).trans a2,(cell_off zo).trans a1',(cell_off zo).trans a2'⟩ | go_keep)
   (first
    | (go_at_call 77;refine(below_v b' (HV'.out.below (bT Bz)) zo (!t) ht'.out).mono ?_;rintro e wz ⟨rfl,bz⟩;have Bz:=bT (bT Bz) bz;obtain⟨⟨a1,a2⟩,⟨a3,a3b⟩,a4⟩:=(HX.out.below Bz).look;obtain⟨⟨a1',a2'⟩,⟨a3',a3b'⟩,a4'⟩:=(HX'.out.below Bz).look)
    | (go_at_call 79;refine(sub_v (HV'.out.below (bT Bz)) (HV.out.below (bT Bz)) zo).mono ?_;rintro e w1 ⟨A1,c1,l1,rfl,h1,m1,b1⟩;have Bz:=bT (bT Bz) b1;obtain⟨⟨a1,a2⟩,⟨a3,a3b⟩,a4⟩:=(HX.out.below Bz).look;obtain⟨⟨a1',a2'⟩,⟨a3',a3b'⟩,a4'⟩:=(HX'.out.below Bz).look)
    | (go_at_call 66;refine(signed_c (!t) (sgn (!t) (n'-n)) (by first | exact h1 | exact h1.drew | exact h1.below bz | exact h1.below (bT (by go_grown) bz)) rfl).mono ?_;rintro e w2 ⟨rfl,b2⟩;have h2:C w2 A1 c1 l1 (n'-n):=(by first | exact h1.below b2 | exact h1.below (bT bz b2) | exact h1.below (bT (by go_grown) b2) | exact h1.below (bT (bT (by go_grown) bz) b2) | exact h1.below (bT (bT (bT (by go_grown) bz)) b2));have Bz:=bT (bT Bz) b2;obtain⟨⟨a1,a2⟩,⟨a3,a3b⟩,a4⟩:=(HX.out.below Bz).look;obtain⟨⟨a1',a2'⟩,⟨a3',a3b'⟩,a4'⟩:=(HX'.out.below Bz).look;obtain⟨⟨y1,y2⟩,⟨y3,y4⟩,y5⟩:=(HY.out.below Bz).look))
 all_goals
  go_wp2_with fail
  (try simp only[Exit.inBlock,Exit.then])
  have q1:w2.cell? ⟨w.heap.size+2,0,none⟩=some (.bool false):=y1;have q2:w2.cell? ⟨w.heap.size+2,1,none⟩=some (.slice none 0 0):=y2;refine bodyPost_ret (by simp[results,Tryz.results44,go_sem,q1,q2];try rfl) rfl ?_;exact⟨A1,c1,l1,rfl,by rw[sgn_abs];exact h2.box y1 y2 nofun,m1,((bT hB Bz).setCell (by simp only[];omega) _).setCell (by simp only[];omega) _⟩
end
def I (w:World) (b:Bool) (A:Option Addr) (c l:Nat) (z:Int):Prop:=∃n,V w A c l n∧sgn b n=z
def J (w:World) (b:Bool) (A:Option Addr) (c l:Nat) (z:Int):Prop:=C w A c l z.natAbs∧b=decide (z<0)
theorem sgn_self (z:Int):sgn (decide (z<0)) z.natAbs=z:=by
 unfold sgn
 by_cases h:z<0
 ·rw[bB (by simpa using h)];omega
 ·rw[dA (by simpa using h)];omega
theorem J.i {w:World} {b:Bool} {A:Option Addr} {c l:Nat} {z:Int} (h:J w b A c l z):I w b A c l z:=by
 obtain⟨h1,rfl⟩:=h;exact⟨_,h1.v,sgn_self z⟩
theorem I.below {w w':World} {b:Bool} {A:Option Addr} {c l:Nat} {z:Int} (h:I w b A c l z) (hb:Below w.heap.size w w':=by go_grown):I w' b A c l z:=by
 obtain⟨n,h1,h2⟩:=h;exact⟨n,h1.below hb,h2⟩
theorem J.below {w w':World} {b:Bool} {A:Option Addr} {c l:Nat} {z:Int} (h:J w b A c l z) (hb:Below w.heap.size w w':=by go_grown):J w' b A c l z:=⟨h.1.below hb,h.2⟩
theorem I.neg {w:World} {b:Bool} {A:Option Addr} {c l:Nat} {z:Int} (h:I w b A c l z):I w (!b) A c l (-z):=by
 obtain⟨n,h1,rfl⟩:=h;exact⟨n,h1,by unfold sgn;cases b<;>simp⟩
theorem J.box {w:World} {s:Bool} {A:Option Addr} {c l b:Nat} {z:Int} {s':Bool} {v' u v:Value} (h:J w s A c l z) (x:w.cell? ⟨b,0,none⟩=some (.bool s')) (y:w.cell? ⟨b,1,none⟩=some v') (hv:∀m,v'≠.int .u64 m) :
  J ((w.setCell ⟨b,0,none⟩ u).setCell ⟨b,1,none⟩ v) s A c l z:=⟨h.1.box x y hv,h.2⟩
def TellsZ (w:World) (z:Int) (m:Nat) (e:Ending) (w':World):Prop :=
 ∃b A c l,e=.returned (.agg #[.bool b,.slice A l c])∧J w' b A c l z∧l≤m∧Below w.heap.size w w'
theorem TellsI.z {w:World} {z z':Int} {m m':Nat} {e:Ending} {w':World} (h:TellsI w z m e w') (hz:z=z') (hm:m≤m'):TellsZ w z' m' e w':=by
 subst hz;obtain⟨A,c,l,he,h1,h2,h3⟩:=h;exact⟨_,A,c,l,he,⟨h1,rfl⟩,zo,h3⟩
theorem sgn_dec (b:Bool) (n:Nat):sgn b n=sgn (decide (sgn b n<0)) n:=by
 rw[sgn_neg];unfold sgn
 by_cases h:n=0
 ·subst h;cases b<;>rfl
 ·cases b<;>simp[h]
theorem sgn_add (b b' t:Bool) (n n':Nat) (h:decide (sgn b n<0)=t) (h':decide (sgn b' n'<0)=t):sgn t (n+n')=sgn b n+sgn b' n':=by
 rw[sgn_dec b n,sgn_dec b' n',h,h'];unfold sgn
 cases t<;>simp<;>omega
theorem sgn_sub (b b' t:Bool) (n n':Nat) (h:decide (sgn b n<0)=t) (h':decide (sgn b' n'<0)=!t) (hn:n'≤n):sgn t (n-n')=sgn b n+sgn b' n':=by
 rw[sgn_dec b n,sgn_dec b' n',h,h'];unfold sgn
 cases t<;>simp<;>omega
section
variable {w:World} {A A':Option Addr} {c c' l l':Nat} {b b':Bool} {z z':Int}
theorem add_z (h:I w b A c l z) (h':I w b' A' c' l' z') (hl:l+l'≤800000000000) :
  Calls Tryz.prog 44 #[.agg #[.bool b,.slice A l c],.agg #[.bool b',.slice A' l' c']] w (TellsZ w (z+z') (max l l'+1)):=by
 obtain⟨n,h1,rfl⟩:=h;obtain⟨n',h1',rfl⟩:=h';by_cases ht:decide (sgn b' n'<0)=decide (sgn b n<0)
 ·exact(add_same b b' _ h1 h1' hl (zh rfl) (zh ht)).mono fun e w' he=>he.z (sgn_add b b' _ n n' rfl ht) (aA _)
 ·have ht':decide (sgn b' n'<0)=!decide (sgn b n<0):=by
   revert ht
   cases decide (sgn b' n'<0)<;>cases decide (sgn b n<0)<;>simp
  by_cases hc:n<n'
  ·refine(add_swap b b' _ h1 h1' hl (zh rfl) (zh ht') (-1) (zh (cmpI_lt zo)) zd).mono fun e w' he=>he.z ?_ zo;rw[sgn_sub b' b (!decide (sgn b n<0)) n' n ht' (by simp) zo,Int.add_comm]
  ·have hz:decide (cmpI (n:Int) (n':Int)<0)=false:=by
    unfold cmpI
    rw[dA zo];split<;>rfl
   refine(add_keep b b' _ h1 h1' hl (zh rfl) (zh ht') _ (zh rfl) hz).mono fun e w' he=>he.z ?_ zo;exact sgn_sub b b' _ n n' rfl ht' zo
theorem mul_z (h:I w b A c l z) (h':I w b' A' c' l' z') (hl:l+l'≤800000000000) :
  Calls Tryz.prog 33 #[.agg #[.bool b,.slice A l c],.agg #[.bool b',.slice A' l' c']] w (TellsZ w (z*z') (l+l')):=by
 obtain⟨n,h1,rfl⟩:=h;obtain⟨n',h1',rfl⟩:=h';exact(mul_i b b' h1 h1' hl).mono fun e w' he=>he.z rfl (aA _)
theorem norm_z (h:I w b A c l z) (hl:l≤800000000000) :
  Calls Tryz.prog 70 #[.agg #[.bool b,.slice A l c]] w (TellsZ w z l):=by
 obtain⟨n,h1,rfl⟩:=h;exact(norm_v b h1 hl).mono fun e w' he=>he.z rfl (aA _)
theorem neg_z (h:I w b A c l z) (hl:l≤800000000000) :
  Calls Tryz.prog 92 #[.agg #[.bool b,.slice A l c]] w (TellsZ w (-z) l):=by
 obtain⟨n,h1,rfl⟩:=h;exact(neg_v b h1 hl).mono fun e w' he=>he.z (by unfold sgn;cases b<;>simp) (aA _)
theorem sign_z (h:I w b A c l z) (hl:l≤800000000000) (s:Int) (hs:z.sign=s) :
  Calls Tryz.prog 63 #[.agg #[.bool b,.slice A l c]] w fun e w'=>e=.returned (.int .i64 s)∧Below w.heap.size w w':=by
 obtain⟨n,h1,rfl⟩:=h;exact sign_v b h1 hl s hs
theorem sub_z (h:I w b A c l z) (h':I w b' A' c' l' z') (hl:l+l'≤800000000000) :
  Calls Tryz.prog 48 #[.agg #[.bool b,.slice A l c],.agg #[.bool b',.slice A' l' c']] w (TellsZ w (z-z') (max l l'+1)):=by
 obtain⟨W,hW,x0,x1,x2,hB⟩:=box2 w (.bool b) (.slice A l c) (.bool b') (.slice A' l' c') (.bool false) (.slice none 0 0);have HI:=zh (h.below hB);have HI':=zh (h'.below hB).neg;have HY:=zh x2;have HE:=zh (Int.sub_eq_add_neg (a:=z) (b:=z'));clear h h' x0 x1 x2;go_enter Tryz.func48,Tryz.ntmps48
 go_wp2_with fail
 rw[←hW];clear hW;refine(add_z HI.out HI'.out hl).mono ?_;rintro e w1 ⟨s1,A1,c1,l1,rfl,h1,m1,b1⟩;obtain⟨⟨y1,y2⟩,⟨y3,y4⟩,y5⟩:=(HY.out.below b1).look;go_wp2_with fail
 (try simp only[Exit.inBlock,Exit.then])
 refine bodyPost_ret (by simp[results,Tryz.results48,go_sem,y1,y2];try rfl) rfl ?_;exact⟨s1,A1,c1,l1,rfl,by rw[HE.out];exact h1.box y1 y2 nofun,m1,((bT hB b1).setCell (by simp only[];omega) _).setCell (by simp only[];omega) _⟩
end
theorem cmpI_sign {z z' s s':Int} (h:z.sign=s) (h':z'.sign=s') (hne:s≠s'):cmpI s s'=cmpI z z':=by
 subst h;subst h';have e:∀x:Int,(x<0∧x.sign = -1)∨(x=0∧x.sign=0)∨(0<x∧x.sign=1):=fun x=>by
  rcases qE x 0 with h | h | h
  ·exact .inl ⟨h,jE h⟩
  ·subst h;exact .inr (.inl ⟨rfl,rfl⟩)
  ·exact .inr (.inr ⟨h,yE h⟩)
 rcases e z with⟨h1,h2⟩ | ⟨h1,h2⟩ | ⟨h1,h2⟩<;>rcases e z' with⟨h3,h4⟩ | ⟨h3,h4⟩ | ⟨h3,h4⟩<;>rw[h2,h4] at hne ⊢<;>first | (exact absurd rfl hne) | (unfold cmpI;repeat (split<;>try omega))
theorem cmpI_neg {b b':Bool} {n n':Nat} (h:(sgn b n).sign = -1) (h':(sgn b' n').sign = -1):cmpI (n':Int) (n:Int)=cmpI (sgn b n) (sgn b' n'):=by
 have e:∀(b:Bool) (n:Nat),(sgn b n).sign = -1→sgn b n = -(n:Int):=fun b n h=>by
  have:sgn b n<0:=Int.sign_eq_neg_one_iff_neg.1 h;unfold sgn at this ⊢
  cases b
  ·simp at this;omega
  ·rfl
 rw[e b n h,e b' n' h'];unfold cmpI
 repeat (split<;>try omega)
theorem cmpI_pos {b b':Bool} {n n':Nat} (h:0≤(sgn b n).sign) (h':0≤(sgn b' n').sign):cmpI (n:Int) (n':Int)=cmpI (sgn b n) (sgn b' n'):=by
 have e:∀(b:Bool) (n:Nat),0≤(sgn b n).sign→sgn b n=(n:Int):=fun b n h=>by
  have:0≤sgn b n:=by
   rcases Int.lt_or_le (sgn b n) 0 with h1 | h1
   ·rw[jE h1] at h;omega
   ·exact h1
  unfold sgn at this ⊢
  cases b
  ·rfl
  ·simp at this ⊢;omega
 rw[e b n h,e b' n' h']
theorem sign_range (z:Int):-1≤z.sign∧z.sign≤1:=by
 rcases qE z 0 with h | h | h
 ·rw[jE h];omega
 ·subst h;decide
 ·rw[yE h];omega
section
variable {w:World} {A A':Option Addr} {c c' l l':Nat} {b b':Bool} {z z':Int}
theorem cmp_ne (h:I w b A c l z) (h':I w b' A' c' l' z') (hl:l+l'≤800000000000) (s s':Int) (hs:Hid (z.sign=s)) (hs':Hid (z'.sign=s')) (p1:(s != s')=true) :
  Calls Tryz.prog 32 #[.agg #[.bool b,.slice A l c],.agg #[.bool b',.slice A' l' c']] w fun e w'=>e=.returned (.int .i64 (cmpI z z'))∧Below w.heap.size w w':=by
 have HE:=zh (cmpI_sign hs.out hs'.out (by simpa using p1));obtain⟨W,hW,x0,x1,hB⟩:=box1 w (.bool b) (.slice A l c) (.bool b') (.slice A' l' c');have HI:=zh (h.below hB);have HI':=zh (h'.below hB);have HX:=zh x0;have HX':=zh x1;obtain⟨⟨a1,a2⟩,_,a4⟩:=x0.look;obtain⟨⟨a1',a2'⟩,_,a4'⟩:=x1.look;have Bz:=zr W;clear h h' x0 x1;go_enter Tryz.func32,Tryz.ntmps32
 go_wp2_with fail
 rw[←hW];clear hW;go_region_held3 (fun w'=>w'.cell? ⟨w.heap.size,0,none⟩=some (.bool b)∧w'.cell? ⟨w.heap.size,1,none⟩=some (.slice A l c)∧w'.cell? ⟨w.heap.size+1,0,none⟩=some (.bool b')∧w'.cell? ⟨w.heap.size+1,1,none⟩=some (.slice A' l' c'))
  (first | exact⟨a1,a2,a1',a2'⟩ | go_keep)
  (first
   | (go_at_call 63;(with_reducible refine(sign_z (HI.out.below (bT Bz)) zo s hs.out).mono ?_);rintro e wz ⟨rfl,bz⟩;have Bz:=bT (bT Bz) bz;obtain⟨⟨a1,a2⟩,a3,a4⟩:=(HX.out.below Bz).look;obtain⟨⟨a1',a2'⟩,a3',a4'⟩:=(HX'.out.below Bz).look)
   | (go_at_call 63;(with_reducible refine(sign_z (HI'.out.below (bT Bz)) zo s' hs'.out).mono ?_);rintro e wz ⟨rfl,bz⟩;have Bz:=bT (bT Bz) bz;obtain⟨⟨a1,a2⟩,a3,a4⟩:=(HX.out.below Bz).look;obtain⟨⟨a1',a2'⟩,a3',a4'⟩:=(HX'.out.below Bz).look))
 all_goals
  go_wp2_with fail
  refine(compare_int s s' _).mono ?_;rintro e w' ⟨rfl,rfl⟩;go_wp2_with fail
  go_ret
  exact⟨ret_int HE.out,bT hB (bT Bz)⟩
theorem cmp_eq (n n':Nat) (h:V w A c l n) (h':V w A' c' l' n') (hl:l+l'≤800000000000) (s:Int) (hs:Hid ((sgn b n).sign=s)) (hs':Hid ((sgn b' n').sign=s)) (t:Bool) (p2:decide (s<0)=t) (HE:Hid ((if t then cmpI (n':Int) n else cmpI (n:Int) n')=z)) :
  Calls Tryz.prog 32 #[.agg #[.bool b,.slice A l c],.agg #[.bool b',.slice A' l' c']] w fun e w'=>e=.returned (.int .i64 z)∧Below w.heap.size w w':=by
 have p1:(s != s)=false:=by simp
 obtain⟨W,hW,x0,x1,hB⟩:=box1 w (.bool b) (.slice A l c) (.bool b') (.slice A' l' c');have HV:=zh (h.below hB);have HV':=zh (h'.below hB);have HX:=zh x0;have HX':=zh x1;obtain⟨⟨a1,a2⟩,_,a4⟩:=x0.look;obtain⟨⟨a1',a2'⟩,_,a4'⟩:=x1.look;have Bz:=zr W;clear h h' x0 x1;cases t;all_goals
  go_enter Tryz.func32,Tryz.ntmps32
  go_wp2_with fail
  rw[←hW];clear hW;go_region_held3 (fun w'=>w'.cell? ⟨w.heap.size,0,none⟩=some (.bool b)∧w'.cell? ⟨w.heap.size,1,none⟩=some (.slice A l c)∧w'.cell? ⟨w.heap.size+1,0,none⟩=some (.bool b')∧w'.cell? ⟨w.heap.size+1,1,none⟩=some (.slice A' l' c'))
   (first | exact⟨a1,a2,a1',a2'⟩ | go_keep)
   (first
    | (go_at_call 63;(with_reducible refine(sign_v b (HV.out.below (bT Bz)) zo s hs.out).mono ?_);rintro e wz ⟨rfl,bz⟩;have Bz:=bT (bT Bz) bz;obtain⟨⟨a1,a2⟩,a3,a4⟩:=(HX.out.below Bz).look;obtain⟨⟨a1',a2'⟩,a3',a4'⟩:=(HX'.out.below Bz).look)
    | (go_at_call 63;(with_reducible refine(sign_v b' (HV'.out.below (bT Bz)) zo s hs'.out).mono ?_);rintro e wz ⟨rfl,bz⟩;have Bz:=bT (bT Bz) bz;obtain⟨⟨a1,a2⟩,a3,a4⟩:=(HX.out.below Bz).look;obtain⟨⟨a1',a2'⟩,a3',a4'⟩:=(HX'.out.below Bz).look))
 ·all_goals
   go_wp2_with fail
   refine(cmp_v z (HV.out.below (bT Bz)) (HV'.out.below (bT Bz)) hl HE.out).mono ?_;rintro e w' ⟨rfl,b1⟩;go_wp2_with fail
   go_ret
   exact⟨rfl,bT hB (bT (bT Bz) b1)⟩
 ·all_goals
   go_wp2_with fail
   refine(cmp_v z (HV'.out.below (bT Bz)) (HV.out.below (bT Bz)) zo HE.out).mono ?_;rintro e w' ⟨rfl,b1⟩;go_wp2_with fail
   go_ret
   exact⟨rfl,bT hB (bT (bT Bz) b1)⟩
theorem cmp_z (h:I w b A c l z) (h':I w b' A' c' l' z') (hl:l+l'≤800000000000) (k:Int) (hk:cmpI z z'=k) :
  Calls Tryz.prog 32 #[.agg #[.bool b,.slice A l c],.agg #[.bool b',.slice A' l' c']] w fun e w'=>e=.returned (.int .i64 k)∧Below w.heap.size w w':=by
 subst hk;by_cases hs:z'.sign=z.sign
 ·obtain⟨n,h1,rfl⟩:=h;obtain⟨n',h1',rfl⟩:=h';refine cmp_eq n n' h1 h1' hl _ (zh rfl) (zh hs) _ rfl (zh ?_);have hr:=sign_range (sgn b n);by_cases hn:(sgn b n).sign<0
  ·rw[bB (by simpa using hn)];exact cmpI_neg zo zo
  ·rw[dA (by simpa using hn)];exact cmpI_pos zo zo
 ·exact cmp_ne h h' hl _ _ (zh rfl) (zh rfl) (by simpa using fun e=>hs e.symm)
end
theorem u64_id (x:Nat) (h:x<18446744073709551616):IntKind.u64.wrap (x:Int)=(x:Int):=by
 simp only[IntKind.wrap,IntKind.bits,IntKind.signed]
 have:((x:Int) % (2 ^ 64:Int))=x:=zo;simp;omega
theorem u64_neg (x:Nat) (h:0<x) (h':x<18446744073709551616):IntKind.u64.wrap (-IntKind.u64.wrap (-(x:Int)))=(x:Int):=by
 simp[IntKind.wrap,IntKind.bits,IntKind.signed]
 omega
theorem lit1 (w:World) (o:Obj) (x:Nat) (hx:x<18446744073709551616):V ((w.alloc o).alloc (.cells #[.int .u64 (x:Int)] 114)) (some ⟨w.heap.size+1,0,none⟩) 1 1 x:=by
 have:=lit_v (w.alloc o) [x] 1 x (fun y hy=>by simp at hy;rw[B_eq];omega) rfl (by simp[val]);have e:(w.alloc o).heap.size=w.heap.size+1:=by simp
 rw[e] at this;exact this
section
variable {w:World} {A A':Option Addr} {c c' l l':Nat} {b b':Bool} {z z':Int}
theorem of_pos (x:Nat) (hx:Hid (x<9223372036854775808)) :
  Calls Tryz.prog 46 #[.int .i64 (x:Int)] w (TellsZ w (x:Int) 1):=by
 have p1:decide ((x:Int)<0)=false:=by simp
 have u1:=u64_id x (zi hx.out);have HL:=zh (lit1 w (.cells #[.bool false,.slice none 0 0] 45) x (zi hx.out));have HY:=zh ((IBox.new w (.bool false) (.slice none 0 0)).below (zAe _ (.cells #[.int .u64 (x:Int)] 114)));have hB:Below w.heap.size w ((w.alloc (.cells #[.bool false,.slice none 0 0] 45)).alloc (.cells #[.int .u64 (x:Int)] 114)):=by go_grown
 go_enter Tryz.func46,Tryz.ntmps46
 go_wp2_with fail
 refine(trim_v HL.out zd).mono ?_;rintro e w1 ⟨A1,c1,l1,rfl,h1,m1,b1⟩;go_wp2_with fail
 refine(signed_c false (x:Int) h1 rfl).mono ?_;rintro e w2 ⟨rfl,b2⟩;obtain⟨⟨y1,y2⟩,⟨y3,y4⟩,y5⟩:=(HY.out.below (bT b1 b2)).look;go_wp2_with fail
 (try simp only[Exit.inBlock,Exit.then])
 refine bodyPost_ret (by simp[results,Tryz.results46,go_sem,y1,y2];try rfl) rfl ?_;exact⟨_,A1,c1,l1,rfl,⟨(h1.below b2).box y1 y2 nofun,rfl⟩,m1,((bT hB (bT b1 b2)).setCell (by simp only[];omega) _).setCell (by simp only[];omega) _⟩
theorem of_neg (x:Nat) (hx:Hid (0<x∧x≤9223372036854775808)) :
  Calls Tryz.prog 46 #[.int .i64 (-(x:Int))] w (TellsZ w (-(x:Int)) 1):=by
 have p1:decide (-(x:Int)<0)=true:=by have:=hx.out.1;simp;omega
 have p2:decide (0<x)=true:=by have:=hx.out.1;simp;omega
 have u1:=u64_neg x hx.out.1 (zi hx.out);have HL:=zh (lit1 w (.cells #[.bool false,.slice none 0 0] 45) x (zi hx.out));have HY:=zh ((IBox.new w (.bool false) (.slice none 0 0)).below (zAe _ (.cells #[.int .u64 (x:Int)] 114)));have hB:Below w.heap.size w ((w.alloc (.cells #[.bool false,.slice none 0 0] 45)).alloc (.cells #[.int .u64 (x:Int)] 114)):=by go_grown
 go_enter Tryz.func46,Tryz.ntmps46
 go_wp2_with fail
 refine(trim_v HL.out zd).mono ?_;rintro e w1 ⟨A1,c1,l1,rfl,h1,m1,b1⟩;go_wp2_with fail
 refine(signed_c true (-(x:Int)) h1 rfl).mono ?_;rintro e w2 ⟨rfl,b2⟩;obtain⟨⟨y1,y2⟩,⟨y3,y4⟩,y5⟩:=(HY.out.below (bT b1 b2)).look;go_wp2_with fail
 (try simp only[Exit.inBlock,Exit.then])
 refine bodyPost_ret (by simp[results,Tryz.results46,go_sem,y1,y2];try rfl) rfl ?_;exact⟨_,A1,c1,l1,rfl,⟨by rw[Int.natAbs_neg];exact(h1.below b2).box y1 y2 nofun,p1.symm⟩,m1,((bT hB (bT b1 b2)).setCell (by simp only[];omega) _).setCell (by simp only[];omega) _⟩
theorem of_z (z:Int) (h:Hid (-9223372036854775808≤z∧z≤9223372036854775807)) :
  Calls Tryz.prog 46 #[.int .i64 z] w (TellsZ w z 1):=by
 have h1:=h.out;by_cases hz:z<0
 ·obtain⟨x,hx⟩:=Int.eq_ofNat_of_zero_le (a:=-z) zo;obtain rfl:z = -(x:Int):=zo;exact of_neg x (zh zo)
 ·obtain⟨x,rfl⟩:=Int.eq_ofNat_of_zero_le (a:=z) zo;exact of_pos x (zh zo)
theorem digit_one {w:World} {A:Option Addr} {c l n:Nat} (h:C w A c l n) (h0:n≠0) (hn:n<B):l=1∧∃k off,A=some ⟨k,off,none⟩∧w.cell? ⟨k,off,none⟩=some (.int .u64 (n:Int)):=by
 have e:limbs n=[n]:=by
  have:=limbs_of (xs:=[n]) (fun x hx=>by simp at hx;omega) (.inr (by simpa using h0));rw[show val [n]=n by simp[val]] at this;exact this
 obtain⟨h1,h2⟩:=h;rw[e] at h1;obtain⟨k,off,hA,hc⟩:=h1.cells (by simp);refine⟨by rw[←h2];unfold nl;rw[e];rfl,k,off,hA,?_⟩;have:=hc 0 (by simp);simpa [dg] using this
end
theorem box4 (w:World) (v0 v1 u0 u1 r0 r1 s0 s1:Value):∃W,W=(((w.alloc (.cells #[v0,v1] 45)).alloc (.cells #[u0,u1] 45)).alloc (.cells #[r0,r1] 45)).alloc (.cells #[s0,s1] 45)∧IBox W w.heap.size v0 v1∧IBox W (w.heap.size+1) u0 u1∧IBox W (w.heap.size+1+1) r0 r1∧IBox W (w.heap.size+1+1+1) s0 s1∧Below w.heap.size w W:=by
 obtain⟨W,hW,x0,x1,x2,hB⟩:=box2 w v0 v1 u0 u1 r0 r1;have hs:W.heap.size=w.heap.size+1+1+1:=by rw[hW];simp
 have:=IBox.new W s0 s1;rw[hs] at this;refine⟨_,rfl,?_,?_,?_,?_,?_⟩
 ·rw[←hW];exact x0.below (zAe _ _)
 ·rw[←hW];exact x1.below (zAe _ _)
 ·rw[←hW];exact x2.below (zAe _ _)
 ·rw[←hW];exact this
 ·rw[←hW];exact bT hB (zAe _ _)
def TellsZ2 (w:World) (q r:Int) (m m':Nat) (e:Ending) (w':World):Prop :=
 ∃b A c l b' A' c' l',e=.returned (.tuple #[.agg #[.bool b,.slice A l c],.agg #[.bool b',.slice A' l' c']])∧J w' b A c l q∧J w' b' A' c' l' r∧l≤m∧l'≤m'∧Below w.heap.size w w'
theorem J.put {w:World} {s s':Bool} {A B':Option Addr} {c l b m k:Nat} {z:Int} {u v:Value} (h:J w s A c l z) (x:IBox w b (.bool s') (.slice B' m k)) :
  J ((w.setCell ⟨b,0,none⟩ u).setCell ⟨b,1,none⟩ v) s A c l z:=h.box x.look.1.1 x.look.1.2 nofun
theorem sgn_divmod (b b':Bool) (n n':Nat) (h:n'≠0) :
  sgn b n / sgn b' n'=sgn (b != b') (if b=true∧n % n'≠0 then n / n'+1 else n / n')∧sgn b n % sgn b' n'=((if b=true∧n % n'≠0 then n'-n % n' else n % n':Nat):Int):=by
 have hp:(0:Int)<(n':Int):=zo;have key:sgn b n / (n':Int)=sgn b (if b=true∧n % n'≠0 then n / n'+1 else n / n')∧sgn b n % (n':Int)=((if b=true∧n % n'≠0 then n'-n % n' else n % n':Nat):Int):=by
  have hd:(n:Int)=(n':Int)*((n / n':Nat):Int)+((n % n':Nat):Int):=by
   have:=(bC n n').symm;exact_mod_cast this
  have hm:=fC n (Nat.pos_of_ne_zero h);rw[Int.ediv_emod_unique hp];generalize n / n'=q at *
  generalize n % n'=r at *
  cases b
  ·simp[sgn];omega
  ·by_cases hr:r=0
   ·subst hr;simp[sgn]
    rw[hd];refine⟨by rw[Int.mul_neg];simp,zo⟩
   ·have hc:((n'-r:Nat):Int)=(n':Int)-r:=zo;simp only[ne_eq,hr,not_false_eq_true,and_self,if_true,sgn]
    rw[hc,hd];refine⟨?_,zo,zo⟩;rw[Int.natCast_add,Int.mul_neg,Int.mul_add];simp only[Int.natCast_one,Int.mul_one]
    omega
 cases b'
 ·simpa [sgn] using key
 ·have e:sgn true n' = -(n':Int):=rfl;rw[e,Int.ediv_neg,Int.emod_neg,key.1,key.2];refine⟨?_,rfl⟩;generalize (if b=true∧n % n'≠0 then n / n'+1 else n / n')=q
  cases b<;>simp[sgn]
section
variable {w:World} {A A':Option Addr} {c c' l l':Nat} {b b':Bool} {z z':Int}
theorem J.zero (w:World):J w false none 0 0 0:=⟨⟨by rw[show(0:Int).natAbs=0 from rfl,limbs_zero];exact Nums.nil _ _ _,rfl⟩,rfl⟩
theorem divmod_f (n n':Nat) (q r:Int) (h:V w A c l n) (h':V w A' c' l' n') (hl:l+l'≤400000000000) (h0:Hid (n'≠0)) (hq:Hid (sgn b' (n / n')=q)) (hr:Hid (((n % n':Nat):Int)=r)) :
  Calls Tryz.prog 73 #[.agg #[.bool false,.slice A l c],.agg #[.bool b',.slice A' l' c']] w (TellsZ2 w q r (l+2) l'):=by
 obtain⟨W,hW,x0,x1,x2,x3,hB⟩:=box4 w (.bool false) (.slice A l c) (.bool b') (.slice A' l' c') (.bool false) (.slice none 0 0) (.bool false) (.slice none 0 0);have HV:=zh (h.below hB);have HV':=zh (h'.below hB);have HI':Hid (I W b' A' c' l' (sgn b' n')):=zh ⟨n',h'.below hB,rfl⟩;have HX:=zh x0;have HX':=zh x1;have HY:=zh x2;have HZ:=zh x3;obtain⟨s,hs⟩:∃s,(sgn b' n').sign=s:=⟨_,rfl⟩;have p0:(s==0)=false:=by rw[←hs,sgn_sign,dA h0.out];split<;>rfl
 have HS:=zh hs;clear h h' x0 x1 x2 x3 hs;go_enter Tryz.func73,Tryz.ntmps73
 go_wp2_with fail
 rw[←hW];clear hW;refine(sign_z HI'.out zo s HS.out).mono ?_;rintro e w1 ⟨rfl,b1⟩;obtain⟨⟨a1,a2⟩,a3,a4⟩:=(HX.out.below b1).look;obtain⟨⟨a1',a2'⟩,a3',a4'⟩:=(HX'.out.below b1).look;go_wp2_with fail
 refine(divmod_v (HV.out.below b1) (HV'.out.below b1) zo h0.out).mono ?_;rintro e w2 ⟨A2,c2,l2,A3,c3,l3,rfl,h2,h3,m2,m3,b2⟩;have B2:=bT b1 b2;obtain⟨⟨a1,a2⟩,a3,a4⟩:=(HX.out.below B2).look;obtain⟨⟨a1',a2'⟩,a3',a4'⟩:=(HX'.out.below B2).look;go_wp2_with fail
 with_reducible refine(signed_c b' (sgn b' (n / n')) h2 rfl).mono ?_
 rintro e w5 ⟨rfl,b5⟩;go_wp2_with fail
 with_reducible refine(signed_c false ((n % n':Nat):Int) (h3.below b5) rfl).mono ?_
 rintro e w6 ⟨rfl,b6⟩;have B6:=bT (bT B2 b5) b6;have Hq:Hid (J w6 _ A2 c2 l2 (sgn b' (n / n'))):=zh ⟨by rw[sgn_abs];exact h2.below (bT b5 b6),rfl⟩;have Hr:Hid (J w6 _ A3 c3 l3 ((n % n':Nat):Int)):=zh ⟨h3.below (bT b5 b6),rfl⟩;have y0:=HY.out.below B6;have z0:=HZ.out.below B6;have HY2:=zh y0;have HZ2:=zh z0;obtain⟨⟨y1,y2⟩,⟨y3,y4⟩,y5⟩:=y0.look;obtain⟨⟨z1,z2⟩,⟨z3,z4⟩,z5⟩:=z0.look;clear y0 z0;go_wp2_with fail
 (try simp only[Exit.inBlock,Exit.then])
 refine bodyPost_ret (by simp[results,Tryz.results73,go_sem,y1,y2,z1,z2];try rfl) rfl ?_;refine⟨_,_,_,_,_,_,_,_,rfl,?_,?_,zo,m3,(((((bT hB B6).setCell (by simp only[];omega) _).setCell (by simp only[];omega) _).setCell (by simp only[];omega) _).setCell (by simp only[];omega) _)⟩
 ·rw[←hq.out];exact(Hq.out.put HY2.out).put (HZ2.out.other zo)
 ·rw[←hr.out];exact(Hr.out.put HY2.out).put (HZ2.out.other zo)
theorem divmod_t0 (n n':Nat) (q r:Int) (h:V w A c l n) (h':V w A' c' l' n') (hl:l+l'≤400000000000) (h0:Hid (n'≠0)) (hm:Hid (n % n'=0)) (hq:Hid (sgn (!b') (n / n')=q)) (hr:Hid (((n % n':Nat):Int)=r)) :
  Calls Tryz.prog 73 #[.agg #[.bool true,.slice A l c],.agg #[.bool b',.slice A' l' c']] w (TellsZ2 w q r (l+2) l'):=by
 obtain⟨W,hW,x0,x1,x2,x3,hB⟩:=box4 w (.bool true) (.slice A l c) (.bool b') (.slice A' l' c') (.bool false) (.slice none 0 0) (.bool false) (.slice none 0 0);have HV:=zh (h.below hB);have HV':=zh (h'.below hB);have HI':Hid (I W b' A' c' l' (sgn b' n')):=zh ⟨n',h'.below hB,rfl⟩;have HX:=zh x0;have HX':=zh x1;have HY:=zh x2;have HZ:=zh x3;obtain⟨s,hs⟩:∃s,(sgn b' n').sign=s:=⟨_,rfl⟩;have p0:(s==0)=false:=by rw[←hs,sgn_sign,dA h0.out];split<;>rfl
 have HS:=zh hs;clear h h' x0 x1 x2 x3 hs;go_enter Tryz.func73,Tryz.ntmps73
 go_wp2_with fail
 rw[←hW];clear hW;refine(sign_z HI'.out zo s HS.out).mono ?_;rintro e w1 ⟨rfl,b1⟩;obtain⟨⟨a1,a2⟩,a3,a4⟩:=(HX.out.below b1).look;obtain⟨⟨a1',a2'⟩,a3',a4'⟩:=(HX'.out.below b1).look;go_wp2_with fail
 refine(divmod_v (HV.out.below b1) (HV'.out.below b1) zo h0.out).mono ?_;rintro e w2 ⟨A2,c2,l2,A3,c3,l3,rfl,h2,h3,m2,m3,b2⟩;have B2:=bT b1 b2;obtain⟨⟨a1,a2⟩,a3,a4⟩:=(HX.out.below B2).look;obtain⟨⟨a1',a2'⟩,a3',a4'⟩:=(HX'.out.below B2).look;have p3:decide (0<l3)=false:=by have:=h3.2;rw[hm.out,nl_zero] at this;simp;omega
 go_wp2_with fail
 with_reducible refine(signed_c (!b') (sgn (!b') (n / n')) h2 rfl).mono ?_
 rintro e w5 ⟨rfl,b5⟩;go_wp2_with fail
 with_reducible refine(signed_c false ((n % n':Nat):Int) (h3.below b5) rfl).mono ?_
 rintro e w6 ⟨rfl,b6⟩;have B6:=bT (bT B2 b5) b6;have Hq:Hid (J w6 _ A2 c2 l2 (sgn (!b') (n / n'))):=zh ⟨by rw[sgn_abs];exact h2.below (bT b5 b6),rfl⟩;have Hr:Hid (J w6 _ A3 c3 l3 ((n % n':Nat):Int)):=zh ⟨h3.below (bT b5 b6),rfl⟩;have y0:=HY.out.below B6;have z0:=HZ.out.below B6;have HY2:=zh y0;have HZ2:=zh z0;obtain⟨⟨y1,y2⟩,⟨y3,y4⟩,y5⟩:=y0.look;obtain⟨⟨z1,z2⟩,⟨z3,z4⟩,z5⟩:=z0.look;clear y0 z0;go_wp2_with fail
 (try simp only[Exit.inBlock,Exit.then])
 refine bodyPost_ret (by simp[results,Tryz.results73,go_sem,y1,y2,z1,z2];try rfl) rfl ?_;refine⟨_,_,_,_,_,_,_,_,rfl,?_,?_,zo,m3,(((((bT hB B6).setCell (by simp only[];omega) _).setCell (by simp only[];omega) _).setCell (by simp only[];omega) _).setCell (by simp only[];omega) _)⟩
 ·rw[←hq.out];exact(Hq.out.put HY2.out).put (HZ2.out.other zo)
 ·rw[←hr.out];exact(Hr.out.put HY2.out).put (HZ2.out.other zo)
theorem divmod_t1 (n n':Nat) (q r:Int) (h:V w A c l n) (h':V w A' c' l' n') (hl:l+l'≤400000000000) (h0:Hid (n'≠0)) (hm:Hid (n % n'≠0)) (hq:Hid (sgn (!b') (n / n'+1)=q)) (hr:Hid (((n'-n % n':Nat):Int)=r)) :
  Calls Tryz.prog 73 #[.agg #[.bool true,.slice A l c],.agg #[.bool b',.slice A' l' c']] w (TellsZ2 w q r (l+2) l'):=by
 obtain⟨W,hW,x0,x1,x2,x3,hB⟩:=box4 w (.bool true) (.slice A l c) (.bool b') (.slice A' l' c') (.bool false) (.slice none 0 0) (.bool false) (.slice none 0 0);have HV:=zh (h.below hB);have HV':=zh (h'.below hB);have HI':Hid (I W b' A' c' l' (sgn b' n')):=zh ⟨n',h'.below hB,rfl⟩;have HX:=zh x0;have HX':=zh x1;have HY:=zh x2;have HZ:=zh x3;obtain⟨s,hs⟩:∃s,(sgn b' n').sign=s:=⟨_,rfl⟩;have p0:(s==0)=false:=by rw[←hs,sgn_sign,dA h0.out];split<;>rfl
 have HS:=zh hs;clear h h' x0 x1 x2 x3 hs;go_enter Tryz.func73,Tryz.ntmps73
 go_wp2_with fail
 rw[←hW];clear hW;refine(sign_z HI'.out zo s HS.out).mono ?_;rintro e w1 ⟨rfl,b1⟩;obtain⟨⟨a1,a2⟩,a3,a4⟩:=(HX.out.below b1).look;obtain⟨⟨a1',a2'⟩,a3',a4'⟩:=(HX'.out.below b1).look;go_wp2_with fail
 refine(divmod_v (HV.out.below b1) (HV'.out.below b1) zo h0.out).mono ?_;rintro e w2 ⟨A2,c2,l2,A3,c3,l3,rfl,h2,h3,m2,m3,b2⟩;have B2:=bT b1 b2;obtain⟨⟨a1,a2⟩,a3,a4⟩:=(HX.out.below B2).look;obtain⟨⟨a1',a2'⟩,a3',a4'⟩:=(HX'.out.below B2).look;have p3:decide (0<l3)=true:=by have:=h3.2;have hz:=hm.out;rw[Ne,←nl_eq_zero] at hz;simp;omega
 go_wp2_with fail
 have HL:=zh (lit_v w2 [1] 1 1 (fun y hy=>by simp at hy;rw[B_eq];omega) rfl (by simp[val]));refine(add_v (h2.v.below (zAe w2 _)) HL.out zo).mono ?_;rintro e w3 ⟨A4,c4,l4,rfl,h4,m4,b3⟩;have B3:=bT B2 (bT (zAe w2 _) b3);obtain⟨⟨a1,a2⟩,a3,a4⟩:=(HX.out.below B3).look;obtain⟨⟨a1',a2'⟩,a3',a4'⟩:=(HX'.out.below B3).look;go_wp2_with fail
 refine(sub_v (HV'.out.below B3) (h3.v.below (bT (zAe w2 _) b3)) zo).mono ?_;rintro e w4 ⟨A5,c5,l5,rfl,h5,m5,b4⟩;have B4:=bT B3 b4;have h6:=h4.below b4;obtain⟨⟨a1,a2⟩,a3,a4⟩:=(HX.out.below B4).look;obtain⟨⟨a1',a2'⟩,a3',a4'⟩:=(HX'.out.below B4).look;clear h2 h3 h4;go_wp2_with fail
 with_reducible refine(signed_c (!b') (sgn (!b') (n / n'+1)) h6 rfl).mono ?_
 rintro e w5 ⟨rfl,b5⟩;go_wp2_with fail
 with_reducible refine(signed_c false ((n'-n % n':Nat):Int) (h5.below b5) rfl).mono ?_
 rintro e w6 ⟨rfl,b6⟩;have B6:=bT (bT B4 b5) b6;have Hq:Hid (J w6 _ A4 c4 l4 (sgn (!b') (n / n'+1))):=zh ⟨by rw[sgn_abs];exact h6.below (bT b5 b6),rfl⟩;have Hr:Hid (J w6 _ A5 c5 l5 ((n'-n % n':Nat):Int)):=zh ⟨h5.below (bT b5 b6),rfl⟩;have y0:=HY.out.below B6;have z0:=HZ.out.below B6;have HY2:=zh y0;have HZ2:=zh z0;obtain⟨⟨y1,y2⟩,⟨y3,y4⟩,y5⟩:=y0.look;obtain⟨⟨z1,z2⟩,⟨z3,z4⟩,z5⟩:=z0.look;clear y0 z0;go_wp2_with fail
 (try simp only[Exit.inBlock,Exit.then])
 refine bodyPost_ret (by simp[results,Tryz.results73,go_sem,y1,y2,z1,z2];try rfl) rfl ?_;refine⟨_,_,_,_,_,_,_,_,rfl,?_,?_,zo,m5,(((((bT hB B6).setCell (by simp only[];omega) _).setCell (by simp only[];omega) _).setCell (by simp only[];omega) _).setCell (by simp only[];omega) _)⟩
 ·rw[←hq.out];exact(Hq.out.put HY2.out).put (HZ2.out.other zo)
 ·rw[←hr.out];exact(Hr.out.put HY2.out).put (HZ2.out.other zo)
theorem divmod_z (h:I w b A c l z) (h':I w b' A' c' l' z') (hl:l+l'≤400000000000) (h0:z'≠0) :
  Calls Tryz.prog 73 #[.agg #[.bool b,.slice A l c],.agg #[.bool b',.slice A' l' c']] w (TellsZ2 w (z / z') (z % z') (l+2) l'):=by
 obtain⟨n,h1,rfl⟩:=h;obtain⟨n',h1',rfl⟩:=h';have hn:n'≠0:=by rintro rfl;apply h0;unfold sgn;cases b'<;>rfl
 have hd:=sgn_divmod b b' n n' hn;cases b
 ·simp only[Bool.false_eq_true,false_and,if_false,Bool.false_bne] at hd
  exact divmod_f n n' _ _ h1 h1' hl (zh hn) (zh hd.1.symm) (zh hd.2.symm)
 ·by_cases hm:n % n'=0
  ·simp only[hm,ne_eq,not_true,and_false,if_false,Bool.true_bne] at hd
   exact divmod_t0 n n' _ _ h1 h1' hl (zh hn) (zh hm) (zh hd.1.symm) (zh (by rw[hm];exact hd.2.symm))
  ·simp only[hm,ne_eq,not_false_eq_true,and_true,if_true,Bool.true_bne] at hd
   exact divmod_t1 n n' _ _ h1 h1' hl (zh hn) (zh hm) (zh hd.1.symm) (zh hd.2.symm)
end
section
variable {w:World} {A A':Option Addr} {c c' l l':Nat} {b b':Bool} {z z':Int}
end
def Bx (w:World) (b:Nat) (cs:Array Value) (t:TypeId):Prop:=w.heap[b]?=some (.cells cs t (0,0))
section
variable {w w':World} {b:Nat} {cs:Array Value} {t:TypeId}
theorem Bx.lt (h:Bx w b cs t):b<w.heap.size:=(wE.1 h).1
theorem Bx.below (h:Bx w b cs t) (hb:Below w.heap.size w w':=by go_grown):Bx w' b cs t:=(hb.block b h.lt).trans h
theorem zx (h:Hid (Bx w b cs t)) (hb:Below w.heap.size w w'):Bx w' b cs t:=h.out.below hb
theorem zba {a b c:World} {i:Nat} {cs:Array Value} {t:TypeId} (h:Hid (Bx a i cs t)) (k:Below a.heap.size a b) (l:Below b.heap.size b c):Hid (Bx c i cs t):=Lib.hid ((h.out.below k).below l)
theorem zf {a w V:World} {b i:Nat} {cs:Array Value} {t:TypeId} (far:∀b' cs t',b'≠b→Bx w b' cs t'→Bx V b' cs t') (h:Hid (Bx a i cs t)) (k:Below a.heap.size a w) (n:i≠b:=by omega):Hid (Bx V i cs t):=Lib.hid (far _ _ _ n (h.out.below k))
theorem Bx.drew (h:Bx w b cs t):Bx w.drew b cs t:=h
theorem Bx.new (w:World) (cs:Array Value) (t:TypeId):Bx (w.alloc (.cells cs t)) w.heap.size cs t:=heap_alloc_new _ _
theorem Bx.cell (h:Bx w b cs t) (i:Nat) (v:Value) (hi:cs[i]?=some v):w.cell? ⟨b,i,none⟩=some v:=by rw[cell_of_row w b i _ _ _ h];exact hi
def Cs (w:World) (b:Nat):List Value→Prop
 | [a]=>w.cell? ⟨b,0,none⟩=some a∧True
 | [a,c]=>w.cell? ⟨b,0,none⟩=some a∧w.cell? ⟨b,1,none⟩=some c∧True
 | [a,c,d]=>w.cell? ⟨b,0,none⟩=some a∧w.cell? ⟨b,1,none⟩=some c∧w.cell? ⟨b,2,none⟩=some d∧True
 | [a,c,d,e]=>w.cell? ⟨b,0,none⟩=some a∧w.cell? ⟨b,1,none⟩=some c∧w.cell? ⟨b,2,none⟩=some d∧w.cell? ⟨b,3,none⟩=some e∧True
 | [a,c,d,e,f]=>w.cell? ⟨b,0,none⟩=some a∧w.cell? ⟨b,1,none⟩=some c∧w.cell? ⟨b,2,none⟩=some d∧w.cell? ⟨b,3,none⟩=some e∧w.cell? ⟨b,4,none⟩=some f∧True
 | [a,c,d,e,f,g]=>w.cell? ⟨b,0,none⟩=some a∧w.cell? ⟨b,1,none⟩=some c∧w.cell? ⟨b,2,none⟩=some d∧w.cell? ⟨b,3,none⟩=some e∧w.cell? ⟨b,4,none⟩=some f∧w.cell? ⟨b,5,none⟩=some g∧True
 | [a,c,d,e,f,g,i]=>w.cell? ⟨b,0,none⟩=some a∧w.cell? ⟨b,1,none⟩=some c∧w.cell? ⟨b,2,none⟩=some d∧w.cell? ⟨b,3,none⟩=some e∧w.cell? ⟨b,4,none⟩=some f∧w.cell? ⟨b,5,none⟩=some g∧w.cell? ⟨b,6,none⟩=some i∧True
 | [a,c,d,e,f,g,i,j]=>w.cell? ⟨b,0,none⟩=some a∧w.cell? ⟨b,1,none⟩=some c∧w.cell? ⟨b,2,none⟩=some d∧w.cell? ⟨b,3,none⟩=some e∧w.cell? ⟨b,4,none⟩=some f∧w.cell? ⟨b,5,none⟩=some g∧w.cell? ⟨b,6,none⟩=some i∧w.cell? ⟨b,7,none⟩=some j∧True
 | [a,c,d,e,f,g,i,j,k]=>w.cell? ⟨b,0,none⟩=some a∧w.cell? ⟨b,1,none⟩=some c∧w.cell? ⟨b,2,none⟩=some d∧w.cell? ⟨b,3,none⟩=some e∧w.cell? ⟨b,4,none⟩=some f∧w.cell? ⟨b,5,none⟩=some g∧w.cell? ⟨b,6,none⟩=some i∧w.cell? ⟨b,7,none⟩=some j∧w.cell? ⟨b,8,none⟩=some k∧True
 | [a,c,d,e,f,g,i,j,k,l]=>w.cell? ⟨b,0,none⟩=some a∧w.cell? ⟨b,1,none⟩=some c∧w.cell? ⟨b,2,none⟩=some d∧w.cell? ⟨b,3,none⟩=some e∧w.cell? ⟨b,4,none⟩=some f∧w.cell? ⟨b,5,none⟩=some g∧w.cell? ⟨b,6,none⟩=some i∧w.cell? ⟨b,7,none⟩=some j∧w.cell? ⟨b,8,none⟩=some k∧w.cell? ⟨b,9,none⟩=some l∧True
 | [a,c,d,e,f,g,i,j,k,l,m]=>w.cell? ⟨b,0,none⟩=some a∧w.cell? ⟨b,1,none⟩=some c∧w.cell? ⟨b,2,none⟩=some d∧w.cell? ⟨b,3,none⟩=some e∧w.cell? ⟨b,4,none⟩=some f∧w.cell? ⟨b,5,none⟩=some g∧w.cell? ⟨b,6,none⟩=some i∧w.cell? ⟨b,7,none⟩=some j∧w.cell? ⟨b,8,none⟩=some k∧w.cell? ⟨b,9,none⟩=some l∧w.cell? ⟨b,10,none⟩=some m∧True
 | [a,c,d,e,f,g,i,j,k,l,m,n]=>w.cell? ⟨b,0,none⟩=some a∧w.cell? ⟨b,1,none⟩=some c∧w.cell? ⟨b,2,none⟩=some d∧w.cell? ⟨b,3,none⟩=some e∧w.cell? ⟨b,4,none⟩=some f∧w.cell? ⟨b,5,none⟩=some g∧w.cell? ⟨b,6,none⟩=some i∧w.cell? ⟨b,7,none⟩=some j∧w.cell? ⟨b,8,none⟩=some k∧w.cell? ⟨b,9,none⟩=some l∧w.cell? ⟨b,10,none⟩=some m∧w.cell? ⟨b,11,none⟩=some n∧True
 | [a,c,d,e,f,g,i,j,k,l,m,n,o]=>w.cell? ⟨b,0,none⟩=some a∧w.cell? ⟨b,1,none⟩=some c∧w.cell? ⟨b,2,none⟩=some d∧w.cell? ⟨b,3,none⟩=some e∧w.cell? ⟨b,4,none⟩=some f∧w.cell? ⟨b,5,none⟩=some g∧w.cell? ⟨b,6,none⟩=some i∧w.cell? ⟨b,7,none⟩=some j∧w.cell? ⟨b,8,none⟩=some k∧w.cell? ⟨b,9,none⟩=some l∧w.cell? ⟨b,10,none⟩=some m∧w.cell? ⟨b,11,none⟩=some n∧w.cell? ⟨b,12,none⟩=some o∧True
 | [a,c,d,e,f,g,i,j,k,l,m,n,o,p,q,r]=>w.cell? ⟨b,0,none⟩=some a∧w.cell? ⟨b,1,none⟩=some c∧w.cell? ⟨b,2,none⟩=some d∧w.cell? ⟨b,3,none⟩=some e∧w.cell? ⟨b,4,none⟩=some f∧w.cell? ⟨b,5,none⟩=some g∧w.cell? ⟨b,6,none⟩=some i∧w.cell? ⟨b,7,none⟩=some j∧w.cell? ⟨b,8,none⟩=some k∧w.cell? ⟨b,9,none⟩=some l∧w.cell? ⟨b,10,none⟩=some m∧w.cell? ⟨b,11,none⟩=some n∧w.cell? ⟨b,12,none⟩=some o∧w.cell? ⟨b,13,none⟩=some p∧w.cell? ⟨b,14,none⟩=some q∧w.cell? ⟨b,15,none⟩=some r∧True
 | _=>True
theorem Bx.cz {w:World} {b:Nat} {cs:Array Value} {t:TypeId} (h:Bx w b cs t):Cs w b cs.toList:=by
 obtain⟨l⟩:=cs;match l with
 | []=>trivial
 | [a]=>exact⟨h.cell 0 _ rfl,trivial⟩
 | [a,c]=>exact⟨h.cell 0 _ rfl,h.cell 1 _ rfl,trivial⟩
 | [a,c,d]=>exact⟨h.cell 0 _ rfl,h.cell 1 _ rfl,h.cell 2 _ rfl,trivial⟩
 | [a,c,d,e]=>exact⟨h.cell 0 _ rfl,h.cell 1 _ rfl,h.cell 2 _ rfl,h.cell 3 _ rfl,trivial⟩
 | [a,c,d,e,f]=>exact⟨h.cell 0 _ rfl,h.cell 1 _ rfl,h.cell 2 _ rfl,h.cell 3 _ rfl,h.cell 4 _ rfl,trivial⟩
 | [a,c,d,e,f,g]=>exact⟨h.cell 0 _ rfl,h.cell 1 _ rfl,h.cell 2 _ rfl,h.cell 3 _ rfl,h.cell 4 _ rfl,h.cell 5 _ rfl,trivial⟩
 | [a,c,d,e,f,g,i]=>exact⟨h.cell 0 _ rfl,h.cell 1 _ rfl,h.cell 2 _ rfl,h.cell 3 _ rfl,h.cell 4 _ rfl,h.cell 5 _ rfl,h.cell 6 _ rfl,trivial⟩
 | [a,c,d,e,f,g,i,j]=>exact⟨h.cell 0 _ rfl,h.cell 1 _ rfl,h.cell 2 _ rfl,h.cell 3 _ rfl,h.cell 4 _ rfl,h.cell 5 _ rfl,h.cell 6 _ rfl,h.cell 7 _ rfl,trivial⟩
 | [a,c,d,e,f,g,i,j,k]=>exact⟨h.cell 0 _ rfl,h.cell 1 _ rfl,h.cell 2 _ rfl,h.cell 3 _ rfl,h.cell 4 _ rfl,h.cell 5 _ rfl,h.cell 6 _ rfl,h.cell 7 _ rfl,h.cell 8 _ rfl,trivial⟩
 | [a,c,d,e,f,g,i,j,k,l]=>exact⟨h.cell 0 _ rfl,h.cell 1 _ rfl,h.cell 2 _ rfl,h.cell 3 _ rfl,h.cell 4 _ rfl,h.cell 5 _ rfl,h.cell 6 _ rfl,h.cell 7 _ rfl,h.cell 8 _ rfl,h.cell 9 _ rfl,trivial⟩
 | [a,c,d,e,f,g,i,j,k,l,m]=>exact⟨h.cell 0 _ rfl,h.cell 1 _ rfl,h.cell 2 _ rfl,h.cell 3 _ rfl,h.cell 4 _ rfl,h.cell 5 _ rfl,h.cell 6 _ rfl,h.cell 7 _ rfl,h.cell 8 _ rfl,h.cell 9 _ rfl,h.cell 10 _ rfl,trivial⟩
 | [a,c,d,e,f,g,i,j,k,l,m,n]=>exact⟨h.cell 0 _ rfl,h.cell 1 _ rfl,h.cell 2 _ rfl,h.cell 3 _ rfl,h.cell 4 _ rfl,h.cell 5 _ rfl,h.cell 6 _ rfl,h.cell 7 _ rfl,h.cell 8 _ rfl,h.cell 9 _ rfl,h.cell 10 _ rfl,h.cell 11 _ rfl,trivial⟩
 | [a,c,d,e,f,g,i,j,k,l,m,n,o]=>exact⟨h.cell 0 _ rfl,h.cell 1 _ rfl,h.cell 2 _ rfl,h.cell 3 _ rfl,h.cell 4 _ rfl,h.cell 5 _ rfl,h.cell 6 _ rfl,h.cell 7 _ rfl,h.cell 8 _ rfl,h.cell 9 _ rfl,h.cell 10 _ rfl,h.cell 11 _ rfl,h.cell 12 _ rfl,trivial⟩
 | [a,c,d,e,f,g,i,j,k,l,m,n,o,p,q,r]=>exact⟨h.cell 0 _ rfl,h.cell 1 _ rfl,h.cell 2 _ rfl,h.cell 3 _ rfl,h.cell 4 _ rfl,h.cell 5 _ rfl,h.cell 6 _ rfl,h.cell 7 _ rfl,h.cell 8 _ rfl,h.cell 9 _ rfl,h.cell 10 _ rfl,h.cell 11 _ rfl,h.cell 12 _ rfl,h.cell 13 _ rfl,h.cell 14 _ rfl,h.cell 15 _ rfl,trivial⟩
 | [_,_,_,_,_,_,_,_,_,_,_,_,_,_]=>trivial
 | [_,_,_,_,_,_,_,_,_,_,_,_,_,_,_]=>trivial
 | _ :: _ :: _ :: _ :: _ :: _ :: _ :: _ :: _ :: _ :: _ :: _ :: _ :: _ :: _ :: _ :: _ :: _=>trivial
theorem Bx.frozen (h:Bx w b cs t) (i:Nat):w.frozen? ⟨b,i,none⟩=false:=frozen_of_row w b i _ _ h
theorem Bx.fz {w:World} {b:Nat} {cs:Array Value} {t:TypeId} (h:Bx w b cs t):b<w.heap.size∧w.frozen? ⟨b,0,none⟩=false∧w.frozen? ⟨b,1,none⟩=false∧w.frozen? ⟨b,2,none⟩=false∧w.frozen? ⟨b,3,none⟩=false∧w.frozen? ⟨b,4,none⟩=false∧w.frozen? ⟨b,5,none⟩=false∧w.frozen? ⟨b,6,none⟩=false∧w.frozen? ⟨b,7,none⟩=false∧w.frozen? ⟨b,8,none⟩=false∧w.frozen? ⟨b,9,none⟩=false∧w.frozen? ⟨b,10,none⟩=false∧w.frozen? ⟨b,11,none⟩=false∧w.frozen? ⟨b,12,none⟩=false∧True:=⟨h.lt,h.frozen 0,h.frozen 1,h.frozen 2,h.frozen 3,h.frozen 4,h.frozen 5,h.frozen 6,h.frozen 7,h.frozen 8,h.frozen 9,h.frozen 10,h.frozen 11,h.frozen 12,trivial⟩
theorem Bx.set (h:Bx w b cs t) (i:Nat) (v:Value):Bx (w.setCell ⟨b,i,none⟩ v) b (cs.setIfInBounds i v) t:=heap_setCell_same w b i _ _ v h
theorem Bx.far (h:Bx w b cs t) {p:Addr} (hp:b≠p.block) (u:Value):Bx (w.setCell p u) b cs t:=(heap_setCell_other w p b u hp).trans h
end
theorem zAb (w:World) (c0:Array Value) (t0:TypeId):∃W,W=w.alloc (.cells c0 t0)∧Bx W w.heap.size c0 t0∧Below w.heap.size w W:=by
 exact⟨_,rfl,Bx.new _ _ _,zAe _ _⟩
theorem zAh (w:World) (c0:Array Value) (t0:TypeId) (c1:Array Value) (t1:TypeId):∃W,W=(w.alloc (.cells c0 t0)).alloc (.cells c1 t1)∧Bx W w.heap.size c0 t0∧Bx W (w.heap.size+1) c1 t1∧Below w.heap.size w W:=by
 obtain⟨W,hW,x0,hB⟩:=zAb w c0 t0;have hs:W.heap.size=w.heap.size+1:=by rw[hW];simp
 have hn:=Bx.new W c1 t1;rw[hs] at hn;subst hW;exact⟨_,rfl,x0.below (zAe _ _),hn,bT hB (zAe _ _)⟩
theorem boxes3 (w:World) (c0:Array Value) (t0:TypeId) (c1:Array Value) (t1:TypeId) (c2:Array Value) (t2:TypeId):∃W,W=((w.alloc (.cells c0 t0)).alloc (.cells c1 t1)).alloc (.cells c2 t2)∧Bx W w.heap.size c0 t0∧Bx W (w.heap.size+1) c1 t1∧Bx W (w.heap.size+1+1) c2 t2∧Below w.heap.size w W:=by
 obtain⟨W,hW,x0,x1,hB⟩:=zAh w c0 t0 c1 t1;have hs:W.heap.size=w.heap.size+1+1:=by rw[hW];simp
 have hn:=Bx.new W c2 t2;rw[hs] at hn;subst hW;exact⟨_,rfl,x0.below (zAe _ _),x1.below (zAe _ _),hn,bT hB (zAe _ _)⟩
theorem boxes4 (w:World) (c0:Array Value) (t0:TypeId) (c1:Array Value) (t1:TypeId) (c2:Array Value) (t2:TypeId) (c3:Array Value) (t3:TypeId):∃W,W=(((w.alloc (.cells c0 t0)).alloc (.cells c1 t1)).alloc (.cells c2 t2)).alloc (.cells c3 t3)∧Bx W w.heap.size c0 t0∧Bx W (w.heap.size+1) c1 t1∧Bx W (w.heap.size+1+1) c2 t2∧Bx W (w.heap.size+1+1+1) c3 t3∧Below w.heap.size w W:=by
 obtain⟨W,hW,x0,x1,x2,hB⟩:=boxes3 w c0 t0 c1 t1 c2 t2;have hs:W.heap.size=w.heap.size+1+1+1:=by rw[hW];simp
 have hn:=Bx.new W c3 t3;rw[hs] at hn;subst hW;exact⟨_,rfl,x0.below (zAe _ _),x1.below (zAe _ _),x2.below (zAe _ _),hn,bT hB (zAe _ _)⟩
def K64 (w w':World):Prop:=∀(p:Addr) (n:Int),w.cell? p=some (.int .u64 n)→w'.cell? p=some (.int .u64 n)
theorem K64.refl (w:World):K64 w w:=fun _ _ h=>h
theorem K64.trans {a b c:World} (h:K64 a b) (k:K64 b c):K64 a c:=fun p n hp=>k p n (h p n hp)
theorem K64.below {w w':World} (h:Below w.heap.size w w'):K64 w w':=fun p _ hc=>(h.cell (World.block_lt_of_cell? w p hc)).trans hc
theorem K64.set {w:World} {p:Addr} {u:Value} (x:w.cell? p=some u) (hu:∀n,u≠.int .u64 n) (v:Value):K64 w (w.setCell p v):=fun q n hq=>by
 rw[World.cell?_setCell_other]
 ·exact hq
 ·intro e;rw[←e,x] at hq;exact hu _ (Option.some.inj hq)
theorem K64.box {w:World} {b i:Nat} {cs:Array Value} {t:TypeId} {u:Value} (h:Bx w b cs t) (hi:cs[i]?=some u) (hu:∀n,u≠.int .u64 n) (v:Value):K64 w (w.setCell ⟨b,i,none⟩ v):=K64.set (h.cell i u hi) hu v
theorem store2 {w:World} {b:Nat} {t:TypeId} {u0 u1:Value} (v0 v1:Value) (h:Bx w b #[u0,u1] t) (n0:∀n,u0≠.int .u64 n) (n1:∀n,u1≠.int .u64 n) :
  ∃W,W=(w.setCell ⟨b,0,none⟩ v0).setCell ⟨b,1,none⟩ v1∧Bx W b #[v0,v1] t∧K64 w W∧(∀b' cs t',b'≠b→Bx w b' cs t'→Bx W b' cs t')∧(∀B w0,B≤b→Below B w0 w→Below B w0 W):=by
 refine⟨_,rfl,(h.set 0 v0).set 1 v1,(K64.box h (i:=0) rfl n0 v0).trans (K64.box (h.set 0 v0) (i:=1) rfl n1 v1),fun b' cs t' hb hx=>(hx.far hb v0).far hb v1,fun B w0 hB hb=>(hb.setCell hB v0).setCell hB v1⟩
section
variable {w w':World} {A:Option Addr} {c l n:Nat} {b:Bool} {z:Int} {xs:List Nat}
theorem Nums.k (h:Nums w A c xs) (k:K64 w w'):Nums w' A c xs:=⟨h.ok,h.le,fun hp=>by
 obtain⟨b,off,e,hc⟩:=h.cells hp;exact⟨b,off,e,fun j hj=>k _ _ (hc j hj)⟩⟩
theorem V.k (h:V w A c l n) (k:K64 w w'):V w' A c l n:=by obtain⟨xs,h1,h2⟩:=h;exact⟨xs,h1.k k,h2⟩
theorem C.k (h:C w A c l n) (k:K64 w w'):C w' A c l n:=⟨h.1.k k,h.2⟩
theorem I.k (h:I w b A c l z) (k:K64 w w'):I w' b A c l z:=by obtain⟨n,h1,h2⟩:=h;exact⟨n,h1.k k,h2⟩
theorem J.k (h:J w b A c l z) (k:K64 w w'):J w' b A c l z:=⟨h.1.k k,h.2⟩
end
theorem I.drew {w:World} {b:Bool} {A:Option Addr} {c l:Nat} {z:Int} (h:I w b A c l z):I w.drew b A c l z:=h.below (Below.drew (Below.refl _ _))
theorem J.drew {w:World} {b:Bool} {A:Option Addr} {c l:Nat} {z:Int} (h:J w b A c l z):J w.drew b A c l z:=h.below (Below.drew (Below.refl _ _))
end Go.Proofs.YtiondclbdgijbaaGreatDoor
