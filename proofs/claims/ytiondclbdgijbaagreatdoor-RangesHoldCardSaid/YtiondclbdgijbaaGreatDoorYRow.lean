import Derived.Test.YtiondclbdgijbaaGreatDoorYApp
import Derived.Test.YtiondclbdgijbaaGreatDoorYWG
set_option maxHeartbeats 8000000
set_option maxRecDepth 100000
namespace Go.Proofs.YtiondclbdgijbaaGreatDoor
open Go.RowKit Tw
def ElA (w:World) (b off:Nat) (cs:List Value):Prop:=∀j u,cs[j]?=some u→w.cell? ⟨b,off+j,none⟩=some u
theorem ElA.below {w w':World} {b off:Nat} {cs:List Value} (h:ElA w b off cs) (hb:Below w.heap.size w w':=by go_grown):ElA w' b off cs:=fun j u hu=>(hb.cell (World.block_lt_of_cell? w _ (h j u hu))).trans (h j u hu)
theorem ElA.at {w:World} {b off:Nat} {cs:List Value} (h:ElA w b off cs) (j:Nat) (u:Value) (hu:cs[j]?=some u):w.cell? ⟨b,off+j,none⟩=some u:=h j u hu
theorem ElA.c0 {w:World} {b off:Nat} {cs:List Value} {u:Value} (h:ElA w b off cs) (hu:cs[0]?=some u):w.cell? ⟨b,off,none⟩=some u:=h 0 u hu
def Es (w:World) (b off:Nat):List Value→Prop
 | [a]=>w.cell? ⟨b,off,none⟩=some a∧True
 | [a,c]=>w.cell? ⟨b,off,none⟩=some a∧w.cell? ⟨b,off+1,none⟩=some c∧True
 | [a,c,d]=>w.cell? ⟨b,off,none⟩=some a∧w.cell? ⟨b,off+1,none⟩=some c∧w.cell? ⟨b,off+2,none⟩=some d∧True
 | [a,c,d,e]=>w.cell? ⟨b,off,none⟩=some a∧w.cell? ⟨b,off+1,none⟩=some c∧w.cell? ⟨b,off+2,none⟩=some d∧w.cell? ⟨b,off+3,none⟩=some e∧True
 | [a,c,d,e,f]=>w.cell? ⟨b,off,none⟩=some a∧w.cell? ⟨b,off+1,none⟩=some c∧w.cell? ⟨b,off+2,none⟩=some d∧w.cell? ⟨b,off+3,none⟩=some e∧w.cell? ⟨b,off+4,none⟩=some f∧True
 | [a,c,d,e,f,g]=>w.cell? ⟨b,off,none⟩=some a∧w.cell? ⟨b,off+1,none⟩=some c∧w.cell? ⟨b,off+2,none⟩=some d∧w.cell? ⟨b,off+3,none⟩=some e∧w.cell? ⟨b,off+4,none⟩=some f∧w.cell? ⟨b,off+5,none⟩=some g∧True
 | [a,c,d,e,f,g,i]=>w.cell? ⟨b,off,none⟩=some a∧w.cell? ⟨b,off+1,none⟩=some c∧w.cell? ⟨b,off+2,none⟩=some d∧w.cell? ⟨b,off+3,none⟩=some e∧w.cell? ⟨b,off+4,none⟩=some f∧w.cell? ⟨b,off+5,none⟩=some g∧w.cell? ⟨b,off+6,none⟩=some i∧True
 | [a,c,d,e,f,g,i,j]=>w.cell? ⟨b,off,none⟩=some a∧w.cell? ⟨b,off+1,none⟩=some c∧w.cell? ⟨b,off+2,none⟩=some d∧w.cell? ⟨b,off+3,none⟩=some e∧w.cell? ⟨b,off+4,none⟩=some f∧w.cell? ⟨b,off+5,none⟩=some g∧w.cell? ⟨b,off+6,none⟩=some i∧w.cell? ⟨b,off+7,none⟩=some j∧True
 | [a,c,d,e,f,g,i,j,k]=>w.cell? ⟨b,off,none⟩=some a∧w.cell? ⟨b,off+1,none⟩=some c∧w.cell? ⟨b,off+2,none⟩=some d∧w.cell? ⟨b,off+3,none⟩=some e∧w.cell? ⟨b,off+4,none⟩=some f∧w.cell? ⟨b,off+5,none⟩=some g∧w.cell? ⟨b,off+6,none⟩=some i∧w.cell? ⟨b,off+7,none⟩=some j∧w.cell? ⟨b,off+8,none⟩=some k∧True
 | [a,c,d,e,f,g,i,j,k,l]=>w.cell? ⟨b,off,none⟩=some a∧w.cell? ⟨b,off+1,none⟩=some c∧w.cell? ⟨b,off+2,none⟩=some d∧w.cell? ⟨b,off+3,none⟩=some e∧w.cell? ⟨b,off+4,none⟩=some f∧w.cell? ⟨b,off+5,none⟩=some g∧w.cell? ⟨b,off+6,none⟩=some i∧w.cell? ⟨b,off+7,none⟩=some j∧w.cell? ⟨b,off+8,none⟩=some k∧w.cell? ⟨b,off+9,none⟩=some l∧True
 | [a,c,d,e,f,g,i,j,k,l,m]=>w.cell? ⟨b,off,none⟩=some a∧w.cell? ⟨b,off+1,none⟩=some c∧w.cell? ⟨b,off+2,none⟩=some d∧w.cell? ⟨b,off+3,none⟩=some e∧w.cell? ⟨b,off+4,none⟩=some f∧w.cell? ⟨b,off+5,none⟩=some g∧w.cell? ⟨b,off+6,none⟩=some i∧w.cell? ⟨b,off+7,none⟩=some j∧w.cell? ⟨b,off+8,none⟩=some k∧w.cell? ⟨b,off+9,none⟩=some l∧w.cell? ⟨b,off+10,none⟩=some m∧True
 | [a,c,d,e,f,g,i,j,k,l,m,n]=>w.cell? ⟨b,off,none⟩=some a∧w.cell? ⟨b,off+1,none⟩=some c∧w.cell? ⟨b,off+2,none⟩=some d∧w.cell? ⟨b,off+3,none⟩=some e∧w.cell? ⟨b,off+4,none⟩=some f∧w.cell? ⟨b,off+5,none⟩=some g∧w.cell? ⟨b,off+6,none⟩=some i∧w.cell? ⟨b,off+7,none⟩=some j∧w.cell? ⟨b,off+8,none⟩=some k∧w.cell? ⟨b,off+9,none⟩=some l∧w.cell? ⟨b,off+10,none⟩=some m∧w.cell? ⟨b,off+11,none⟩=some n∧True
 | [a,c,d,e,f,g,i,j,k,l,m,n,o]=>w.cell? ⟨b,off,none⟩=some a∧w.cell? ⟨b,off+1,none⟩=some c∧w.cell? ⟨b,off+2,none⟩=some d∧w.cell? ⟨b,off+3,none⟩=some e∧w.cell? ⟨b,off+4,none⟩=some f∧w.cell? ⟨b,off+5,none⟩=some g∧w.cell? ⟨b,off+6,none⟩=some i∧w.cell? ⟨b,off+7,none⟩=some j∧w.cell? ⟨b,off+8,none⟩=some k∧w.cell? ⟨b,off+9,none⟩=some l∧w.cell? ⟨b,off+10,none⟩=some m∧w.cell? ⟨b,off+11,none⟩=some n∧w.cell? ⟨b,off+12,none⟩=some o∧True
 | [a,c,d,e,f,g,i,j,k,l,m,n,o,p,q,r]=>w.cell? ⟨b,off,none⟩=some a∧w.cell? ⟨b,off+1,none⟩=some c∧w.cell? ⟨b,off+2,none⟩=some d∧w.cell? ⟨b,off+3,none⟩=some e∧w.cell? ⟨b,off+4,none⟩=some f∧w.cell? ⟨b,off+5,none⟩=some g∧w.cell? ⟨b,off+6,none⟩=some i∧w.cell? ⟨b,off+7,none⟩=some j∧w.cell? ⟨b,off+8,none⟩=some k∧w.cell? ⟨b,off+9,none⟩=some l∧w.cell? ⟨b,off+10,none⟩=some m∧w.cell? ⟨b,off+11,none⟩=some n∧w.cell? ⟨b,off+12,none⟩=some o∧w.cell? ⟨b,off+13,none⟩=some p∧w.cell? ⟨b,off+14,none⟩=some q∧w.cell? ⟨b,off+15,none⟩=some r∧True
 | _=>True
theorem ElA.ez {w:World} {b off:Nat} {cs:List Value} (h:ElA w b off cs):Es w b off cs:=by
 match cs with
 | []=>trivial
 | [a]=>exact⟨h 0 _ rfl,trivial⟩
 | [a,c]=>exact⟨h 0 _ rfl,h 1 _ rfl,trivial⟩
 | [a,c,d]=>exact⟨h 0 _ rfl,h 1 _ rfl,h 2 _ rfl,trivial⟩
 | [a,c,d,e]=>exact⟨h 0 _ rfl,h 1 _ rfl,h 2 _ rfl,h 3 _ rfl,trivial⟩
 | [a,c,d,e,f]=>exact⟨h 0 _ rfl,h 1 _ rfl,h 2 _ rfl,h 3 _ rfl,h 4 _ rfl,trivial⟩
 | [a,c,d,e,f,g]=>exact⟨h 0 _ rfl,h 1 _ rfl,h 2 _ rfl,h 3 _ rfl,h 4 _ rfl,h 5 _ rfl,trivial⟩
 | [a,c,d,e,f,g,i]=>exact⟨h 0 _ rfl,h 1 _ rfl,h 2 _ rfl,h 3 _ rfl,h 4 _ rfl,h 5 _ rfl,h 6 _ rfl,trivial⟩
 | [a,c,d,e,f,g,i,j]=>exact⟨h 0 _ rfl,h 1 _ rfl,h 2 _ rfl,h 3 _ rfl,h 4 _ rfl,h 5 _ rfl,h 6 _ rfl,h 7 _ rfl,trivial⟩
 | [a,c,d,e,f,g,i,j,k]=>exact⟨h 0 _ rfl,h 1 _ rfl,h 2 _ rfl,h 3 _ rfl,h 4 _ rfl,h 5 _ rfl,h 6 _ rfl,h 7 _ rfl,h 8 _ rfl,trivial⟩
 | [a,c,d,e,f,g,i,j,k,l]=>exact⟨h 0 _ rfl,h 1 _ rfl,h 2 _ rfl,h 3 _ rfl,h 4 _ rfl,h 5 _ rfl,h 6 _ rfl,h 7 _ rfl,h 8 _ rfl,h 9 _ rfl,trivial⟩
 | [a,c,d,e,f,g,i,j,k,l,m]=>exact⟨h 0 _ rfl,h 1 _ rfl,h 2 _ rfl,h 3 _ rfl,h 4 _ rfl,h 5 _ rfl,h 6 _ rfl,h 7 _ rfl,h 8 _ rfl,h 9 _ rfl,h 10 _ rfl,trivial⟩
 | [a,c,d,e,f,g,i,j,k,l,m,n]=>exact⟨h 0 _ rfl,h 1 _ rfl,h 2 _ rfl,h 3 _ rfl,h 4 _ rfl,h 5 _ rfl,h 6 _ rfl,h 7 _ rfl,h 8 _ rfl,h 9 _ rfl,h 10 _ rfl,h 11 _ rfl,trivial⟩
 | [a,c,d,e,f,g,i,j,k,l,m,n,o]=>exact⟨h 0 _ rfl,h 1 _ rfl,h 2 _ rfl,h 3 _ rfl,h 4 _ rfl,h 5 _ rfl,h 6 _ rfl,h 7 _ rfl,h 8 _ rfl,h 9 _ rfl,h 10 _ rfl,h 11 _ rfl,h 12 _ rfl,trivial⟩
 | [a,c,d,e,f,g,i,j,k,l,m,n,o,p,q,r]=>exact⟨h 0 _ rfl,h 1 _ rfl,h 2 _ rfl,h 3 _ rfl,h 4 _ rfl,h 5 _ rfl,h 6 _ rfl,h 7 _ rfl,h 8 _ rfl,h 9 _ rfl,h 10 _ rfl,h 11 _ rfl,h 12 _ rfl,h 13 _ rfl,h 14 _ rfl,h 15 _ rfl,trivial⟩
 | [_,_,_,_,_,_,_,_,_,_,_,_,_,_]=>trivial
 | [_,_,_,_,_,_,_,_,_,_,_,_,_,_,_]=>trivial
 | _ :: _ :: _ :: _ :: _ :: _ :: _ :: _ :: _ :: _ :: _ :: _ :: _ :: _ :: _ :: _ :: _ :: _=>trivial
def Sl {α:Type} (f:α→List Value) (k:Nat) (w:World) (A:Option Addr) (n c:Nat) (L:List α):Prop:=L.length=n∧From w k (.slice A n c) n (flat f L)
section
variable {α:Type} {f:α→List Value} {k:Nat} {w w':World} {A:Option Addr} {n c:Nat} {L:List α}
theorem Sl.below (h:Sl f k w A n c L) (hb:Below w.heap.size w w':=by go_grown):Sl f k w' A n c L:=⟨h.1,h.2.below hb⟩
theorem Sl.nil (w:World):Sl f k w none 0 0 []:=⟨rfl,by simp[flat],none,0,rfl,fun _=>rfl,(fun _ h=>(by cases h))⟩
theorem Sl.none_len (h:Sl f k w none n c L):n=0:=by
 obtain⟨_,_,A,c',e,h2,_⟩:=h;cases e;exact h2 rfl
theorem add_off (b off j:Nat):(⟨b,off,none⟩:Addr).add j=⟨b,off+j,none⟩:=by unfold Addr.add;split<;>simp_all
theorem Sl.at (h:Sl f k w A n c L) (hk:∀x,(f x).length=k) (h0:0<k) (hn:0<n):∃b off,A=some ⟨b,off,none⟩∧∀i x,L[i]?=some x→ElA w b (off+i*k) (f x):=by
 obtain⟨hl,hlen,A',c',e,hA,hc⟩:=h;cases e;cases A with
 | none=>have:=hA rfl;omega
 | some a =>
  obtain⟨b,off,spot⟩:=a;have hp:0<(flat f L).length:=by rw[hlen];exact Nat.mul_pos hn h0
  have hc0:=hc _ rfl 0 ((flat f L)[0]) (cA hp);have hs:spot=none:=by simpa [Addr.add] using World.cell?_spot hc0
  subst hs;refine⟨b,off,rfl,fun i x hx j u hu=>?_⟩;have hj:j<k:=by
   rcases eB j k with h1 | h1
   ·exact h1
   ·rw[cB (by rw[hk];exact h1)] at hu;cases hu
  have h1:=hc _ rfl (i*k+j) u (by rw[flat_get hk L i x hx j hj];exact hu);rw[add_off] at h1;rw[gE];exact h1
theorem Sl.len (h:Sl f k w A n c L):L.length=n:=h.1
end
theorem OwnR.sl {α:Type} {f:α→List Value} {k:Nat} {w:World} {B:Nat} {e:TypeId} {H:Option Addr} {n cap:Nat} {L:List α} (ho:OwnR w B e k (.slice H n cap) n (flat f L)) (hl:L.length=n):Sl f k w H n cap L:=⟨hl,ho.from_⟩
structure Fr where
 s:Bool
 A:Option Addr
 c:Nat
 l:Nat
 s':Bool
 A':Option Addr
 c':Nat
 l':Nat
 q:Rat
 ex:Bool
def Fr.cs (x:Fr):List Value:=[.bool x.s,.slice x.A x.l x.c,.bool x.s',.slice x.A' x.l' x.c']
theorem Fr.cs_len (x:Fr):x.cs.length=4:=rfl
def FrOk (w:World) (m:Nat) (x:Fr):Prop:=R w x.s x.A x.c x.l x.s' x.A' x.c' x.l' x.q m∧∃xs ys,Dx w x.A x.c x.l xs∧Dx w x.A' x.c' x.l' ys∧exB x.s xs x.s' ys x.q=x.ex
theorem FrOk.below {w w':World} {m:Nat} {x:Fr} (h:FrOk w m x) (hb:Below w.heap.size w w':=by go_grown):FrOk w' m x:=by
 obtain⟨h1,xs,ys,h2,h3,h4⟩:=h;exact⟨h1.below hb,xs,ys,h2.below hb,h3.below hb,h4⟩
theorem FrOk.k {w w':World} {m:Nat} {x:Fr} (h:FrOk w m x) (hb:K64 w w'):FrOk w' m x:=by
 obtain⟨h1,xs,ys,h2,h3,h4⟩:=h;exact⟨h1.k hb,xs,ys,h2.k hb,h3.k hb,h4⟩
theorem FrOk.mono {w:World} {m m':Nat} {x:Fr} (h:FrOk w m x) (hm:m≤m'):FrOk w m' x:=⟨h.1.mono hm,h.2⟩
theorem FrOk.r {w:World} {m:Nat} {x:Fr} (h:FrOk w m x):R w x.s x.A x.c x.l x.s' x.A' x.c' x.l' x.q m:=h.1
theorem FrOk.rn {w:World} {m:Nat} {x:Fr} (h:FrOk w m x):x.ex=true↔RN w x.s x.A x.c x.l x.s' x.A' x.c' x.l' x.q:=by
 obtain⟨_,xs,ys,h2,h3,h4⟩:=h;rw[←h4];exact exB_iff h2 h3
theorem RN.fr {w:World} {s s':Bool} {A A':Option Addr} {c c' l l' m:Nat} {q:Rat} (h:RN w s A c l s' A' c' l' q) (hm:sz q≤m):FrOk w m ⟨s,A,c,l,s',A',c',l',q,true⟩ :=
 ⟨h.r' hm,_,_,h.1.dx,h.2.dx,(exB_iff h.1.dx h.2.dx).2 h⟩
theorem R.fr {w:World} {s s':Bool} {A A':Option Addr} {c c' l l' m:Nat} {q:Rat} (h:R w s A c l s' A' c' l' q m):∃ex,FrOk w m ⟨s,A,c,l,s',A',c',l',q,ex⟩:=by
 obtain⟨xs,ys,h1,h2⟩:=h.dx;exact⟨exB s xs s' ys q,h,xs,ys,h1,h2,rfl⟩
structure Tm where
 at_:Int
 x:Fr
def Tm.cs (t:Tm):List Value:=[.int .i64 t.at_,.bool t.x.s,.slice t.x.A t.x.l t.x.c,.bool t.x.s',.slice t.x.A' t.x.l' t.x.c']
theorem Tm.cs_len (t:Tm):t.cs.length=5:=rfl
def rightAt (L:List Tm) (n:Int) (i:Nat):Bool :=
 match L[i]? with
 | none=>true
 | some t=>decide (0≤t.at_)&&decide (t.at_<n)&&(match i with | 0=>true | j+1=>match L[j]? with | none=>true | some p=>decide (p.at_<t.at_))&&decide (t.x.q≠0)&&t.x.ex
def rightB (L:List Tm) (n:Int):Bool:=(List.range L.length).all (rightAt L n)
def longF (k:Nat) (x:Fr):Bool:=decide (k<x.l) || decide (k<x.l')
theorem longRat_q {w:World} (x:Fr) (k:Nat) (_hl:x.l≤9223372036854775807∧x.l'≤9223372036854775807) (r:Bool) (hr:Hid (longF k x=r)) :
  Calls Tryz.prog 13 #[.agg #[.bool x.s,.slice x.A x.l x.c,.bool x.s',.slice x.A' x.l' x.c'],.int .i64 (k:Int)] w fun e w'=>e=.returned (.bool r)∧Below w.heap.size w w':=by
 obtain rfl:=hr.out;unfold longF
 by_cases h1:k<x.l
 ·have g1:(k:Int)<(x.l:Int):=zo;rw[jA h1,Bool.true_or];obtain⟨W,hW,x0,hB⟩:=zAb w #[.bool x.s,.slice x.A x.l x.c,.bool x.s',.slice x.A' x.l' x.c'] 47;have HX0:=zh x0;clear x0;have Bz:=zr W;have pa1:=(zx HX0 Bz).cell 1 (.slice x.A x.l x.c) rfl;go_enter Tryz.func13,Tryz.ntmps13
  go_wp2_with fail
  rw[←hW];clear hW;go_wp2_with fail
  go_ret
  have hF:=bT (c:=W) hB Bz;exact⟨rfl,bT hF⟩
 ·have g1:¬(k:Int)<(x.l:Int):=zo;rw[yA h1,Bool.false_or];by_cases h2:k<x.l'
  ·have g2:(k:Int)<(x.l':Int):=zo;rw[jA h2];obtain⟨W,hW,x0,hB⟩:=zAb w #[.bool x.s,.slice x.A x.l x.c,.bool x.s',.slice x.A' x.l' x.c'] 47;have HX0:=zh x0;clear x0;have Bz:=zr W;obtain⟨-,pa1,-,pa3,-⟩:=(zx HX0 Bz).cz;go_enter Tryz.func13,Tryz.ntmps13
   go_wp2_with fail
   rw[←hW];clear hW;go_wp2_with fail
   go_ret
   have hF:=bT (c:=W) hB Bz;exact⟨rfl,bT hF⟩
  ·have g2:¬(k:Int)<(x.l':Int):=zo;rw[yA h2];obtain⟨W,hW,x0,hB⟩:=zAb w #[.bool x.s,.slice x.A x.l x.c,.bool x.s',.slice x.A' x.l' x.c'] 47;have HX0:=zh x0;clear x0;have Bz:=zr W;obtain⟨-,pa1,-,pa3,-⟩:=(zx HX0 Bz).cz;go_enter Tryz.func13,Tryz.ntmps13
   go_wp2_with fail
   rw[←hW];clear hW;go_wp2_with fail
   go_ret
   have hF:=bT (c:=W) hB Bz;exact⟨rfl,bT hF⟩
theorem take_all {α:Type} {L:List α} {p:α→Bool} {i:Nat} {x:α} (h:(L.take i).all p=true) (hx:L[i]?=some x) (hp:p x=true):(L.take (i+1)).all p=true:=by
 rw[aF,List.all_append,h,hx];simp[hp]
theorem all_no {α:Type} {L:List α} {p:α→Bool} {i:Nat} {x:α} (hx:L[i]?=some x) (hp:p x=false):L.all p=false:=by
 rw[List.all_eq_false];exact⟨x,eA hx,by rw[hp];simp⟩
theorem all_yes {α:Type} {L:List α} {p:α→Bool} {n:Nat} (hl:L.length=n) (h:(L.take n).all p=true):L.all p=true:=by rwa [fA zo] at h
def ics (z:Int):List Value:=[.int .i64 z]
theorem ics_len (z:Int):(ics z).length=1:=rfl
theorem zAi {α:Type} {L:List α} {i:Nat} {x:α} (h:L[i]?=some x):L.take (i+1)=L.take i++[x]:=by rw[aF,h];rfl
theorem longRat2_q {w:World} (x:Fr) (hl:x.l≤9223372036854775807∧x.l'≤9223372036854775807) (r:Bool) (hr:Hid (longF 2 x=r)) :
  Calls Tryz.prog 13 #[.agg #[.bool x.s,.slice x.A x.l x.c,.bool x.s',.slice x.A' x.l' x.c'],.int .i64 2] w fun e w'=>e=.returned (.bool r)∧Below w.heap.size w w':=longRat_q x 2 hl r hr
def OutLg (w:World) (n:Nat) (L:List Fr) (e:Ending) (w':World):Prop:=∃r,e=.returned (.bool r)∧(r=false→n≤60∧∀x∈L,x.l≤2∧x.l'≤2)∧Below w.heap.size w w'
def LG1 (w:World) (L:List Fr) (n gk:Nat) (s:Value) (wr:World):Prop:=∃i:Nat,i≤n∧n-i=gk∧s=.int .i64 (i:Int)∧Below w.heap.size w wr∧∀j,j<i→∀x,L[j]?=some x→x.l≤2∧x.l'≤2
theorem long20_q {w:World} {A:Option Addr} {n c:Nat} {L:List Fr} (h:Sl Fr.cs 4 w A n c L) (hl:Hid (∀x∈L,x.l≤9223372036854775807∧x.l'≤9223372036854775807)) (hn:n≤9223372036854775807) :
  Calls Tryz.prog 5 #[.slice A n c] w (OutLg w n L):=by
 have HS:=zh h;have HL:=zh h.1;clear h;by_cases h60:60<n
 ·have g1:(60:Int)<(n:Int):=zo;go_enter Tryz.func5,Tryz.ntmps5
  go_wp2_with fail
  go_ret
  exact⟨true,rfl,(fun h=>by cases h),by go_grown⟩
 have g1:¬(60:Int)<(n:Int):=zo;go_enter Tryz.func5,Tryz.ntmps5
 go_wp2_with fail
 go_loopg [3] n (fun gk s wr=>LG1 w L n gk s wr)
 case atStart=>exact⟨0,uA _,rfl,rfl,Below.refl _ _,fun j hj=>absurd hj (mF j)⟩
 case round =>
  obtain⟨i,hi,hgk,rfl,hB,hall⟩:=hrel;have HGK:=zh hgk;have HAL:=zh hall;clear hgk hall;by_cases hlt:i<n
  ·obtain⟨b,off,rfl,hel⟩:=HS.out.at Fr.cs_len zo zo;obtain⟨x,hx⟩:∃x,L[i]?=some x:=⟨L[i]'(by rw[HL.out];exact hlt),cA _⟩;have hnd:=hel i x hx;have hxl:=hl.out x (eA hx);have HX:=zh hx;have i1:(i:Int)<(n:Int):=zo;have i2:(0:Int)≤(i:Int):=zo;clear hel hx;cases hlf:longF 2 x with
   | true =>
    have HLF:=zh hlf;clear hlf;have Bz:=zr wr;obtain⟨pA0,pA1,pA2,pA3,-⟩:=(hnd.below (bT hB Bz)).ez;go_wp2_with fail
    with_reducible refine(longRat2_q x hxl true HLF).mono ?_
    rintro e w11 ⟨rfl,q⟩;replace q:=zq (a:=wr) q;replace Bz:=bT Bz q;clear q;clear pA0 pA1 pA2 pA3;go_wp2_with fail
    go_ret
    have hF:=bT (c:=w11) hB Bz;exact⟨true,rfl,(fun h=>by cases h),bT hB (bT Bz)⟩
   | false =>
    have HLF:=zh hlf;have hok:∀j,j<i+1→∀u,L[j]?=some u→u.l≤2∧u.l'≤2:=fun j hj u hu=>by
     rcases eB j i with h1 | h1
     ·exact HAL.out j h1 u hu
     ·obtain rfl:j=i:=zo;rw[HX.out] at hu;cases hu;have h2:=HLF.out;unfold longF at h2
      rw[Bool.or_eq_false_iff,decide_eq_false_iff_not,decide_eq_false_iff_not] at h2;omega
    clear hlf;have Bz:=zr wr;obtain⟨pA0,pA1,pA2,pA3,-⟩:=(hnd.below (bT hB Bz)).ez;go_wp2_with fail
    with_reducible refine(longRat2_q x hxl false HLF).mono ?_
    rintro e w11 ⟨rfl,q⟩;replace q:=zq (a:=wr) q;replace Bz:=bT Bz q;clear q;clear pA0 pA1 pA2 pA3;go_wp2_with fail
    go_roundg (n-(i+1))
    case measure=>have:=HGK.out;omega
    case rel=>exact⟨i+1,zo,rfl,by go_num,bT (bT hB Bz),hok⟩
  ·obtain rfl:i=n:=zo;have i1:¬(i:Int)<(i:Int):=zo;go_wp2_with fail
   go_ret
   exact⟨false,rfl,fun _=>⟨zo,fun x hx=>by
    obtain⟨j,hj⟩:=nE hx;exact HAL.out j (by have:=(dC.1 hj).1;rw[HL.out] at this;exact this) x hj⟩,hB⟩
theorem exact_sh {w:World} {m:Nat} {x:Fr} (h:FrOk w m x) (hm:m≤40000000000) (t:Bool) (ht:Hid (x.ex=t)) (hT:Hid (Tab w)) :
  Calls Tryz.prog 118 #[.agg #[.bool x.s,.slice x.A x.l x.c,.bool x.s',.slice x.A' x.l' x.c']] w fun e w'=>e=.returned (.bool t)∧Below w.heap.size w w':=by
 obtain⟨h1,xs,ys,h2,h3,h4⟩:=h;exact exact_shapes h1 h2 h3 hm t (zh (h4.trans ht.out)) hT
theorem exact_sp {w:World} {m:Nat} {x:Fr} (h:FrOk w m x) (hm:m≤40000000000) (t:Bool) (ht:Hid (x.ex=t)) (hT:Hid (Tab w)) :
  Calls Tryz.prog 133 #[.agg #[.bool x.s,.slice x.A x.l x.c,.bool x.s',.slice x.A' x.l' x.c']] w fun e w'=>e=.returned (.bool t)∧Below w.heap.size w w':=by
 obtain⟨h1,xs,ys,h2,h3,h4⟩:=h;exact exact_sparse h1 h2 h3 hm t (zh (h4.trans ht.out)) hT
def RT1 (w:World) (L:List Tm) (n:Int) (len gk:Nat) (s:Value) (wr:World):Prop:=∃i:Nat,i≤len∧len-i=gk∧s=.int .i64 (i:Int)∧Below w.heap.size w wr∧∀j,j<i→rightAt L n j=true
theorem rightB_true {L:List Tm} {n:Int} (h:∀j,j<L.length→rightAt L n j=true):rightB L n=true:=by
 unfold rightB;rw[sB];intro j hj;exact h j (zD.1 hj)
theorem rightB_false {L:List Tm} {n:Int} {i:Nat} (hi:i<L.length) (h:rightAt L n i=false):rightB L n=false:=by
 unfold rightB;rw[List.all_eq_false];exact⟨i,zD.2 hi,by rw[h];simp⟩
theorem right_q {w:World} {A:Option Addr} {len c m:Nat} {L:List Tm} {n:Int} (h:Sl Tm.cs 5 w A len c L) (hok:∀t∈L,FrOk w m t.x) (hm:m≤20000000000) (hlen:len≤1000000000) (r:Bool) (hr:Hid (rightB L n=r)) (hT:Hid (Tab w)) :
  Calls Tryz.prog 114 #[.slice A len c,.int .i64 n] w fun e w'=>e=.returned (.bool r)∧Below w.heap.size w w':=by
 have H:=zh h;have HOK:=zh hok;have HLN:=zh h.1;have hst:RT1 w L n len len (.int .i64 ((0:Nat):Int)) w:=⟨0,uA _,rfl,rfl,Below.refl _ _,fun j hj=>by omega⟩;have HST:=zh hst;clear h hok hst;go_enter Tryz.func114,Tryz.ntmps114
 go_wp2_with fail
 go_loopg [9] len (fun gk s wr=>RT1 w L n len gk s wr)
 case atStart=>exact HST.out
 case round =>
  clear HST;obtain⟨i,hi,hgk,rfl,hB,hd⟩:=hrel;have HGK:=zh hgk;have HD:=zh hd;clear hgk hd;by_cases hlt:i<len
  ·obtain⟨b,off,rfl,hel⟩:=H.out.at Tm.cs_len zo zo;obtain⟨t,ht⟩:∃t,L[i]?=some t:=⟨L[i]'(by rw[HLN.out];exact hlt),cA _⟩;have hnd:=hel i t ht;have hfr:=HOK.out t (eA ht);have hfx:=hfr.r;have HTI:=zh ht;replace hfr:=hfr.below hB;replace hfx:=hfx.below hB;have i1:(i:Int)<(len:Int):=zo;have i2:(0:Int)≤(i:Int):=zo;have HEL:=zh hel;obtain⟨sg,HSG⟩:∃sg,Hid (t.x.q.num.sign=sg):=⟨_,zh rfl⟩;obtain⟨ex,HEX⟩:∃ex,Hid (t.x.ex=ex):=⟨_,zh rfl⟩;clear ht hel;by_cases c1:t.at_<0
   ·have g1:decide (t.at_<0)=true:=by simpa using c1
    obtain rfl:r=false:=by rw[←hr.out];exact rightB_false (by rw[HLN.out];exact hlt) (by unfold rightAt;rw[HTI.out];simp;omega)
    clear c1;have Bz:=zr wr;obtain⟨pA0,pA1,pA2,pA3,pA4,-⟩:=(hnd.below (bT hB Bz)).ez;go_upto_region 4 with(fail)
    obtain⟨V1,hW,x0,hN⟩:=zAb wr #[.int .i64 t.at_,.bool t.x.s,.slice t.x.A t.x.l t.x.c,.bool t.x.s',.slice t.x.A' t.x.l' t.x.c'] 60;rw[←hW];clear hW;obtain⟨v0,hb0⟩:=ze wr.heap.size;rw[←hb0] at x0 ⊢;have ow_0:w.heap.size≤v0:=zi (zw hB Bz);replace hB:=bT (bT hB Bz) hN;have HX0:=zh x0;clear x0 hN Bz hb0;have Bz:=zr V1;clear pA0 pA1 pA2 pA3 pA4;have pa0:=(zx HX0 Bz).cell 0 (.int .i64 t.at_) rfl;go_wp2_with fail
    go_ret
    have hF:=bT (c:=V1) hB Bz;exact⟨rfl,bT (bT hB Bz)⟩
   ·have g1:decide (t.at_<0)=false:=by simp;omega
    by_cases c2:n≤t.at_
    ·have g2:decide (n≤t.at_)=true:=by simpa using c2
     obtain rfl:r=false:=by rw[←hr.out];exact rightB_false (by rw[HLN.out];exact hlt) (by unfold rightAt;rw[HTI.out];simp;omega)
     clear c1 c2;have Bz:=zr wr;obtain⟨pA0,pA1,pA2,pA3,pA4,-⟩:=(hnd.below (bT hB Bz)).ez;go_upto_region 4 with(fail)
     obtain⟨V1,hW,x0,hN⟩:=zAb wr #[.int .i64 t.at_,.bool t.x.s,.slice t.x.A t.x.l t.x.c,.bool t.x.s',.slice t.x.A' t.x.l' t.x.c'] 60;rw[←hW];clear hW;obtain⟨v0,hb0⟩:=ze wr.heap.size;rw[←hb0] at x0 ⊢;have ow_0:w.heap.size≤v0:=zi (zw hB Bz);replace hB:=bT (bT hB Bz) hN;have HX0:=zh x0;clear x0 hN Bz hb0;have Bz:=zr V1;clear pA0 pA1 pA2 pA3 pA4;have pa0:=(zx HX0 Bz).cell 0 (.int .i64 t.at_) rfl;go_wp2_with fail
     go_ret
     have hF:=bT (c:=V1) hB Bz;exact⟨rfl,bT (bT hB Bz)⟩
    ·have g2:decide (n≤t.at_)=false:=by simp;omega
     rcases qC i with rfl | hi0
     ·replace hnd:ElA w b off t.cs:=by simpa using hnd
      have a0:rightAt L n 0=(decide (t.x.q≠0)&&t.x.ex):=by
       have f1:decide (0≤t.at_)=true:=by simp;omega
       have f2:decide (t.at_<n)=true:=by simp;omega
       unfold rightAt;rw[HTI.out];simp only[f1,f2,Bool.true_and]
      have A0:=zh a0;clear c1 c2 a0 HEL;by_cases c4:sg=0
      ·have g4:(sg==0)=true:=by simpa using c4
       obtain rfl:r=false:=by rw[←hr.out];exact rightB_false (by rw[HLN.out];exact hlt) (by rw[A0.out];have:=HSG.out;rw[c4] at this;simp[Rat.num_eq_zero.1 (Int.sign_eq_zero_iff_zero.1 this)])
       clear c4;have Bz:=zr wr;obtain⟨pA0,pA1,pA2,pA3,pA4,-⟩:=(hnd.below (bT hB Bz)).ez;go_upto_region 4 with(fail)
       obtain⟨V1,hW,x0,hN⟩:=zAb wr #[.int .i64 t.at_,.bool t.x.s,.slice t.x.A t.x.l t.x.c,.bool t.x.s',.slice t.x.A' t.x.l' t.x.c'] 60;rw[←hW];clear hW;obtain⟨v0,hb0⟩:=ze wr.heap.size;rw[←hb0] at x0 ⊢;have ow_0:w.heap.size≤v0:=zi (zw hB Bz);replace hfx:=hfx.below hN;replace hB:=bT (bT hB Bz) hN;have HX0:=zh x0;clear x0 hN Bz hb0;have Bz:=zr V1;clear pA0 pA1 pA2 pA3 pA4;obtain⟨pa0,pa1,pa2,pa3,pa4,-⟩:=(zx HX0 Bz).cz;go_wp2_with fail
       (try simp only[vAa,vBa,vC])
       refine zl (zz [0,1,2,3,4,5,6,7,8,9,10,11,12,13] .done) [] zn ?_;iterate 3 (refine zUa ?_;try simp only[Act.put,uX,uY,uZ])
       iterate 9 (refine zN rfl rfl ?_;try simp only[Act.put,uX,uY,uZ])
       iterate 2 (refine zUa ?_;try simp only[Act.put,uX,uY,uZ])
       refine wpPlan_done ?_;go_wp2_with fail
       with_reducible refine(sign_q (R.below hfx) zo sg HSG).mono ?_
       rintro e w1 ⟨rfl,z⟩;replace z:=zq (a:=V1) z;replace Bz:=bT Bz z;clear z;clear pa0 pa1 pa2 pa3 pa4;go_wp2_with fail
       go_ret
       have hF:=bT (c:=w1) hB Bz;exact⟨rfl,bT (bT hB Bz)⟩
      ·have g4:(sg==0)=false:=by simpa using c4
       have nz:t.x.q≠0:=fun e=>c4 (by rw[←HSG.out,e];rfl);have NZ:=zh nz;clear c4 nz;cases ex
       ·obtain rfl:r=false:=by rw[←hr.out];exact rightB_false (by rw[HLN.out];exact hlt) (by rw[A0.out,HEX.out];simp)
        have Bz:=zr wr;obtain⟨pA0,pA1,pA2,pA3,pA4,-⟩:=(hnd.below (bT hB Bz)).ez;go_upto_region 4 with(fail)
        obtain⟨V1,hW,x0,hN⟩:=zAb wr #[.int .i64 t.at_,.bool t.x.s,.slice t.x.A t.x.l t.x.c,.bool t.x.s',.slice t.x.A' t.x.l' t.x.c'] 60;rw[←hW];clear hW;obtain⟨v0,hb0⟩:=ze wr.heap.size;rw[←hb0] at x0 ⊢;have ow_0:w.heap.size≤v0:=zi (zw hB Bz);replace hfr:=hfr.below hN;replace hfx:=hfx.below hN;replace hB:=bT (bT hB Bz) hN;have HX0:=zh x0;clear x0 hN Bz hb0;have Bz:=zr V1;clear pA0 pA1 pA2 pA3 pA4;obtain⟨pa0,pa1,pa2,pa3,pa4,-⟩:=(zx HX0 Bz).cz;go_wp2_with fail
        (try simp only[vAa,vBa,vC])
        refine zl (zz [0,1,2,3,4,5,6,7,8,9,10,11,12,13] .done) [] zn ?_;iterate 3 (refine zUa ?_;try simp only[Act.put,uX,uY,uZ])
        iterate 9 (refine zN rfl rfl ?_;try simp only[Act.put,uX,uY,uZ])
        iterate 2 (refine zUa ?_;try simp only[Act.put,uX,uY,uZ])
        refine wpPlan_done ?_;go_wp2_with fail
        with_reducible refine(sign_q (R.below hfx) zo sg HSG).mono ?_
        rintro e w1 ⟨rfl,z⟩;replace z:=zq (a:=V1) z;replace hfr:=hfr.below z;replace Bz:=bT Bz z;clear z;clear pa0 pa1 pa2 pa3 pa4;obtain⟨-,pa1,pa2,pa3,pa4,-⟩:=(zx HX0 Bz).cz;go_wp2_with fail
        with_reducible refine(exact_sp (FrOk.below hfr) zo false HEX (zt hT hB Bz)).mono ?_
        rintro e w2 ⟨rfl,z⟩;replace z:=zq (a:=w1) z;replace Bz:=bT Bz z;clear z;clear pa1 pa2 pa3 pa4;go_wp2_with fail
        go_ret
        have hF:=bT (c:=w2) hB Bz;exact⟨rfl,bT (bT hB Bz)⟩
       ·have HA:Hid (rightAt L n 0=true):=zh (by rw[A0.out,HEX.out];simpa using NZ.out);have Bz:=zr wr;obtain⟨pA0,pA1,pA2,pA3,pA4,-⟩:=(hnd.below (bT hB Bz)).ez;go_upto_region 4 with(fail)
        obtain⟨V1,hW,x0,hN⟩:=zAb wr #[.int .i64 t.at_,.bool t.x.s,.slice t.x.A t.x.l t.x.c,.bool t.x.s',.slice t.x.A' t.x.l' t.x.c'] 60;rw[←hW];clear hW;obtain⟨v0,hb0⟩:=ze wr.heap.size;rw[←hb0] at x0 ⊢;have ow_0:w.heap.size≤v0:=zi (zw hB Bz);replace hfr:=hfr.below hN;replace hfx:=hfx.below hN;replace hB:=bT (bT hB Bz) hN;have HX0:=zh x0;clear x0 hN Bz hb0;have Bz:=zr V1;clear pA0 pA1 pA2 pA3 pA4;obtain⟨pa0,pa1,pa2,pa3,pa4,-⟩:=(zx HX0 Bz).cz;go_wp2_with fail
        (try simp only[vAa,vBa,vC])
        refine zl (zz [0,1,2,3,4,5,6,7,8,9,10,11,12,13] .done) [] zn ?_;iterate 3 (refine zUa ?_;try simp only[Act.put,uX,uY,uZ])
        iterate 9 (refine zN rfl rfl ?_;try simp only[Act.put,uX,uY,uZ])
        iterate 2 (refine zUa ?_;try simp only[Act.put,uX,uY,uZ])
        refine wpPlan_done ?_;go_wp2_with fail
        with_reducible refine(sign_q (R.below hfx) zo sg HSG).mono ?_
        rintro e w1 ⟨rfl,z⟩;replace z:=zq (a:=V1) z;replace hfr:=hfr.below z;replace Bz:=bT Bz z;clear z;clear pa0 pa1 pa2 pa3 pa4;obtain⟨-,pa1,pa2,pa3,pa4,-⟩:=(zx HX0 Bz).cz;go_wp2_with fail
        with_reducible refine(exact_sp (FrOk.below hfr) zo true HEX (zt hT hB Bz)).mono ?_
        rintro e w2 ⟨rfl,z⟩;replace z:=zq (a:=w1) z;replace Bz:=bT Bz z;clear z;clear pa1 pa2 pa3 pa4;go_wp2_with fail
        go_roundg (len-(0+1))
        case measure=>have:=HGK.out;omega
        case rel=>exact⟨0+1,zo,rfl,by go_num,bT (bT hB Bz),fun k hk=>by
         rcases eB k (0) with h1 | h1
         ·exact HD.out k h1
         ·obtain rfl:k=0:=zo;exact HA.out⟩
     ·obtain⟨j,rfl⟩:∃j,i=j+1:=⟨i-1,zo⟩;obtain⟨p,hp⟩:∃p,L[j]?=some p:=⟨L[j]'(by rw[HLN.out];omega),cA _⟩;have hpd:=HEL.out j p hp;have HP:=zh hp;have j1:(j:Int)<(len:Int):=zo;have j2:(0:Int)≤(j:Int):=zo;have j3:decide ((0:Int)<((j+1:Nat):Int))=true:=jA zo;have j4:(0:Int)<(j:Int)+1:=zo;have u1:IntKind.i64.wrap (((j+1:Nat):Int)-1)=(j:Int):=by rw[IntWalk.i64_in _ zo];omega
      have u3:IntKind.i64.wrap (j:Int)=(j:Int):=IntWalk.i64_in _ zo;have u2:IntKind.i64.wrap ((j:Int)+1-1)=(j:Int):=by rw[IntWalk.i64_in _ zo];omega
      have a0:rightAt L n (j+1)=(decide (p.at_<t.at_)&&decide (t.x.q≠0)&&t.x.ex):=by
       have f1:decide (0≤t.at_)=true:=by simp;omega
       have f2:decide (t.at_<n)=true:=by simp;omega
       unfold rightAt;rw[HTI.out];simp only[f1,f2,HP.out,Bool.true_and]
      have A0:=zh a0;clear c1 c2 a0 HEL hp hi0;by_cases c3:t.at_≤p.at_
      ·have g3:decide (t.at_≤p.at_)=true:=by simpa using c3
       obtain rfl:r=false:=by rw[←hr.out];exact rightB_false (by rw[HLN.out];exact hlt) (by rw[A0.out];simp;omega)
       clear c3;have Bz:=zr wr;obtain⟨pA0,pA1,pA2,pA3,pA4,-⟩:=(hnd.below (bT hB Bz)).ez;go_upto_region 4 with(fail)
       obtain⟨V1,hW,x0,hN⟩:=zAb wr #[.int .i64 t.at_,.bool t.x.s,.slice t.x.A t.x.l t.x.c,.bool t.x.s',.slice t.x.A' t.x.l' t.x.c'] 60;rw[←hW];clear hW;obtain⟨v0,hb0⟩:=ze wr.heap.size;rw[←hb0] at x0 ⊢;have ow_0:w.heap.size≤v0:=zi (zw hB Bz);replace hB:=bT (bT hB Bz) hN;have HX0:=zh x0;clear x0 hN Bz hb0;have Bz:=zr V1;clear pA0 pA1 pA2 pA3 pA4;have pa0:=(zx HX0 Bz).cell 0 (.int .i64 t.at_) rfl;have pB0:=(hpd.below (bT hB Bz)).c0 (u:=.int .i64 p.at_) rfl;go_wp2_with fail
       (try simp only[vAa,vBa,vC])
       refine zl (zz [0,1,2,3,4,5,6,7,8,9,10,11,12,13] .done) [] (zsa pa0 (zIa pB0)) ?_;iterate 14 (refine zUa ?_;try simp only[Act.put,uX,uY,uZ])
       refine wpPlan_done ?_;go_wp2_with fail
       go_ret
       have hF:=bT (c:=V1) hB Bz;exact⟨rfl,bT (bT hB Bz)⟩
      ·have g3:decide (t.at_≤p.at_)=false:=by simpa using c3
       have C3:=zh c3;clear c3;by_cases c4:sg=0
       ·have g4:(sg==0)=true:=by simpa using c4
        obtain rfl:r=false:=by rw[←hr.out];exact rightB_false (by rw[HLN.out];exact hlt) (by rw[A0.out];have:=HSG.out;rw[c4] at this;simp[Rat.num_eq_zero.1 (Int.sign_eq_zero_iff_zero.1 this)])
        clear c4;have Bz:=zr wr;obtain⟨pA0,pA1,pA2,pA3,pA4,-⟩:=(hnd.below (bT hB Bz)).ez;go_upto_region 4 with(fail)
        obtain⟨V1,hW,x0,hN⟩:=zAb wr #[.int .i64 t.at_,.bool t.x.s,.slice t.x.A t.x.l t.x.c,.bool t.x.s',.slice t.x.A' t.x.l' t.x.c'] 60;rw[←hW];clear hW;obtain⟨v0,hb0⟩:=ze wr.heap.size;rw[←hb0] at x0 ⊢;have ow_0:w.heap.size≤v0:=zi (zw hB Bz);replace hfx:=hfx.below hN;replace hB:=bT (bT hB Bz) hN;have HX0:=zh x0;clear x0 hN Bz hb0;have Bz:=zr V1;clear pA0 pA1 pA2 pA3 pA4;obtain⟨pa0,pa1,pa2,pa3,pa4,-⟩:=(zx HX0 Bz).cz;have pB0:=(hpd.below (bT hB Bz)).c0 (u:=.int .i64 p.at_) rfl;go_wp2_with fail
        (try simp only[vAa,vBa,vC])
        refine zl (zz [0,1,2,3,4,5,6,7,8,9,10,11,12,13] .done) [] (zsa pa0 (zIa pB0)) ?_;iterate 14 (refine zUa ?_;try simp only[Act.put,uX,uY,uZ])
        refine wpPlan_done ?_;go_wp2_with fail
        with_reducible refine(sign_q (R.below hfx) zo sg HSG).mono ?_
        rintro e w1 ⟨rfl,z⟩;replace z:=zq (a:=V1) z;replace Bz:=bT Bz z;clear z;clear pa0 pa1 pa2 pa3 pa4 pB0;go_wp2_with fail
        go_ret
        have hF:=bT (c:=w1) hB Bz;exact⟨rfl,bT (bT hB Bz)⟩
       ·have g4:(sg==0)=false:=by simpa using c4
        have nz:t.x.q≠0:=fun e=>c4 (by rw[←HSG.out,e];rfl);have NZ:=zh nz;clear c4 nz;cases ex
        ·obtain rfl:r=false:=by rw[←hr.out];exact rightB_false (by rw[HLN.out];exact hlt) (by rw[A0.out,HEX.out];simp)
         have Bz:=zr wr;obtain⟨pA0,pA1,pA2,pA3,pA4,-⟩:=(hnd.below (bT hB Bz)).ez;go_upto_region 4 with(fail)
         obtain⟨V1,hW,x0,hN⟩:=zAb wr #[.int .i64 t.at_,.bool t.x.s,.slice t.x.A t.x.l t.x.c,.bool t.x.s',.slice t.x.A' t.x.l' t.x.c'] 60;rw[←hW];clear hW;obtain⟨v0,hb0⟩:=ze wr.heap.size;rw[←hb0] at x0 ⊢;have ow_0:w.heap.size≤v0:=zi (zw hB Bz);replace hfr:=hfr.below hN;replace hfx:=hfx.below hN;replace hB:=bT (bT hB Bz) hN;have HX0:=zh x0;clear x0 hN Bz hb0;have Bz:=zr V1;clear pA0 pA1 pA2 pA3 pA4;obtain⟨pa0,pa1,pa2,pa3,pa4,-⟩:=(zx HX0 Bz).cz;have pB0:=(hpd.below (bT hB Bz)).c0 (u:=.int .i64 p.at_) rfl;go_wp2_with fail
         (try simp only[vAa,vBa,vC])
         refine zl (zz [0,1,2,3,4,5,6,7,8,9,10,11,12,13] .done) [] (zsa pa0 (zIa pB0)) ?_;iterate 14 (refine zUa ?_;try simp only[Act.put,uX,uY,uZ])
         refine wpPlan_done ?_;go_wp2_with fail
         with_reducible refine(sign_q (R.below hfx) zo sg HSG).mono ?_
         rintro e w1 ⟨rfl,z⟩;replace z:=zq (a:=V1) z;replace hfr:=hfr.below z;replace Bz:=bT Bz z;clear z;clear pa0 pa1 pa2 pa3 pa4 pB0;obtain⟨-,pa1,pa2,pa3,pa4,-⟩:=(zx HX0 Bz).cz;go_wp2_with fail
         with_reducible refine(exact_sp (FrOk.below hfr) zo false HEX (zt hT hB Bz)).mono ?_
         rintro e w2 ⟨rfl,z⟩;replace z:=zq (a:=w1) z;replace Bz:=bT Bz z;clear z;clear pa1 pa2 pa3 pa4;go_wp2_with fail
         go_ret
         have hF:=bT (c:=w2) hB Bz;exact⟨rfl,bT (bT hB Bz)⟩
        ·have HA:Hid (rightAt L n (j+1)=true):=zh (by rw[A0.out,HEX.out];have:=C3.out;simp[NZ.out];omega);have Bz:=zr wr;obtain⟨pA0,pA1,pA2,pA3,pA4,-⟩:=(hnd.below (bT hB Bz)).ez;go_upto_region 4 with(fail)
         obtain⟨V1,hW,x0,hN⟩:=zAb wr #[.int .i64 t.at_,.bool t.x.s,.slice t.x.A t.x.l t.x.c,.bool t.x.s',.slice t.x.A' t.x.l' t.x.c'] 60;rw[←hW];clear hW;obtain⟨v0,hb0⟩:=ze wr.heap.size;rw[←hb0] at x0 ⊢;have ow_0:w.heap.size≤v0:=zi (zw hB Bz);replace hfr:=hfr.below hN;replace hfx:=hfx.below hN;replace hB:=bT (bT hB Bz) hN;have HX0:=zh x0;clear x0 hN Bz hb0;have Bz:=zr V1;clear pA0 pA1 pA2 pA3 pA4;obtain⟨pa0,pa1,pa2,pa3,pa4,-⟩:=(zx HX0 Bz).cz;have pB0:=(hpd.below (bT hB Bz)).c0 (u:=.int .i64 p.at_) rfl;go_wp2_with fail
         (try simp only[vAa,vBa,vC])
         refine zl (zz [0,1,2,3,4,5,6,7,8,9,10,11,12,13] .done) [] (zsa pa0 (zIa pB0)) ?_;iterate 14 (refine zUa ?_;try simp only[Act.put,uX,uY,uZ])
         refine wpPlan_done ?_;go_wp2_with fail
         with_reducible refine(sign_q (R.below hfx) zo sg HSG).mono ?_
         rintro e w1 ⟨rfl,z⟩;replace z:=zq (a:=V1) z;replace hfr:=hfr.below z;replace Bz:=bT Bz z;clear z;clear pa0 pa1 pa2 pa3 pa4 pB0;obtain⟨-,pa1,pa2,pa3,pa4,-⟩:=(zx HX0 Bz).cz;go_wp2_with fail
         with_reducible refine(exact_sp (FrOk.below hfr) zo true HEX (zt hT hB Bz)).mono ?_
         rintro e w2 ⟨rfl,z⟩;replace z:=zq (a:=w1) z;replace Bz:=bT Bz z;clear z;clear pa1 pa2 pa3 pa4;go_wp2_with fail
         go_roundg (len-(j+1+1))
         case measure=>have:=HGK.out;omega
         case rel=>exact⟨j+1+1,zo,rfl,by go_num,bT (bT hB Bz),fun k hk=>by
          rcases eB k (j+1) with h1 | h1
          ·exact HD.out k h1
          ·obtain rfl:k=j+1:=zo;exact HA.out⟩
  ·obtain rfl:i=len:=zo;have i1:¬(i:Int)<(i:Int):=zo;obtain rfl:r=true:=by rw[←hr.out];exact rightB_true (by rw[HLN.out];exact HD.out)
   go_wp2_with fail
   go_ret
   exact⟨rfl,hB⟩
def AL1 {α:Type} (w:World) (L:List α) (p:α→Bool) (n gk:Nat) (s:Value) (wr:World):Prop:=∃i:Nat,i≤n∧n-i=gk∧s=.int .i64 (i:Int)∧Below w.heap.size w wr∧(L.take i).all p=true
structure Vc where
 A:Option Addr
 n:Nat
 c:Nat
 L:List Tm
def Vc.cs (v:Vc):List Value:=[.slice v.A v.n v.c]
theorem Vc.cs_len (v:Vc):v.cs.length=1:=rfl
theorem plain1_q {w:World} (z:Int) (t:Bool) (ht:Hid (decide (z=0)=t)):Calls Tryz.prog 122 #[.int .i64 z] w fun e w'=>e=.returned (.bool t)∧Below w.heap.size w w':=by
 have g1:(z==0)=t:=by rw[←ht.out];rfl
 clear ht;go_enter Tryz.func122,Tryz.ntmps122
 go_wp2_with fail
 go_ret
 exact⟨rfl,by go_grown⟩
theorem conv1_q {w:World} (z:Int) (t:Bool) (ht:Hid ((decide (1≤z)&&decide (z≤256))=t)):Calls Tryz.prog 120 #[.int .i64 z] w fun e w'=>e=.returned (.bool t)∧Below w.heap.size w w':=by
 cases h1:decide (1≤z)
 ·obtain rfl:t=false:=by rw[←ht.out,h1];rfl
  clear ht;go_enter Tryz.func120,Tryz.ntmps120
  go_wp2_with fail
  go_ret
  exact⟨rfl,by go_grown⟩
 ·have g1:decide (z≤256)=t:=by rw[←ht.out,h1];rfl
  clear ht;go_enter Tryz.func120,Tryz.ntmps120
  go_wp2_with fail
  go_ret
  exact⟨rfl,by go_grown⟩
theorem affine2_q {w:World} {m:Nat} {x:Fr} (h:FrOk w m x) (hm:m≤40000) (t:Bool) (ht:Hid (x.ex=t)) (hT:Hid (Tab w)):Calls Tryz.prog 117 #[.agg #[.bool x.s,.slice x.A x.l x.c,.bool x.s',.slice x.A' x.l' x.c']] w fun e w'=>e=.returned (.bool t)∧Below w.heap.size w w':=by
 obtain⟨W,hW,x0,hB⟩:=zAb w #[.bool x.s,.slice x.A x.l x.c,.bool x.s',.slice x.A' x.l' x.c'] 47;replace h:=h.below hB;have HX0:=zh x0;clear x0;have Bz:=zr W;obtain⟨pa0,pa1,pa2,pa3,-⟩:=(zx HX0 Bz).cz;go_enter Tryz.func117,Tryz.ntmps117
 go_wp2_with fail
 rw[←hW];clear hW;go_wp2_with fail
 with_reducible refine(exact_sh (FrOk.below h) zo t ht (zt hT hB Bz)).mono ?_
 rintro e w1 ⟨rfl,q⟩;replace q:=zq (a:=W) q;replace Bz:=bT Bz q;clear q;clear pa0 pa1 pa2 pa3;go_wp2_with fail
 go_ret
 have hF:=bT (c:=w1) hB Bz;exact⟨rfl,bT hF⟩
theorem conv2_q {w:World} {m:Nat} {x:Fr} (h:FrOk w m x) (hm:m≤40000) (t:Bool) (ht:Hid (x.ex=t)) (hT:Hid (Tab w)):Calls Tryz.prog 121 #[.agg #[.bool x.s,.slice x.A x.l x.c,.bool x.s',.slice x.A' x.l' x.c']] w fun e w'=>e=.returned (.bool t)∧Below w.heap.size w w':=by
 obtain⟨W,hW,x0,hB⟩:=zAb w #[.bool x.s,.slice x.A x.l x.c,.bool x.s',.slice x.A' x.l' x.c'] 47;replace h:=h.below hB;have HX0:=zh x0;clear x0;have Bz:=zr W;obtain⟨pa0,pa1,pa2,pa3,-⟩:=(zx HX0 Bz).cz;go_enter Tryz.func121,Tryz.ntmps121
 go_wp2_with fail
 rw[←hW];clear hW;go_wp2_with fail
 with_reducible refine(exact_sh (FrOk.below h) zo t ht (zt hT hB Bz)).mono ?_
 rintro e w1 ⟨rfl,q⟩;replace q:=zq (a:=W) q;replace Bz:=bT Bz q;clear q;clear pa0 pa1 pa2 pa3;go_wp2_with fail
 go_ret
 have hF:=bT (c:=w1) hB Bz;exact⟨rfl,bT hF⟩
theorem all_plain {w:World} {A:Option Addr} {n c:Nat} {L:List Int} (h:Sl ics 1 w A n c L) (hn:n≤1000000000) (r:Bool) (hr:Hid (L.all (fun z=>decide (z=0))=r)) :
  Calls Tryz.prog 119 #[.slice A n c,.func (.func 122) #[] #[]] w fun e w'=>e=.returned (.bool r)∧Below w.heap.size w w':=by
 have H:=zh h;have HLN:=zh h.1;have hst:AL1 w L (fun z=>decide (z=0)) n n (.int .i64 ((0:Nat):Int)) w:=⟨0,uA _,rfl,rfl,Below.refl _ _,by simp⟩;have HST:=zh hst;clear h hst;go_enter Tryz.func119,Tryz.ntmps119
 go_wp2_with fail
 go_loopg [9] n (fun gk s wr=>AL1 w L (fun z=>decide (z=0)) n gk s wr)
 case atStart=>exact HST.out
 case round =>
  clear HST;obtain⟨i,hi,hgk,rfl,hB,hd⟩:=hrel;have HGK:=zh hgk;have HD:=zh hd;clear hgk hd;by_cases hlt:i<n
  ·obtain⟨b,off,rfl,hel⟩:=H.out.at ics_len zo zo;obtain⟨x,hx⟩:∃x,L[i]?=some x:=⟨L[i]'(by rw[HLN.out];exact hlt),cA _⟩;have hnd:ElA w b (off+i) (ics x):=by have:=hel i x hx;rwa [kC] at this
   have HTI:=zh hx;have i1:(i:Int)<(n:Int):=zo;have i2:(0:Int)≤(i:Int):=zo;clear hx hel;cases hp:(fun z=>decide (z=0)) x
   ·have HP:=zh hp;clear hp;have Bz:=zr wr;have pA0:=(hnd.below (bT hB Bz)).c0 (u:=.int .i64 x) rfl;go_wp2_with fail
    with_reducible refine(plain1_q x false HP).mono ?_
    rintro e w1 ⟨rfl,q⟩;replace q:=zq (a:=wr) q;replace Bz:=bT Bz q;clear q;clear pA0;go_wp2_with fail
    go_ret
    have hF:=bT (c:=w1) hB Bz;obtain rfl:r=false:=by rw[←hr.out];exact all_no HTI.out HP.out
    exact⟨rfl,bT (bT hB Bz)⟩
   ·have HP:=zh hp;clear hp;have Bz:=zr wr;have pA0:=(hnd.below (bT hB Bz)).c0 (u:=.int .i64 x) rfl;go_wp2_with fail
    with_reducible refine(plain1_q x true HP).mono ?_
    rintro e w1 ⟨rfl,q⟩;replace q:=zq (a:=wr) q;replace Bz:=bT Bz q;clear q;clear pA0;go_wp2_with fail
    go_roundg (n-(i+1))
    case measure=>have:=HGK.out;omega
    case rel=>exact⟨i+1,zo,rfl,by go_num,bT (bT hB Bz),take_all HD.out HTI.out HP.out⟩
  ·obtain rfl:i=n:=zo;have i1:¬(i:Int)<(i:Int):=zo;obtain rfl:r=true:=by rw[←hr.out];exact all_yes HLN.out HD.out
   go_wp2_with fail
   go_ret
   exact⟨rfl,hB⟩
theorem all_conv {w:World} {A:Option Addr} {n c:Nat} {L:List Int} (h:Sl ics 1 w A n c L) (hn:n≤1000000000) (r:Bool) (hr:Hid (L.all (fun z=>decide (1≤z)&&decide (z≤256))=r)) :
  Calls Tryz.prog 119 #[.slice A n c,.func (.func 120) #[] #[]] w fun e w'=>e=.returned (.bool r)∧Below w.heap.size w w':=by
 have H:=zh h;have HLN:=zh h.1;have hst:AL1 w L (fun z=>decide (1≤z)&&decide (z≤256)) n n (.int .i64 ((0:Nat):Int)) w:=⟨0,uA _,rfl,rfl,Below.refl _ _,by simp⟩;have HST:=zh hst;clear h hst;go_enter Tryz.func119,Tryz.ntmps119
 go_wp2_with fail
 go_loopg [9] n (fun gk s wr=>AL1 w L (fun z=>decide (1≤z)&&decide (z≤256)) n gk s wr)
 case atStart=>exact HST.out
 case round =>
  clear HST;obtain⟨i,hi,hgk,rfl,hB,hd⟩:=hrel;have HGK:=zh hgk;have HD:=zh hd;clear hgk hd;by_cases hlt:i<n
  ·obtain⟨b,off,rfl,hel⟩:=H.out.at ics_len zo zo;obtain⟨x,hx⟩:∃x,L[i]?=some x:=⟨L[i]'(by rw[HLN.out];exact hlt),cA _⟩;have hnd:ElA w b (off+i) (ics x):=by have:=hel i x hx;rwa [kC] at this
   have HTI:=zh hx;have i1:(i:Int)<(n:Int):=zo;have i2:(0:Int)≤(i:Int):=zo;clear hx hel;cases hp:(fun z=>decide (1≤z)&&decide (z≤256)) x
   ·have HP:=zh hp;clear hp;have Bz:=zr wr;have pA0:=(hnd.below (bT hB Bz)).c0 (u:=.int .i64 x) rfl;go_wp2_with fail
    with_reducible refine(conv1_q x false HP).mono ?_
    rintro e w1 ⟨rfl,q⟩;replace q:=zq (a:=wr) q;replace Bz:=bT Bz q;clear q;clear pA0;go_wp2_with fail
    go_ret
    have hF:=bT (c:=w1) hB Bz;obtain rfl:r=false:=by rw[←hr.out];exact all_no HTI.out HP.out
    exact⟨rfl,bT (bT hB Bz)⟩
   ·have HP:=zh hp;clear hp;have Bz:=zr wr;have pA0:=(hnd.below (bT hB Bz)).c0 (u:=.int .i64 x) rfl;go_wp2_with fail
    with_reducible refine(conv1_q x true HP).mono ?_
    rintro e w1 ⟨rfl,q⟩;replace q:=zq (a:=wr) q;replace Bz:=bT Bz q;clear q;clear pA0;go_wp2_with fail
    go_roundg (n-(i+1))
    case measure=>have:=HGK.out;omega
    case rel=>exact⟨i+1,zo,rfl,by go_num,bT (bT hB Bz),take_all HD.out HTI.out HP.out⟩
  ·obtain rfl:i=n:=zo;have i1:¬(i:Int)<(i:Int):=zo;obtain rfl:r=true:=by rw[←hr.out];exact all_yes HLN.out HD.out
   go_wp2_with fail
   go_ret
   exact⟨rfl,hB⟩
theorem all_affine2 {w:World} {A:Option Addr} {n c m:Nat} {L:List Fr} (h:Sl Fr.cs 4 w A n c L) (hok:Hid (∀x∈L,FrOk w m x)) (hm:m≤40000) (hT:Hid (Tab w)) (hn:n≤1000000000) (r:Bool) (hr:Hid (L.all (fun x=>x.ex)=r)) :
  Calls Tryz.prog 116 #[.slice A n c,.func (.func 117) #[] #[]] w fun e w'=>e=.returned (.bool r)∧Below w.heap.size w w':=by
 have H:=zh h;have HLN:=zh h.1;have hst:AL1 w L (fun x=>x.ex) n n (.int .i64 ((0:Nat):Int)) w:=⟨0,uA _,rfl,rfl,Below.refl _ _,by simp⟩;have HST:=zh hst;clear h hst;go_enter Tryz.func116,Tryz.ntmps116
 go_wp2_with fail
 go_loopg [9] n (fun gk s wr=>AL1 w L (fun x=>x.ex) n gk s wr)
 case atStart=>exact HST.out
 case round =>
  clear HST;obtain⟨i,hi,hgk,rfl,hB,hd⟩:=hrel;have HGK:=zh hgk;have HD:=zh hd;clear hgk hd;by_cases hlt:i<n
  ·obtain⟨b,off,rfl,hel⟩:=H.out.at Fr.cs_len zo zo;obtain⟨x,hx⟩:∃x,L[i]?=some x:=⟨L[i]'(by rw[HLN.out];exact hlt),cA _⟩;have hnd:=hel i x hx;have HTI:=zh hx;have hfr:=(hok.out x (eA hx)).below hB;have i1:(i:Int)<(n:Int):=zo;have i2:(0:Int)≤(i:Int):=zo;clear hx hel;cases hp:(fun x=>x.ex) x
   ·have HP:=zh hp;clear hp;have Bz:=zr wr;obtain⟨pA0,pA1,pA2,pA3,-⟩:=(hnd.below (bT hB Bz)).ez;go_upto_region 4 with(fail)
    obtain⟨V1,hW,x0,hN⟩:=zAb wr #[.bool x.s,.slice x.A x.l x.c,.bool x.s',.slice x.A' x.l' x.c'] 47;rw[←hW];clear hW;obtain⟨v0,hb0⟩:=ze wr.heap.size;rw[←hb0] at x0 ⊢;have ow_0:w.heap.size≤v0:=zi (zw hB Bz);replace hfr:=hfr.below hN;replace hB:=bT (bT hB Bz) hN;have HX0:=zh x0;clear x0 hN Bz hb0;have Bz:=zr V1;clear pA0 pA1 pA2 pA3;obtain⟨pa0,pa1,pa2,pa3,-⟩:=(zx HX0 Bz).cz;go_wp2_with fail
    with_reducible refine(affine2_q (FrOk.below hfr) zo false HP (zt hT hB Bz)).mono ?_
    rintro e w1 ⟨rfl,q⟩;replace q:=zq (a:=V1) q;replace Bz:=bT Bz q;clear q;clear pa0 pa1 pa2 pa3;go_wp2_with fail
    go_ret
    have hF:=bT (c:=w1) hB Bz;obtain rfl:r=false:=by rw[←hr.out];exact all_no HTI.out HP.out
    exact⟨rfl,bT (bT hB Bz)⟩
   ·have HP:=zh hp;clear hp;have Bz:=zr wr;obtain⟨pA0,pA1,pA2,pA3,-⟩:=(hnd.below (bT hB Bz)).ez;go_upto_region 4 with(fail)
    obtain⟨V1,hW,x0,hN⟩:=zAb wr #[.bool x.s,.slice x.A x.l x.c,.bool x.s',.slice x.A' x.l' x.c'] 47;rw[←hW];clear hW;obtain⟨v0,hb0⟩:=ze wr.heap.size;rw[←hb0] at x0 ⊢;have ow_0:w.heap.size≤v0:=zi (zw hB Bz);replace hfr:=hfr.below hN;replace hB:=bT (bT hB Bz) hN;have HX0:=zh x0;clear x0 hN Bz hb0;have Bz:=zr V1;clear pA0 pA1 pA2 pA3;obtain⟨pa0,pa1,pa2,pa3,-⟩:=(zx HX0 Bz).cz;go_wp2_with fail
    with_reducible refine(affine2_q (FrOk.below hfr) zo true HP (zt hT hB Bz)).mono ?_
    rintro e w1 ⟨rfl,q⟩;replace q:=zq (a:=V1) q;replace Bz:=bT Bz q;clear q;clear pa0 pa1 pa2 pa3;go_wp2_with fail
    go_roundg (n-(i+1))
    case measure=>have:=HGK.out;omega
    case rel=>exact⟨i+1,zo,rfl,by go_num,bT (bT hB Bz),take_all HD.out HTI.out HP.out⟩
  ·obtain rfl:i=n:=zo;have i1:¬(i:Int)<(i:Int):=zo;obtain rfl:r=true:=by rw[←hr.out];exact all_yes HLN.out HD.out
   go_wp2_with fail
   go_ret
   exact⟨rfl,hB⟩
theorem all_conv2 {w:World} {A:Option Addr} {n c m:Nat} {L:List Fr} (h:Sl Fr.cs 4 w A n c L) (hok:Hid (∀x∈L,FrOk w m x)) (hm:m≤40000) (hT:Hid (Tab w)) (hn:n≤1000000000) (r:Bool) (hr:Hid (L.all (fun x=>x.ex)=r)) :
  Calls Tryz.prog 116 #[.slice A n c,.func (.func 121) #[] #[]] w fun e w'=>e=.returned (.bool r)∧Below w.heap.size w w':=by
 have H:=zh h;have HLN:=zh h.1;have hst:AL1 w L (fun x=>x.ex) n n (.int .i64 ((0:Nat):Int)) w:=⟨0,uA _,rfl,rfl,Below.refl _ _,by simp⟩;have HST:=zh hst;clear h hst;go_enter Tryz.func116,Tryz.ntmps116
 go_wp2_with fail
 go_loopg [9] n (fun gk s wr=>AL1 w L (fun x=>x.ex) n gk s wr)
 case atStart=>exact HST.out
 case round =>
  clear HST;obtain⟨i,hi,hgk,rfl,hB,hd⟩:=hrel;have HGK:=zh hgk;have HD:=zh hd;clear hgk hd;by_cases hlt:i<n
  ·obtain⟨b,off,rfl,hel⟩:=H.out.at Fr.cs_len zo zo;obtain⟨x,hx⟩:∃x,L[i]?=some x:=⟨L[i]'(by rw[HLN.out];exact hlt),cA _⟩;have hnd:=hel i x hx;have HTI:=zh hx;have hfr:=(hok.out x (eA hx)).below hB;have i1:(i:Int)<(n:Int):=zo;have i2:(0:Int)≤(i:Int):=zo;clear hx hel;cases hp:(fun x=>x.ex) x
   ·have HP:=zh hp;clear hp;have Bz:=zr wr;obtain⟨pA0,pA1,pA2,pA3,-⟩:=(hnd.below (bT hB Bz)).ez;go_upto_region 4 with(fail)
    obtain⟨V1,hW,x0,hN⟩:=zAb wr #[.bool x.s,.slice x.A x.l x.c,.bool x.s',.slice x.A' x.l' x.c'] 47;rw[←hW];clear hW;obtain⟨v0,hb0⟩:=ze wr.heap.size;rw[←hb0] at x0 ⊢;have ow_0:w.heap.size≤v0:=zi (zw hB Bz);replace hfr:=hfr.below hN;replace hB:=bT (bT hB Bz) hN;have HX0:=zh x0;clear x0 hN Bz hb0;have Bz:=zr V1;clear pA0 pA1 pA2 pA3;obtain⟨pa0,pa1,pa2,pa3,-⟩:=(zx HX0 Bz).cz;go_wp2_with fail
    with_reducible refine(conv2_q (FrOk.below hfr) zo false HP (zt hT hB Bz)).mono ?_
    rintro e w1 ⟨rfl,q⟩;replace q:=zq (a:=V1) q;replace Bz:=bT Bz q;clear q;clear pa0 pa1 pa2 pa3;go_wp2_with fail
    go_ret
    have hF:=bT (c:=w1) hB Bz;obtain rfl:r=false:=by rw[←hr.out];exact all_no HTI.out HP.out
    exact⟨rfl,bT (bT hB Bz)⟩
   ·have HP:=zh hp;clear hp;have Bz:=zr wr;obtain⟨pA0,pA1,pA2,pA3,-⟩:=(hnd.below (bT hB Bz)).ez;go_upto_region 4 with(fail)
    obtain⟨V1,hW,x0,hN⟩:=zAb wr #[.bool x.s,.slice x.A x.l x.c,.bool x.s',.slice x.A' x.l' x.c'] 47;rw[←hW];clear hW;obtain⟨v0,hb0⟩:=ze wr.heap.size;rw[←hb0] at x0 ⊢;have ow_0:w.heap.size≤v0:=zi (zw hB Bz);replace hfr:=hfr.below hN;replace hB:=bT (bT hB Bz) hN;have HX0:=zh x0;clear x0 hN Bz hb0;have Bz:=zr V1;clear pA0 pA1 pA2 pA3;obtain⟨pa0,pa1,pa2,pa3,-⟩:=(zx HX0 Bz).cz;go_wp2_with fail
    with_reducible refine(conv2_q (FrOk.below hfr) zo true HP (zt hT hB Bz)).mono ?_
    rintro e w1 ⟨rfl,q⟩;replace q:=zq (a:=V1) q;replace Bz:=bT Bz q;clear q;clear pa0 pa1 pa2 pa3;go_wp2_with fail
    go_roundg (n-(i+1))
    case measure=>have:=HGK.out;omega
    case rel=>exact⟨i+1,zo,rfl,by go_num,bT (bT hB Bz),take_all HD.out HTI.out HP.out⟩
  ·obtain rfl:i=n:=zo;have i1:¬(i:Int)<(i:Int):=zo;obtain rfl:r=true:=by rw[←hr.out];exact all_yes HLN.out HD.out
   go_wp2_with fail
   go_ret
   exact⟨rfl,hB⟩
def Ch (w w':World) (b:Nat):Prop:=w.grownBy w' (some b)∧K64 w w'
theorem Ch.refl (w:World) (b:Nat):Ch w w b:=⟨⟨rfl,rfl,rfl,aA _,fun _ _ _=>rfl⟩,K64.refl w⟩
theorem Ch.trans {a b c:World} {x:Nat} (h:Ch a b x) (k:Ch b c x):Ch a c x:=⟨grown_trans h.1 k.1,h.2.trans k.2⟩
theorem Ch.of_below {w w':World} {b:Nat} (h:Below w.heap.size w w'):Ch w w' b:=⟨grown_below h _,K64.below h⟩
theorem Ch.bx {w w':World} {b x:Nat} {cs:Array Value} {t:TypeId} (h:Ch w w' b) (hx:Bx w x cs t) (hne:x≠b):Bx w' x cs t:=(h.1.block x hx.lt (by simpa using hne)).trans hx
theorem Ch.below {w w':World} {b B:Nat} (h:Ch w w' b) (hb:B≤b) (hB:B≤w.heap.size):Below B w w':=⟨h.1.os,h.1.tape,h.1.output,h.1.size,fun i hi=>h.1.block i (gC hi hB) (by simp;omega)⟩
theorem Ch.set {w:World} {b i:Nat} {cs:Array Value} {t:TypeId} {u:Value} (h:Bx w b cs t) (hi:cs[i]?=some u) (hu:∀n,u≠.int .u64 n) (v:Value):Ch w (w.setCell ⟨b,i,none⟩ v) b:=⟨grown_set ⟨rfl,rfl,rfl,aA _,fun _ _ _=>rfl⟩ (.inl rfl) _,K64.box h hi hu v⟩
theorem Ch.fresh {a b c:World} {x y:Nat} (h:Ch a b x) (k:Ch b c y) (hy:a.heap.size≤y):Ch a c x :=
 ⟨⟨k.1.os.trans h.1.os,k.1.tape.trans h.1.tape,k.1.output.trans h.1.output,wA h.1.size k.1.size,fun i hi hn=>(k.1.block i (gC hi h.1.size) (by simp;omega)).trans (h.1.block i hi hn)⟩,h.2.trans k.2⟩
def VcOk (w:World) (m:Nat) (v:Vc):Prop:=Sl Tm.cs 5 w v.A v.n v.c v.L∧(∀t∈v.L,FrOk w m t.x)∧v.n≤1000000
theorem VcOk.below {w w':World} {m:Nat} {v:Vc} (h:VcOk w m v) (hb:Below w.heap.size w w':=by go_grown):VcOk w' m v:=⟨h.1.below hb,fun t ht=>(h.2.1 t ht).below hb,h.2.2⟩
theorem VcOk.sl {w:World} {m:Nat} {v:Vc} (h:VcOk w m v):Sl Tm.cs 5 w v.A v.n v.c v.L:=h.1
theorem VcOk.fr {w:World} {m:Nat} {v:Vc} (h:VcOk w m v):∀t∈v.L,FrOk w m t.x:=h.2.1
def lens (L:List Vc):Nat:=(L.map (·.n)).sum
theorem affine1_q {w0 w:World} {m bt bn:Nat} {v:Vc} {T n:Int} (hB:Below w0.heap.size w0 w) (h:VcOk w0 m v) (hm:m≤20000) (hbt:w0.heap.size≤bt) (xt:Bx w bt #[.int .i64 T] 3) (xn:Bx w bn #[.int .i64 n] 3) (hne:bn≠bt) (hT0:0≤T) (hT1:T≤1000000000000) (r:Bool) (hr:Hid (rightB v.L n=r)) (hT:Hid (Tab w0)) :
  Calls Tryz.prog 113 #[.slice v.A v.n v.c,.pointer (some ⟨bt,0,none⟩),.pointer (some ⟨bn,0,none⟩)] w fun e w'=>e=.returned (.bool r)∧Bx w' bt #[.int .i64 (T+(v.n:Int))] 3∧Ch w w' bt:=by
 have hn:=h.2.2;have HV:=zh h;have XT:=zh xt;have XN:=zh xn;have c0:=xt.cell 0 (.int .i64 T) rfl;have f0:=xt.frozen 0;have y0:=xt.lt;have c1:=xn.cell 0 (.int .i64 n) rfl;have u1:IntKind.i64.wrap (T+(v.n:Int))=T+(v.n:Int):=IntWalk.i64_in _ zo;have hB2:Below w0.heap.size w0 (w.setCell ⟨bt,0,none⟩ (.int .i64 (T+(v.n:Int)))):=hB.setCell hbt _;obtain⟨V,hV⟩:∃V,V=w.setCell ⟨bt,0,none⟩ (.int .i64 (T+(v.n:Int))):=⟨_,rfl⟩;rw[←hV] at hB2;have c2:V.cell? ⟨bn,0,none⟩=some (.int .i64 n):=by rw[hV];exact(xn.far hne _).cell 0 _ rfl
 clear h xt xn;go_enter Tryz.func113,Tryz.ntmps113
 go_upto_region 2 with(fail)
 rw[←hV];have HVV:=zh hV;clear hV;go_wp2_with fail
 with_reducible refine(right_q (HV.out.below hB2).sl (HV.out.below hB2).fr zo zo r hr (zh (Tab.below hT.out hB2))).mono ?_
 rintro e w1 ⟨rfl,b1⟩;go_wp2_with fail
 go_ret
 have hc:Ch w V bt:=by rw[HVV.out];exact Ch.set XT.out (i:=0) rfl nofun _
 exact⟨rfl,Bx.below (by rw[HVV.out];exact XT.out.set 0 _) b1,hc.trans (Ch.of_below b1)⟩
theorem lens_take {L:List Vc} {i:Nat} {v:Vc} (h:L[i]?=some v):lens (L.take (i+1))=lens (L.take i)+v.n:=by
 unfold lens;rw[aF,cF,List.sum_append,h];simp
theorem lens_le {L:List Vc} {K:Nat} (h:∀v∈L,v.n≤K) (i:Nat):lens (L.take i)≤i*K:=by
 induction i with
 | zero=>simp[lens]
 | succ i ih =>
  rcases eB i L.length with hi | hi
  ·rw[lens_take (cA hi)];have:=h _ (cG hi);rw[xB];omega
  ·rw[fA zo] at ih ⊢;rw[xB];omega
def AV (w0 w:World) (bt bn:Nat) (T n:Int) (L:List Vc) (len gk:Nat) (s:Value) (wr:World):Prop :=
 ∃i:Nat,i≤len∧len-i=gk∧s=.int .i64 (i:Int)∧Below w0.heap.size w0 wr∧Ch w wr bt∧Bx wr bt #[.int .i64 (T+(lens (L.take i):Int))] 3∧Bx wr bn #[.int .i64 n] 3∧(L.take i).all (fun v=>rightB v.L n)=true
def TellsAllV (w:World) (bt:Nat) (T:Int) (L:List Vc) (r:Bool) (e:Ending) (w':World):Prop:=e=.returned (.bool r)∧(r=true→Bx w' bt #[.int .i64 (T+(lens L:Int))] 3)∧Ch w w' bt
theorem all_vec {w0 w:World} {A:Option Addr} {len c m bt bn:Nat} {L:List Vc} {T n:Int} (hB:Below w0.heap.size w0 w) (h:Sl Vc.cs 1 w0 A len c L) (hok:∀v∈L,VcOk w0 m v) (hm:m≤20000) (hlen:len≤100000) (hbt:w0.heap.size≤bt) (xt:Bx w bt #[.int .i64 T] 3) (xn:Bx w bn #[.int .i64 n] 3) (hne:bn≠bt) (hT0:0≤T) (hT1:T≤1000000) (r:Bool) (hr:Hid (L.all (fun v=>rightB v.L n)=r)) (hT:Hid (Tab w0)) :
  Calls Tryz.prog 115 #[.slice A len c,.func (.func 113) #[] #[.pointer (some ⟨bt,0,none⟩),.pointer (some ⟨bn,0,none⟩)]] w (TellsAllV w bt T L r):=by
 have H:=zh h;have HLN:=zh h.1;have HOK:=zh hok;have hll:=zh (lens_le (K:=1000000) (fun v hv=>(hok v hv).2.2));have hst:AV w0 w bt bn T n L len len (.int .i64 ((0:Nat):Int)) w:=⟨0,uA _,rfl,rfl,hB,Ch.refl _ _,by simpa [lens] using xt,xn,by simp⟩;have HST:=zh hst;clear h hok hst xt xn hB;go_enter Tryz.func115,Tryz.ntmps115
 go_wp2_with fail
 go_loopg [9] len (fun gk s wr=>AV w0 w bt bn T n L len gk s wr)
 case atStart=>exact HST.out
 case round =>
  clear HST;obtain⟨i,hi,hgk,rfl,hB,hc,xt,xn,hd⟩:=hrel;have HGK:=zh hgk;have HD:=zh hd;have XT:=zh xt;have XN:=zh xn;have HC:=zh hc;clear hgk hd xt xn hc;by_cases hlt:i<len
  ·obtain⟨b,off,rfl,hel⟩:=H.out.at Vc.cs_len zo zo;obtain⟨v,hv⟩:∃v,L[i]?=some v:=⟨L[i]'(by rw[HLN.out];exact hlt),cA _⟩;have hnd:ElA w0 b (off+i) v.cs:=by have:=hel i v hv;rwa [kC] at this
   have HTI:=zh hv;have HVO:=zh (HOK.out v (eA hv));have p0:=(hnd.below hB).c0 (u:=.slice v.A v.n v.c) rfl;have i1:(i:Int)<(len:Int):=zo;have i2:(0:Int)≤(i:Int):=zo;have hlb:=hll.out i;have hvn:=HVO.out.2.2;clear hv hel hnd;obtain⟨rv,HRV⟩:∃rv,Hid (rightB v.L n=rv):=⟨_,zh rfl⟩;go_wp2_with fail
   with_reducible refine(affine1_q hB HVO.out hm hbt XT.out XN.out hne zo zo rv HRV hT).mono ?_
   rintro e w2 ⟨rfl,x2,ch⟩;have hB2:Below w0.heap.size w0 w2:=hB.trans (ch.below hbt hB.size);replace XN:=zh (ch.bx XN.out hne);replace HC:=zh (HC.out.trans ch);have X2:=zh x2;clear p0 x2 ch;cases rv
   ·obtain rfl:r=false:=by rw[←hr.out];exact all_no HTI.out HRV.out
    go_wp2_with fail
    go_ret
    exact⟨rfl,(fun h=>by cases h),HC.out⟩
   ·go_wp2_with fail
    go_roundg (len-(i+1))
    case measure=>have:=HGK.out;omega
    case rel=>exact⟨i+1,zo,rfl,by go_num,hB2,HC.out,by rw[lens_take HTI.out,Int.natCast_add,←Int.add_assoc];exact X2.out,XN.out,take_all HD.out HTI.out HRV.out⟩
  ·obtain rfl:i=len:=zo;have i1:¬(i:Int)<(i:Int):=zo;obtain rfl:r=true:=by rw[←hr.out];exact all_yes HLN.out HD.out
   go_wp2_with fail
   go_ret
   exact⟨rfl,fun _=>by have:=XT.out;rwa [fA (by rw[HLN.out];exact aA _)] at this,HC.out⟩
def risesB (n:Int):Int→List Int→Bool
 | _,[]=>true
 | a,x :: xs=>(decide (a<x)&&decide (x<n))&&risesB n x xs
def lastOf (a:Int) (L:List Int):Int:=L.getLast?.getD a
theorem lastOf_snoc (a:Int) (L:List Int) (x:Int):lastOf a (L++[x])=x:=by simp[lastOf]
theorem risesB_snoc (n:Int) (xs:List Int):∀(a y:Int),risesB n a (xs++[y])=(risesB n a xs&&(decide (lastOf a xs<y)&&decide (y<n))):=by
 induction xs with
 | nil =>
  intro a y;show((decide (a<y)&&decide (y<n))&&true)=(true&&(decide (a<y)&&decide (y<n)))
  rw[Bool.and_true,Bool.true_and]
 | cons x xs ih =>
  intro a y;show((decide (a<x)&&decide (x<n))&&risesB n x (xs++[y]))=(((decide (a<x)&&decide (x<n))&&risesB n x xs)&&_)
  rw[ih x y,Bool.and_assoc (decide (a<x)&&decide (x<n))];have:lastOf a (x :: xs)=lastOf x xs:=by
   unfold lastOf
   cases xs with
   | nil=>rfl
   | cons z zs=>rw[List.getLast?_cons_cons];cases h:(z :: zs).getLast? with
    | none=>simp at h
    | some u=>rfl
  rw[this]
theorem risesB_front (n:Int) (xs:List Int):∀(a:Int) (ys:List Int),risesB n a xs=false→risesB n a (xs++ys)=false:=by
 induction xs with
 | nil=>intro a ys h;simp[risesB] at h
 | cons x xs ih =>
  intro a ys h;show((decide (a<x)&&decide (x<n))&&risesB n x (xs++ys))=false
  replace h:((decide (a<x)&&decide (x<n))&&risesB n x xs)=false:=h;rw[Bool.and_eq_false_iff] at h ⊢;rcases h with h | h
  ·exact .inl h
  ·exact .inr (ih x ys h)
theorem risesB_no {n a:Int} {L:List Int} {i:Nat} (h:risesB n a (L.take i)=false):risesB n a L=false:=by
 have:=risesB_front n _ a (L.drop i) h;rwa [mD] at this
def Tells11 (w:World) (bl:Nat) (x:Int) (r:Bool) (e:Ending) (w':World):Prop:=e=.returned (.bool r)∧Bx w' bl #[.int .i64 x] 3∧Ch w w' bl
theorem pool11_q {w:World} {bl bn:Nat} {a x n:Int} (xl:Bx w bl #[.int .i64 a] 3) (xn:Bx w bn #[.int .i64 n] 3) (r:Bool) (hr:Hid ((decide (a<x)&&decide (x<n))=r)) :
  Calls Tryz.prog 124 #[.int .i64 x,.pointer (some ⟨bl,0,none⟩),.pointer (some ⟨bn,0,none⟩)] w (Tells11 w bl x r):=by
 have HF:Hid (Tells11 w bl x r (.returned (.bool r)) (w.setCell ⟨bl,0,none⟩ (.int .i64 x))):=zh ⟨rfl,xl.set 0 _,Ch.set xl (i:=0) rfl nofun _⟩;have c0:=xl.cell 0 (.int .i64 a) rfl;have f0:=xl.frozen 0;have y0:=xl.lt;have c1:=xn.cell 0 (.int .i64 n) rfl;clear xl xn;cases h1:decide (a<x)
 ·obtain rfl:r=false:=by rw[←hr.out,h1];rfl
  clear hr;go_enter Tryz.func124,Tryz.ntmps124
  go_wp2_with fail
  go_ret
  exact HF.out
 ·have g1:decide (x<n)=r:=by rw[←hr.out,h1];rfl
  clear hr;go_enter Tryz.func124,Tryz.ntmps124
  go_wp2_with fail
  go_ret
  exact HF.out
def AI (w0 w:World) (bl bn:Nat) (a n:Int) (L:List Int) (len gk:Nat) (s:Value) (wr:World):Prop :=
 ∃i:Nat,i≤len∧len-i=gk∧s=.int .i64 (i:Int)∧Below w0.heap.size w0 wr∧Ch w wr bl∧Bx wr bl #[.int .i64 (lastOf a (L.take i))] 3∧Bx wr bn #[.int .i64 n] 3∧risesB n a (L.take i)=true
def TellsAllI (w:World) (bl:Nat) (r:Bool) (e:Ending) (w':World):Prop:=e=.returned (.bool r)∧Ch w w' bl
theorem all_pool11 {w0 w:World} {A:Option Addr} {len c bl bn:Nat} {L:List Int} {a n:Int} (hB:Below w0.heap.size w0 w) (h:Sl ics 1 w0 A len c L) (hlen:len≤1000000000) (hbl:w0.heap.size≤bl) (xl:Bx w bl #[.int .i64 a] 3) (xn:Bx w bn #[.int .i64 n] 3) (hne:bn≠bl) (r:Bool) (hr:Hid (risesB n a L=r)) :
  Calls Tryz.prog 119 #[.slice A len c,.func (.func 124) #[] #[.pointer (some ⟨bl,0,none⟩),.pointer (some ⟨bn,0,none⟩)]] w (TellsAllI w bl r):=by
 have H:=zh h;have HLN:=zh h.1;have hst:AI w0 w bl bn a n L len len (.int .i64 ((0:Nat):Int)) w:=⟨0,uA _,rfl,rfl,hB,Ch.refl _ _,by simpa [lastOf] using xl,xn,by simp[risesB]⟩;have HST:=zh hst;clear h hst xl xn hB;go_enter Tryz.func119,Tryz.ntmps119
 go_wp2_with fail
 go_loopg [9] len (fun gk s wr=>AI w0 w bl bn a n L len gk s wr)
 case atStart=>exact HST.out
 case round =>
  clear HST;obtain⟨i,hi,hgk,rfl,hB,hc,xl,xn,hd⟩:=hrel;have HGK:=zh hgk;have HD:=zh hd;have XL:=zh xl;have XN:=zh xn;have HC:=zh hc;clear hgk hd xl xn hc;by_cases hlt:i<len
  ·obtain⟨b,off,rfl,hel⟩:=H.out.at ics_len zo zo;obtain⟨x,hx⟩:∃x,L[i]?=some x:=⟨L[i]'(by rw[HLN.out];exact hlt),cA _⟩;have hnd:ElA w0 b (off+i) (ics x):=by have:=hel i x hx;rwa [kC] at this
   have HTI:=zh hx;have p0:=(hnd.below hB).c0 (u:=.int .i64 x) rfl;have i1:(i:Int)<(len:Int):=zo;have i2:(0:Int)≤(i:Int):=zo;clear hx hel hnd;obtain⟨rv,HRV⟩:∃rv,Hid ((decide (lastOf a (L.take i)<x)&&decide (x<n))=rv):=⟨_,zh rfl⟩;go_wp2_with fail
   with_reducible refine(pool11_q XL.out XN.out rv HRV).mono ?_
   rintro e w2 ⟨rfl,x2,ch⟩;have hB2:Below w0.heap.size w0 w2:=hB.trans (ch.below hbl hB.size);replace XN:=zh (ch.bx XN.out hne);replace HC:=zh (HC.out.trans ch);have X2:=zh x2;have hrs:risesB n a (L.take (i+1))=rv:=by rw[zAi HTI.out,risesB_snoc,HD.out,HRV.out];rfl
   have HRS:=zh hrs;clear p0 x2 ch hrs;cases rv
   ·obtain rfl:r=false:=by rw[←hr.out];exact risesB_no HRS.out
    go_wp2_with fail
    go_ret
    exact⟨rfl,HC.out⟩
   ·go_wp2_with fail
    go_roundg (len-(i+1))
    case measure=>have:=HGK.out;omega
    case rel=>exact⟨i+1,zo,rfl,by go_num,hB2,HC.out,by rw[zAi HTI.out,lastOf_snoc];exact X2.out,XN.out,HRS.out⟩
  ·obtain rfl:i=len:=zo;have i1:¬(i:Int)<(i:Int):=zo;obtain rfl:r=true:=by rw[←hr.out];have:=HD.out;rwa [fA (by rw[HLN.out];exact aA _)] at this
   go_wp2_with fail
   go_ret
   exact⟨rfl,HC.out⟩
structure Gp where
 A:Option Addr
 n:Nat
 c:Nat
 L:List Int
def Gp.cs (v:Gp):List Value:=[.slice v.A v.n v.c]
theorem Gp.cs_len (v:Gp):v.cs.length=1:=rfl
def GpOk (w:World) (v:Gp):Prop:=Sl ics 1 w v.A v.n v.c v.L∧v.n≤1000000
theorem GpOk.below {w w':World} {v:Gp} (h:GpOk w v) (hb:Below w.heap.size w w':=by go_grown):GpOk w' v:=⟨h.1.below hb,h.2⟩
theorem GpOk.sl {w:World} {v:Gp} (h:GpOk w v):Sl ics 1 w v.A v.n v.c v.L:=h.1
def groupB (n:Int) (v:Gp):Bool:=decide (0<v.n)&&risesB n (-1) v.L
def glens (L:List Gp):Nat:=(L.map (·.n)).sum
def Tells1P (w:World) (bt:Nat) (T:Int) (v:Gp) (r:Bool) (e:Ending) (w':World):Prop:=e=.returned (.bool r)∧Bx w' bt #[.int .i64 (T+(v.n:Int))] 3∧Ch w w' bt
theorem pool1_q {w0 w:World} {bt bn:Nat} {v:Gp} {T n:Int} (hB:Below w0.heap.size w0 w) (h:GpOk w0 v) (hbt:w0.heap.size≤bt) (xt:Bx w bt #[.int .i64 T] 3) (xn:Bx w bn #[.int .i64 n] 3) (hne:bn≠bt) (hT0:0≤T) (hT1:T≤1000000000000) (r:Bool) (hr:Hid (groupB n v=r)) :
  Calls Tryz.prog 123 #[.slice v.A v.n v.c,.pointer (some ⟨bt,0,none⟩),.pointer (some ⟨bn,0,none⟩)] w (Tells1P w bt T v r):=by
 have hn:=h.2;have HV:=zh h;have XT:=zh xt;have XN:=zh xn;have c0:=xt.cell 0 (.int .i64 T) rfl;have f0:=xt.frozen 0;have y0:=xt.lt;have u1:IntKind.i64.wrap (T+(v.n:Int))=T+(v.n:Int):=IntWalk.i64_in _ zo;have hB2:Below w0.heap.size w0 (w.setCell ⟨bt,0,none⟩ (.int .i64 (T+(v.n:Int)))):=hB.setCell hbt _;obtain⟨V,hV⟩:∃V,V=w.setCell ⟨bt,0,none⟩ (.int .i64 (T+(v.n:Int))):=⟨_,rfl⟩;rw[←hV] at hB2;have hc:Ch w V bt:=by rw[hV];exact Ch.set XT.out (i:=0) rfl nofun _
 have xt2:Bx V bt #[.int .i64 (T+(v.n:Int))] 3:=by rw[hV];exact XT.out.set 0 _
 have XT2:=zh xt2;have XN2:=zh (hc.bx xn hne);have HC:=zh hc;obtain⟨V5,hV5,x5,hN5⟩:=zAb V #[.int .i64 (-1)] 3;obtain⟨b5,hb5⟩:=ze V.heap.size;rw[←hb5] at x5;have X5:=zh x5;have hb5w:w0.heap.size≤b5:=by rw[hb5];exact hB2.size
 have hbn5:bn≠b5:=zi XN2.out.lt;have hbt5:bt≠b5:=zi XT2.out.lt;have HB5:=zh hb5;clear h xt xn hc xt2 x5;go_enter Tryz.func123,Tryz.ntmps123
 go_upto_region 2 with(fail)
 rw[←hV];clear hV;go_upto_region 3 with(fail)
 rw[←hV5,←hb5];clear hV5 hb5;by_cases h0:0<v.n
 ·have g1:decide ((0:Int)<(v.n:Int))=true:=jA zo;have HR:Hid (risesB n (-1) v.L=r):=zh (by rw[←hr.out];unfold groupB;rw[jA h0,Bool.true_and]);go_wp2_with fail
  with_reducible refine(all_pool11 (bT hB2 hN5) HV.out.sl zo hb5w X5.out (XN2.out.below hN5) hbn5 r HR).mono ?_
  rintro e w3 ⟨rfl,ch⟩;go_wp2_with fail
  go_ret
  exact⟨rfl,ch.bx (XT2.out.below hN5) hbt5,(HC.out.trans (Ch.of_below hN5)).fresh ch (by rw[HB5.out];exact HC.out.1.size)⟩
 ·have g1:decide ((0:Int)<(v.n:Int))=false:=yA zo;have g2:¬(0:Int)<(v.n:Int):=zo;obtain rfl:r=false:=by rw[←hr.out];unfold groupB;rw[yA h0,Bool.false_and]
  go_wp2_with fail
  go_ret
  exact⟨rfl,XT2.out.below hN5,HC.out.trans (Ch.of_below hN5)⟩
theorem glens_take {L:List Gp} {i:Nat} {v:Gp} (h:L[i]?=some v):glens (L.take (i+1))=glens (L.take i)+v.n:=by
 unfold glens;rw[aF,cF,List.sum_append,h];simp
theorem glens_le {L:List Gp} {K:Nat} (h:∀v∈L,v.n≤K) (i:Nat):glens (L.take i)≤i*K:=by
 induction i with
 | zero=>simp[glens]
 | succ i ih =>
  rcases eB i L.length with hi | hi
  ·rw[glens_take (cA hi)];have:=h _ (cG hi);rw[xB];omega
  ·rw[fA zo] at ih ⊢;rw[xB];omega
def AG (w0 w:World) (bt bn:Nat) (T n:Int) (L:List Gp) (len gk:Nat) (s:Value) (wr:World):Prop :=
 ∃i:Nat,i≤len∧len-i=gk∧s=.int .i64 (i:Int)∧Below w0.heap.size w0 wr∧Ch w wr bt∧Bx wr bt #[.int .i64 (T+(glens (L.take i):Int))] 3∧Bx wr bn #[.int .i64 n] 3∧(L.take i).all (fun v=>groupB n v)=true
def TellsAllG (w:World) (bt:Nat) (T:Int) (L:List Gp) (r:Bool) (e:Ending) (w':World):Prop:=e=.returned (.bool r)∧(r=true→Bx w' bt #[.int .i64 (T+(glens L:Int))] 3)∧Ch w w' bt
theorem all_groups {w0 w:World} {A:Option Addr} {len c bt bn:Nat} {L:List Gp} {T n:Int} (hB:Below w0.heap.size w0 w) (h:Sl Gp.cs 1 w0 A len c L) (hok:∀v∈L,GpOk w0 v) (hlen:len≤100000) (hbt:w0.heap.size≤bt) (xt:Bx w bt #[.int .i64 T] 3) (xn:Bx w bn #[.int .i64 n] 3) (hne:bn≠bt) (hT0:0≤T) (hT1:T≤1000000) (r:Bool) (hr:Hid (L.all (fun v=>groupB n v)=r)) :
  Calls Tryz.prog 125 #[.slice A len c,.func (.func 123) #[] #[.pointer (some ⟨bt,0,none⟩),.pointer (some ⟨bn,0,none⟩)]] w (TellsAllG w bt T L r):=by
 have H:=zh h;have HLN:=zh h.1;have HOK:=zh hok;have hll:=zh (glens_le (K:=1000000) (fun v hv=>(hok v hv).2));have hst:AG w0 w bt bn T n L len len (.int .i64 ((0:Nat):Int)) w:=⟨0,uA _,rfl,rfl,hB,Ch.refl _ _,by simpa [glens] using xt,xn,by simp⟩;have HST:=zh hst;clear h hok hst xt xn hB;go_enter Tryz.func125,Tryz.ntmps125
 go_wp2_with fail
 go_loopg [9] len (fun gk s wr=>AG w0 w bt bn T n L len gk s wr)
 case atStart=>exact HST.out
 case round =>
  clear HST;obtain⟨i,hi,hgk,rfl,hB,hc,xt,xn,hd⟩:=hrel;have HGK:=zh hgk;have HD:=zh hd;have XT:=zh xt;have XN:=zh xn;have HC:=zh hc;clear hgk hd xt xn hc;by_cases hlt:i<len
  ·obtain⟨b,off,rfl,hel⟩:=H.out.at Gp.cs_len zo zo;obtain⟨v,hv⟩:∃v,L[i]?=some v:=⟨L[i]'(by rw[HLN.out];exact hlt),cA _⟩;have hnd:ElA w0 b (off+i) v.cs:=by have:=hel i v hv;rwa [kC] at this
   have HTI:=zh hv;have HVO:=zh (HOK.out v (eA hv));have p0:=(hnd.below hB).c0 (u:=.slice v.A v.n v.c) rfl;have i1:(i:Int)<(len:Int):=zo;have i2:(0:Int)≤(i:Int):=zo;have hlb:=hll.out i;have hvn:=HVO.out.2;clear hv hel hnd;obtain⟨rv,HRV⟩:∃rv,Hid (groupB n v=rv):=⟨_,zh rfl⟩;go_wp2_with fail
   with_reducible refine(pool1_q hB HVO.out hbt XT.out XN.out hne zo zo rv HRV).mono ?_
   rintro e w2 ⟨rfl,x2,ch⟩;have hB2:Below w0.heap.size w0 w2:=hB.trans (ch.below hbt hB.size);replace XN:=zh (ch.bx XN.out hne);replace HC:=zh (HC.out.trans ch);have X2:=zh x2;clear p0 x2 ch;cases rv
   ·obtain rfl:r=false:=by rw[←hr.out];exact all_no HTI.out HRV.out
    go_wp2_with fail
    go_ret
    exact⟨rfl,(fun h=>by cases h),HC.out⟩
   ·go_wp2_with fail
    go_roundg (len-(i+1))
    case measure=>have:=HGK.out;omega
    case rel=>exact⟨i+1,zo,rfl,by go_num,hB2,HC.out,by rw[glens_take HTI.out,Int.natCast_add,←Int.add_assoc];exact X2.out,XN.out,take_all HD.out HTI.out HRV.out⟩
  ·obtain rfl:i=len:=zo;have i1:¬(i:Int)<(i:Int):=zo;obtain rfl:r=true:=by rw[←hr.out];exact all_yes HLN.out HD.out
   go_wp2_with fail
   go_ret
   exact⟨rfl,fun _=>by have:=XT.out;rwa [fA (by rw[HLN.out];exact aA _)] at this,HC.out⟩
structure Ly where
 kind:Int
 rA:Option Addr
 rn:Nat
 rc:Nat
 rows:List Vc
 bA:Option Addr
 bn:Nat
 bc:Nat
 bias:List Fr
 ch:Int
 high:Int
 wide:Int
 out:Int
 kh:Int
 kw:Int
 st:Int
 pad:Int
 kA:Option Addr
 kn:Nat
 kc:Nat
 kern:List Fr
 gA:Option Addr
 gn:Nat
 gc:Nat
 groups:List Gp
def Ly.cs (y:Ly):List Value:=[.int .u8 y.kind,.slice y.rA y.rn y.rc,.slice y.bA y.bn y.bc,.int .i64 y.ch,.int .i64 y.high,.int .i64 y.wide,.int .i64 y.out,.int .i64 y.kh,.int .i64 y.kw,.int .i64 y.st,.int .i64 y.pad,.slice y.kA y.kn y.kc,.slice y.gA y.gn y.gc]
theorem Ly.cs_len (y:Ly):y.cs.length=13:=rfl
theorem zY (w:World) (y:Ly):∃W,W=w.alloc (.cells #[.int .u8 y.kind,.slice y.rA y.rn y.rc,.slice y.bA y.bn y.bc,.int .i64 y.ch,.int .i64 y.high,.int .i64 y.wide,.int .i64 y.out,.int .i64 y.kh,.int .i64 y.kw,.int .i64 y.st,.int .i64 y.pad,.slice y.kA y.kn y.kc,.slice y.gA y.gn y.gc] 55)∧Bx W w.heap.size #[.int .u8 y.kind,.slice y.rA y.rn y.rc,.slice y.bA y.bn y.bc,.int .i64 y.ch,.int .i64 y.high,.int .i64 y.wide,.int .i64 y.out,.int .i64 y.kh,.int .i64 y.kw,.int .i64 y.st,.int .i64 y.pad,.slice y.kA y.kn y.kc,.slice y.gA y.gn y.gc] 55∧Below w.heap.size w W:=zAb w _ _
structure LyOk (w:World) (m:Nat) (y:Ly):Prop where
 rows:Sl Vc.cs 1 w y.rA y.rn y.rc y.rows
 rok:∀v∈y.rows,VcOk w m v
 bias:Sl Fr.cs 4 w y.bA y.bn y.bc y.bias
 bok:∀x∈y.bias,FrOk w m x
 kern:Sl Fr.cs 4 w y.kA y.kn y.kc y.kern
 kok:∀x∈y.kern,FrOk w m x
 groups:Sl Gp.cs 1 w y.gA y.gn y.gc y.groups
 gok:∀v∈y.groups,GpOk w v
 lens:y.rn≤100000∧y.bn≤100000∧y.kn≤100000∧y.gn≤100000
theorem LyOk.below {w w':World} {m:Nat} {y:Ly} (h:LyOk w m y) (hb:Below w.heap.size w w':=by go_grown):LyOk w' m y :=
 ⟨h.rows.below hb,fun v hv=>(h.rok v hv).below hb,h.bias.below hb,fun v hv=>(h.bok v hv).below hb,h.kern.below hb,fun v hv=>(h.kok v hv).below hb,h.groups.below hb,fun v hv=>(h.gok v hv).below hb,h.lens⟩
theorem ints_sl {w:World} {b:Nat} (L:List Int) (h:Bx w b (L.map (Value.int .i64)).toArray 3) (n:Nat) (hn:L.length=n):Sl ics 1 w (some ⟨b,0,none⟩) n n L:=by
 subst hn;refine⟨rfl,by rw[flat_len ics_len],_,_,rfl,(fun h=>(by cases h)),fun a ha j u hu=>?_⟩;cases ha;rw[add_off,mC];refine h.cell j u ?_;rw[fF];have e:∀L:List Int,flat ics L=L.map (Value.int .i64):=fun L=>by
  unfold flat
  induction L with
  | nil=>rfl
  | cons x L ih=>rw[List.flatMap_cons,ih];rfl
 rw[←e];exact hu
def nums (y:Ly):List Int:=[y.ch,y.high,y.wide,y.out,y.kh,y.kw,y.st,y.pad]
def plainB (y:Ly):Bool:=decide (y.kn=0)&&(nums y).all fun z=>decide (z=0)
theorem plain_q {w:World} {y:Ly} (_hk:y.kn≤1000000000) (t:Bool) (ht:Hid (plainB y=t)) :
  Calls Tryz.prog 102 #[.agg #[.int .u8 y.kind,.slice y.rA y.rn y.rc,.slice y.bA y.bn y.bc,.int .i64 y.ch,.int .i64 y.high,.int .i64 y.wide,.int .i64 y.out,.int .i64 y.kh,.int .i64 y.kw,.int .i64 y.st,.int .i64 y.pad,.slice y.kA y.kn y.kc,.slice y.gA y.gn y.gc]] w fun e w'=>e=.returned (.bool t)∧Below w.heap.size w w':=by
 by_cases h0:y.kn=0
 ·have g0:((y.kn:Int)==0)=true:=by simp;omega
  have HT:Hid ((nums y).all (fun z=>decide (z=0))=t):=zh (by rw[←ht.out];unfold plainB;rw[jA h0,Bool.true_and]);clear h0 ht;obtain⟨W,hW,x0,hB⟩:=zY w y;have HX0:=zh x0;clear x0;have Bz:=zr W;obtain⟨-,-,-,pa3,pa4,pa5,pa6,pa7,pa8,pa9,paa,-⟩:=(zx HX0 Bz).cz;go_enter Tryz.func102,Tryz.ntmps102
  go_upto_region 1 with(fail)
  rw[←hW];clear hW;go_upto_region 2 with(fail)
  obtain⟨V1,hW,x1,hN⟩:=zAb W #[.int .i64 y.ch,.int .i64 y.high,.int .i64 y.wide,.int .i64 y.out,.int .i64 y.kh,.int .i64 y.kw,.int .i64 y.st,.int .i64 y.pad] 3;rw[←hW];clear hW;obtain⟨v1,hb1⟩:=ze W.heap.size;rw[←hb1] at x1 ⊢;have ow_1:w.heap.size≤v1:=zi (zw hB Bz);replace hB:=bT (bT hB Bz) hN;replace HX0:=zba HX0 Bz hN;have HX1:=zh x1;clear x1 hN Bz hb1;have Bz:=zr V1;clear pa3 pa4 pa5 pa6 pa7 pa8 pa9 paa;have pab:=(zx HX0 Bz).cell 11 (.slice y.kA y.kn y.kc) rfl;go_wp2_with fail
  with_reducible refine(all_plain (ints_sl (nums y) (HX1.out.below (bT Bz)) 8 rfl) zo t HT).mono ?_
  rintro e w1 ⟨rfl,q⟩;replace q:=zq (a:=V1) q;replace Bz:=bT Bz q;clear q;clear pab;go_wp2_with fail
  go_ret
  have hF:=bT (c:=w1) hB Bz;exact⟨rfl,bT hF⟩
 ·have g0:((y.kn:Int)==0)=false:=by simp;omega
  obtain rfl:t=false:=by rw[←ht.out];unfold plainB;rw[yA h0,Bool.false_and]
  clear h0 ht;obtain⟨W,hW,x0,hB⟩:=zY w y;have HX0:=zh x0;clear x0;have Bz:=zr W;obtain⟨-,-,-,pa3,pa4,pa5,pa6,pa7,pa8,pa9,paa,-⟩:=(zx HX0 Bz).cz;go_enter Tryz.func102,Tryz.ntmps102
  go_upto_region 1 with(fail)
  rw[←hW];clear hW;go_upto_region 2 with(fail)
  obtain⟨V1,hW,x1,hN⟩:=zAb W #[.int .i64 y.ch,.int .i64 y.high,.int .i64 y.wide,.int .i64 y.out,.int .i64 y.kh,.int .i64 y.kw,.int .i64 y.st,.int .i64 y.pad] 3;rw[←hW];clear hW;obtain⟨v1,hb1⟩:=ze W.heap.size;rw[←hb1] at x1 ⊢;have ow_1:w.heap.size≤v1:=zi (zw hB Bz);replace hB:=bT (bT hB Bz) hN;replace HX0:=zba HX0 Bz hN;have HX1:=zh x1;clear x1 hN Bz hb1;have Bz:=zr V1;clear pa3 pa4 pa5 pa6 pa7 pa8 pa9 paa;have pab:=(zx HX0 Bz).cell 11 (.slice y.kA y.kn y.kc) rfl;go_wp2_with fail
  go_ret
  have hF:=bT (c:=V1) hB Bz;exact⟨rfl,bT hF⟩
def zAg (y:Ly) (n:Int):Option (Int×Int) :=
 if plainB y=false then none else if 0<y.gn then none else if y.rn=0 then none else if y.rn≠y.bn then none
 else if(y.rows.all fun v=>rightB v.L n)=false then none else if(y.bias.all fun x=>x.ex)=false then none else some (y.rn,lens y.rows)
def TellsB (w:World) (f:Option (Int×Int)) (e:Ending) (w':World):Prop :=
 e=.returned (match f with | none=>.tuple #[.int .i64 0,.int .i64 0,.bool false] | some (a,b)=>.tuple #[.int .i64 a,.int .i64 b,.bool true])∧Below w.heap.size w w'
theorem affine_W1 {w:World} {m:Nat} {y:Ly} {n:Int} (_h:LyOk w m y) (_hm:m≤20000) (hl:y.rn≤100000∧y.bn≤100000∧y.kn≤100000∧y.gn≤100000) (HP:Hid (plainB y=false)) (HA:Hid (zAg y n=none)) (_hT:Hid (Tab w)) :
  Calls Tryz.prog 100 #[.agg #[.int .u8 y.kind,.slice y.rA y.rn y.rc,.slice y.bA y.bn y.bc,.int .i64 y.ch,.int .i64 y.high,.int .i64 y.wide,.int .i64 y.out,.int .i64 y.kh,.int .i64 y.kw,.int .i64 y.st,.int .i64 y.pad,.slice y.kA y.kn y.kc,.slice y.gA y.gn y.gc],.int .i64 n] w (TellsB w (zAg y n)):=by
  obtain⟨W,hW,x0,x1,hB⟩:=zAh w #[.int .u8 y.kind,.slice y.rA y.rn y.rc,.slice y.bA y.bn y.bc,.int .i64 y.ch,.int .i64 y.high,.int .i64 y.wide,.int .i64 y.out,.int .i64 y.kh,.int .i64 y.kw,.int .i64 y.st,.int .i64 y.pad,.slice y.kA y.kn y.kc,.slice y.gA y.gn y.gc] 55 #[.int .i64 n] 3;have HX0:=zh x0;have HX1:=zh x1;clear x0 x1;have Bz:=zr W;obtain⟨pa0,pa1,pa2,pa3,pa4,pa5,pa6,pa7,pa8,pa9,paa,pab,pac,-⟩:=(zx HX0 Bz).cz;go_enter Tryz.func100,Tryz.ntmps100
  go_wp2_with fail
  rw[←hW];clear hW;go_wp2_with fail
  with_reducible refine(plain_q zo false HP).mono ?_
  rintro e w1 ⟨rfl,q⟩;replace q:=zq (a:=W) q;replace Bz:=bT Bz q;clear q;clear pa0 pa1 pa2 pa3 pa4 pa5 pa6 pa7 pa8 pa9 paa pab pac;go_wp2_with fail
  go_ret3
  have hF:=bT (c:=w1) hB Bz;exact⟨by rw[HA.out];rfl,bT hF⟩
theorem affine_W2 {w:World} {m:Nat} {y:Ly} {n:Int} (_h:LyOk w m y) (_hm:m≤20000) (hl:y.rn≤100000∧y.bn≤100000∧y.kn≤100000∧y.gn≤100000) (HP:Hid (plainB y=true)) (g1:0<y.gn) (HA:Hid (zAg y n=none)) (_hT:Hid (Tab w)) :
  Calls Tryz.prog 100 #[.agg #[.int .u8 y.kind,.slice y.rA y.rn y.rc,.slice y.bA y.bn y.bc,.int .i64 y.ch,.int .i64 y.high,.int .i64 y.wide,.int .i64 y.out,.int .i64 y.kh,.int .i64 y.kw,.int .i64 y.st,.int .i64 y.pad,.slice y.kA y.kn y.kc,.slice y.gA y.gn y.gc],.int .i64 n] w (TellsB w (zAg y n)):=by
  obtain⟨W,hW,x0,x1,hB⟩:=zAh w #[.int .u8 y.kind,.slice y.rA y.rn y.rc,.slice y.bA y.bn y.bc,.int .i64 y.ch,.int .i64 y.high,.int .i64 y.wide,.int .i64 y.out,.int .i64 y.kh,.int .i64 y.kw,.int .i64 y.st,.int .i64 y.pad,.slice y.kA y.kn y.kc,.slice y.gA y.gn y.gc] 55 #[.int .i64 n] 3;have HX0:=zh x0;have HX1:=zh x1;clear x0 x1;have Bz:=zr W;obtain⟨pa0,pa1,pa2,pa3,pa4,pa5,pa6,pa7,pa8,pa9,paa,pab,pac,-⟩:=(zx HX0 Bz).cz;go_enter Tryz.func100,Tryz.ntmps100
  go_wp2_with fail
  rw[←hW];clear hW;go_wp2_with fail
  with_reducible refine(plain_q zo true HP).mono ?_
  rintro e w1 ⟨rfl,q⟩;replace q:=zq (a:=W) q;replace Bz:=bT Bz q;clear q;clear pa0 pa1 pa2 pa3 pa4 pa5 pa6 pa7 pa8 pa9 paa pab pac;have pac:=(zx HX0 Bz).cell 12 (.slice y.gA y.gn y.gc) rfl;go_wp2_with fail
  go_ret3
  have hF:=bT (c:=w1) hB Bz;exact⟨by rw[HA.out];rfl,bT hF⟩
theorem affine_W3 {w:World} {m:Nat} {y:Ly} {n:Int} (_h:LyOk w m y) (_hm:m≤20000) (hl:y.rn≤100000∧y.bn≤100000∧y.kn≤100000∧y.gn≤100000) (HP:Hid (plainB y=true)) (g1:¬0<y.gn) (g2:((y.rn:Int)==0)=true) (HA:Hid (zAg y n=none)) (_hT:Hid (Tab w)) :
  Calls Tryz.prog 100 #[.agg #[.int .u8 y.kind,.slice y.rA y.rn y.rc,.slice y.bA y.bn y.bc,.int .i64 y.ch,.int .i64 y.high,.int .i64 y.wide,.int .i64 y.out,.int .i64 y.kh,.int .i64 y.kw,.int .i64 y.st,.int .i64 y.pad,.slice y.kA y.kn y.kc,.slice y.gA y.gn y.gc],.int .i64 n] w (TellsB w (zAg y n)):=by
  obtain⟨W,hW,x0,x1,hB⟩:=zAh w #[.int .u8 y.kind,.slice y.rA y.rn y.rc,.slice y.bA y.bn y.bc,.int .i64 y.ch,.int .i64 y.high,.int .i64 y.wide,.int .i64 y.out,.int .i64 y.kh,.int .i64 y.kw,.int .i64 y.st,.int .i64 y.pad,.slice y.kA y.kn y.kc,.slice y.gA y.gn y.gc] 55 #[.int .i64 n] 3;have HX0:=zh x0;have HX1:=zh x1;clear x0 x1;have Bz:=zr W;obtain⟨pa0,pa1,pa2,pa3,pa4,pa5,pa6,pa7,pa8,pa9,paa,pab,pac,-⟩:=(zx HX0 Bz).cz;go_enter Tryz.func100,Tryz.ntmps100
  go_wp2_with fail
  rw[←hW];clear hW;go_wp2_with fail
  with_reducible refine(plain_q zo true HP).mono ?_
  rintro e w1 ⟨rfl,q⟩;replace q:=zq (a:=W) q;replace Bz:=bT Bz q;clear q;clear pa0 pa1 pa2 pa3 pa4 pa5 pa6 pa7 pa8 pa9 paa pab pac;obtain⟨-,pa1,-,-,-,-,-,-,-,-,-,-,pac,-⟩:=(zx HX0 Bz).cz;go_wp2_with fail
  go_ret3
  have hF:=bT (c:=w1) hB Bz;exact⟨by rw[HA.out];rfl,bT hF⟩
theorem affine_W4 {w:World} {m:Nat} {y:Ly} {n:Int} (_h:LyOk w m y) (_hm:m≤20000) (hl:y.rn≤100000∧y.bn≤100000∧y.kn≤100000∧y.gn≤100000) (HP:Hid (plainB y=true)) (g1:¬0<y.gn) (g2:((y.rn:Int)==0)=false) (g3:((y.rn:Int) !=(y.bn:Int))=true) (HA:Hid (zAg y n=none)) (_hT:Hid (Tab w)) :
  Calls Tryz.prog 100 #[.agg #[.int .u8 y.kind,.slice y.rA y.rn y.rc,.slice y.bA y.bn y.bc,.int .i64 y.ch,.int .i64 y.high,.int .i64 y.wide,.int .i64 y.out,.int .i64 y.kh,.int .i64 y.kw,.int .i64 y.st,.int .i64 y.pad,.slice y.kA y.kn y.kc,.slice y.gA y.gn y.gc],.int .i64 n] w (TellsB w (zAg y n)):=by
  obtain⟨W,hW,x0,x1,hB⟩:=zAh w #[.int .u8 y.kind,.slice y.rA y.rn y.rc,.slice y.bA y.bn y.bc,.int .i64 y.ch,.int .i64 y.high,.int .i64 y.wide,.int .i64 y.out,.int .i64 y.kh,.int .i64 y.kw,.int .i64 y.st,.int .i64 y.pad,.slice y.kA y.kn y.kc,.slice y.gA y.gn y.gc] 55 #[.int .i64 n] 3;have HX0:=zh x0;have HX1:=zh x1;clear x0 x1;have Bz:=zr W;obtain⟨pa0,pa1,pa2,pa3,pa4,pa5,pa6,pa7,pa8,pa9,paa,pab,pac,-⟩:=(zx HX0 Bz).cz;go_enter Tryz.func100,Tryz.ntmps100
  go_wp2_with fail
  rw[←hW];clear hW;go_wp2_with fail
  with_reducible refine(plain_q zo true HP).mono ?_
  rintro e w1 ⟨rfl,q⟩;replace q:=zq (a:=W) q;replace Bz:=bT Bz q;clear q;clear pa0 pa1 pa2 pa3 pa4 pa5 pa6 pa7 pa8 pa9 paa pab pac;obtain⟨-,pa1,pa2,-,-,-,-,-,-,-,-,-,pac,-⟩:=(zx HX0 Bz).cz;go_wp2_with fail
  go_ret3
  have hF:=bT (c:=w1) hB Bz;exact⟨by rw[HA.out];rfl,bT hF⟩
theorem affine_W5 {w:World} {m:Nat} {y:Ly} {n:Int} (h:LyOk w m y) (hm:m≤20000) (hl:y.rn≤100000∧y.bn≤100000∧y.kn≤100000∧y.gn≤100000) (HP:Hid (plainB y=true)) (g1:¬0<y.gn) (g2:((y.rn:Int)==0)=false) (g3:((y.rn:Int) !=(y.bn:Int))=false) (HR:Hid ((y.rows.all fun v=>rightB v.L n)=false)) (HA:Hid (zAg y n=none)) (hT:Hid (Tab w)) :
  Calls Tryz.prog 100 #[.agg #[.int .u8 y.kind,.slice y.rA y.rn y.rc,.slice y.bA y.bn y.bc,.int .i64 y.ch,.int .i64 y.high,.int .i64 y.wide,.int .i64 y.out,.int .i64 y.kh,.int .i64 y.kw,.int .i64 y.st,.int .i64 y.pad,.slice y.kA y.kn y.kc,.slice y.gA y.gn y.gc],.int .i64 n] w (TellsB w (zAg y n)):=by
  obtain⟨W,hW,x0,x1,hB⟩:=zAh w #[.int .u8 y.kind,.slice y.rA y.rn y.rc,.slice y.bA y.bn y.bc,.int .i64 y.ch,.int .i64 y.high,.int .i64 y.wide,.int .i64 y.out,.int .i64 y.kh,.int .i64 y.kw,.int .i64 y.st,.int .i64 y.pad,.slice y.kA y.kn y.kc,.slice y.gA y.gn y.gc] 55 #[.int .i64 n] 3;have HX0:=zh x0;have HX1:=zh x1;clear x0 x1;have Bz:=zr W;obtain⟨pa0,pa1,pa2,pa3,pa4,pa5,pa6,pa7,pa8,pa9,paa,pab,pac,-⟩:=(zx HX0 Bz).cz;go_enter Tryz.func100,Tryz.ntmps100
  go_wp2_with fail
  rw[←hW];clear hW;go_wp2_with fail
  with_reducible refine(plain_q zo true HP).mono ?_
  rintro e w1 ⟨rfl,q⟩;replace q:=zq (a:=W) q;replace Bz:=bT Bz q;clear q;clear pa0 pa1 pa2 pa3 pa4 pa5 pa6 pa7 pa8 pa9 paa pab pac;obtain⟨-,pa1,pa2,-,-,-,-,-,-,-,-,-,pac,-⟩:=(zx HX0 Bz).cz;go_upto_region 4 with(fail)
  obtain⟨V1,hW,x2,hN⟩:=zAb w1 #[.int .i64 0] 3;rw[←hW];clear hW;obtain⟨v2,hb2⟩:=ze w1.heap.size;rw[←hb2] at x2 ⊢;have o0_2:w.heap.size<v2:=zi (zx HX0 Bz).lt;have o1_2:w.heap.size+1<v2:=zi (zx HX1 Bz).lt;have ow_2:w.heap.size≤v2:=zi (zw hB Bz);replace hB:=bT (bT hB Bz) hN;replace HX0:=zba HX0 Bz hN;replace HX1:=zba HX1 Bz hN;have HX2:=zh x2;clear x2 hN Bz hb2;have Bz:=zr V1;clear pa1 pa2 pac;have pa1:=(zx HX0 Bz).cell 1 (.slice y.rA y.rn y.rc) rfl;go_wp2_with fail
  with_reducible refine(all_vec (w0:=w) (bT hB (bT (b:=V1) Bz)) h.rows h.rok hm (by  omega) (by  omega) (HX2.out.below (bT Bz)) (HX1.out.below (bT Bz)) (by  omega) (by  omega) (by  omega) false HR hT).mono ?_
  rintro e w2 ⟨rfl,x2,ch2⟩;replace ch2:=(Ch.of_below (w:=V1) (by go_grown)).trans ch2;replace hB:=(bT hB Bz).trans (ch2.below zo (zi (zw hB Bz)));replace HX0:=zh (ch2.bx (zx HX0 Bz) zo);replace HX1:=zh (ch2.bx (zx HX1 Bz) zo);clear HX2;clear ch2 Bz;have Bz:=zr w2;clear pa1;go_wp2_with fail
  go_ret3
  have hF:=bT (c:=w2) hB Bz;exact⟨by rw[HA.out];rfl,bT hF⟩
theorem affine_W6 {w:World} {m:Nat} {y:Ly} {n:Int} (h:LyOk w m y) (hm:m≤20000) (hl:y.rn≤100000∧y.bn≤100000∧y.kn≤100000∧y.gn≤100000) (HP:Hid (plainB y=true)) (g1:¬0<y.gn) (g2:((y.rn:Int)==0)=false) (g3:((y.rn:Int) !=(y.bn:Int))=false) (HR:Hid ((y.rows.all fun v=>rightB v.L n)=true)) (HE:Hid ((y.bias.all fun x=>x.ex)=false)) (HA:Hid (zAg y n=none)) (hT:Hid (Tab w)) :
  Calls Tryz.prog 100 #[.agg #[.int .u8 y.kind,.slice y.rA y.rn y.rc,.slice y.bA y.bn y.bc,.int .i64 y.ch,.int .i64 y.high,.int .i64 y.wide,.int .i64 y.out,.int .i64 y.kh,.int .i64 y.kw,.int .i64 y.st,.int .i64 y.pad,.slice y.kA y.kn y.kc,.slice y.gA y.gn y.gc],.int .i64 n] w (TellsB w (zAg y n)):=by
  obtain⟨W,hW,x0,x1,hB⟩:=zAh w #[.int .u8 y.kind,.slice y.rA y.rn y.rc,.slice y.bA y.bn y.bc,.int .i64 y.ch,.int .i64 y.high,.int .i64 y.wide,.int .i64 y.out,.int .i64 y.kh,.int .i64 y.kw,.int .i64 y.st,.int .i64 y.pad,.slice y.kA y.kn y.kc,.slice y.gA y.gn y.gc] 55 #[.int .i64 n] 3;have HX0:=zh x0;have HX1:=zh x1;clear x0 x1;have Bz:=zr W;obtain⟨pa0,pa1,pa2,pa3,pa4,pa5,pa6,pa7,pa8,pa9,paa,pab,pac,-⟩:=(zx HX0 Bz).cz;go_enter Tryz.func100,Tryz.ntmps100
  go_wp2_with fail
  rw[←hW];clear hW;go_wp2_with fail
  with_reducible refine(plain_q zo true HP).mono ?_
  rintro e w1 ⟨rfl,q⟩;replace q:=zq (a:=W) q;replace Bz:=bT Bz q;clear q;clear pa0 pa1 pa2 pa3 pa4 pa5 pa6 pa7 pa8 pa9 paa pab pac;obtain⟨-,pa1,pa2,-,-,-,-,-,-,-,-,-,pac,-⟩:=(zx HX0 Bz).cz;go_upto_region 4 with(fail)
  obtain⟨V1,hW,x2,hN⟩:=zAb w1 #[.int .i64 0] 3;rw[←hW];clear hW;obtain⟨v2,hb2⟩:=ze w1.heap.size;rw[←hb2] at x2 ⊢;have o0_2:w.heap.size<v2:=zi (zx HX0 Bz).lt;have o1_2:w.heap.size+1<v2:=zi (zx HX1 Bz).lt;have ow_2:w.heap.size≤v2:=zi (zw hB Bz);replace hB:=bT (bT hB Bz) hN;replace HX0:=zba HX0 Bz hN;replace HX1:=zba HX1 Bz hN;have HX2:=zh x2;clear x2 hN Bz hb2;have Bz:=zr V1;clear pa1 pa2 pac;have pa1:=(zx HX0 Bz).cell 1 (.slice y.rA y.rn y.rc) rfl;go_wp2_with fail
  with_reducible refine(all_vec (w0:=w) (bT hB (bT (b:=V1) Bz)) h.rows h.rok hm (by  omega) (by  omega) (HX2.out.below (bT Bz)) (HX1.out.below (bT Bz)) (by  omega) (by  omega) (by  omega) true HR hT).mono ?_
  rintro e w2 ⟨rfl,x2,ch2⟩;replace ch2:=(Ch.of_below (w:=V1) (by go_grown)).trans ch2;replace hB:=(bT hB Bz).trans (ch2.below zo (zi (zw hB Bz)));replace HX0:=zh (ch2.bx (zx HX0 Bz) zo);replace HX1:=zh (ch2.bx (zx HX1 Bz) zo);replace HX2:=zh (x2 rfl);clear ch2 Bz;have Bz:=zr w2;clear pa1;have pa2:=(zx HX0 Bz).cell 2 (.slice y.bA y.bn y.bc) rfl;go_wp2_with fail
  with_reducible refine(all_affine2 (h.bias.below (bT hB (bT (b:=w2) Bz))) (zh fun x hx=>(h.bok x hx).below (bT hB (bT (b:=w2) Bz))) zo (zt hT hB Bz) zo false HE).mono ?_
  rintro e w3 ⟨rfl,q⟩;replace q:=zq (a:=w2) q;replace Bz:=bT Bz q;clear q;clear pa2;go_wp2_with fail
  go_ret3
  have hF:=bT (c:=w3) hB Bz;exact⟨by rw[HA.out];rfl,bT hF⟩
theorem affine_OK {w:World} {m:Nat} {y:Ly} {n:Int} (h:LyOk w m y) (hm:m≤20000) (hl:y.rn≤100000∧y.bn≤100000∧y.kn≤100000∧y.gn≤100000) (HP:Hid (plainB y=true)) (g1:¬0<y.gn) (g2:((y.rn:Int)==0)=false) (g3:((y.rn:Int) !=(y.bn:Int))=false) (HR:Hid ((y.rows.all fun v=>rightB v.L n)=true)) (HE:Hid ((y.bias.all fun x=>x.ex)=true)) (HA:Hid (zAg y n=some ((y.rn:Int),(lens y.rows:Int)))) (hT:Hid (Tab w)) :
  Calls Tryz.prog 100 #[.agg #[.int .u8 y.kind,.slice y.rA y.rn y.rc,.slice y.bA y.bn y.bc,.int .i64 y.ch,.int .i64 y.high,.int .i64 y.wide,.int .i64 y.out,.int .i64 y.kh,.int .i64 y.kw,.int .i64 y.st,.int .i64 y.pad,.slice y.kA y.kn y.kc,.slice y.gA y.gn y.gc],.int .i64 n] w (TellsB w (zAg y n)):=by
  obtain⟨W,hW,x0,x1,hB⟩:=zAh w #[.int .u8 y.kind,.slice y.rA y.rn y.rc,.slice y.bA y.bn y.bc,.int .i64 y.ch,.int .i64 y.high,.int .i64 y.wide,.int .i64 y.out,.int .i64 y.kh,.int .i64 y.kw,.int .i64 y.st,.int .i64 y.pad,.slice y.kA y.kn y.kc,.slice y.gA y.gn y.gc] 55 #[.int .i64 n] 3;have HX0:=zh x0;have HX1:=zh x1;clear x0 x1;have Bz:=zr W;obtain⟨pa0,pa1,pa2,pa3,pa4,pa5,pa6,pa7,pa8,pa9,paa,pab,pac,-⟩:=(zx HX0 Bz).cz;go_enter Tryz.func100,Tryz.ntmps100
  go_wp2_with fail
  rw[←hW];clear hW;go_wp2_with fail
  with_reducible refine(plain_q zo true HP).mono ?_
  rintro e w1 ⟨rfl,q⟩;replace q:=zq (a:=W) q;replace Bz:=bT Bz q;clear q;clear pa0 pa1 pa2 pa3 pa4 pa5 pa6 pa7 pa8 pa9 paa pab pac;obtain⟨-,pa1,pa2,-,-,-,-,-,-,-,-,-,pac,-⟩:=(zx HX0 Bz).cz;go_upto_region 4 with(fail)
  obtain⟨V1,hW,x2,hN⟩:=zAb w1 #[.int .i64 0] 3;rw[←hW];clear hW;obtain⟨v2,hb2⟩:=ze w1.heap.size;rw[←hb2] at x2 ⊢;have o0_2:w.heap.size<v2:=zi (zx HX0 Bz).lt;have o1_2:w.heap.size+1<v2:=zi (zx HX1 Bz).lt;have ow_2:w.heap.size≤v2:=zi (zw hB Bz);replace hB:=bT (bT hB Bz) hN;replace HX0:=zba HX0 Bz hN;replace HX1:=zba HX1 Bz hN;have HX2:=zh x2;clear x2 hN Bz hb2;have Bz:=zr V1;clear pa1 pa2 pac;have pa1:=(zx HX0 Bz).cell 1 (.slice y.rA y.rn y.rc) rfl;go_wp2_with fail
  with_reducible refine(all_vec (w0:=w) (bT hB (bT (b:=V1) Bz)) h.rows h.rok hm (by  omega) (by  omega) (HX2.out.below (bT Bz)) (HX1.out.below (bT Bz)) (by  omega) (by  omega) (by  omega) true HR hT).mono ?_
  rintro e w2 ⟨rfl,x2,ch2⟩;replace ch2:=(Ch.of_below (w:=V1) (by go_grown)).trans ch2;replace hB:=(bT hB Bz).trans (ch2.below zo (zi (zw hB Bz)));replace HX0:=zh (ch2.bx (zx HX0 Bz) zo);replace HX1:=zh (ch2.bx (zx HX1 Bz) zo);replace HX2:=zh (x2 rfl);clear ch2 Bz;have Bz:=zr w2;clear pa1;have pa2:=(zx HX0 Bz).cell 2 (.slice y.bA y.bn y.bc) rfl;go_wp2_with fail
  with_reducible refine(all_affine2 (h.bias.below (bT hB (bT (b:=w2) Bz))) (zh fun x hx=>(h.bok x hx).below (bT hB (bT (b:=w2) Bz))) zo (zt hT hB Bz) zo true HE).mono ?_
  rintro e w3 ⟨rfl,q⟩;replace q:=zq (a:=w2) q;replace Bz:=bT Bz q;clear q;clear pa2;have pa1:=(zx HX0 Bz).cell 1 (.slice y.rA y.rn y.rc) rfl;have pc0:=(zx HX2 Bz).cell 0 (.int .i64 (0+(lens y.rows:Int))) rfl;go_wp2_with fail
  (try simp only[vAa,vBa,vC])
  refine zl (zz [0,1,2,3,4,5,6] .done) [] (zsa pa1 (zIa pc0)) ?_;iterate 7 (refine zUa ?_;try simp only[Act.put,uX,uY,uZ])
  refine wpPlan_done ?_;go_wp2_with fail
  go_ret3
  have hF:=bT (c:=w3) hB Bz;exact⟨by rw[HA.out];simp,bT hF⟩
theorem affine_q {w:World} {m:Nat} {y:Ly} {n:Int} (h:LyOk w m y) (hm:m≤20000) (hT:Hid (Tab w)) :
  Calls Tryz.prog 100 #[.agg #[.int .u8 y.kind,.slice y.rA y.rn y.rc,.slice y.bA y.bn y.bc,.int .i64 y.ch,.int .i64 y.high,.int .i64 y.wide,.int .i64 y.out,.int .i64 y.kh,.int .i64 y.kw,.int .i64 y.st,.int .i64 y.pad,.slice y.kA y.kn y.kc,.slice y.gA y.gn y.gc],.int .i64 n] w (TellsB w (zAg y n)):=by
 have hl:=h.lens;cases h1:plainB y
 ·exact affine_W1 h hm hl (zh h1) (zh (by unfold zAg;rw[bB h1])) hT
 ·have e1:¬plainB y=false:=by rw[h1];simp
  by_cases h2:0<y.gn
  ·exact affine_W2 h hm hl (zh h1) h2 (zh (by unfold zAg;rw[dA e1,bB h2])) hT
  ·by_cases h3:y.rn=0
   ·exact affine_W3 h hm hl (zh h1) h2 (by simp;omega) (zh (by unfold zAg;rw[dA e1,dA h2,bB h3])) hT
   ·by_cases h4:y.rn=y.bn
    ·have g4:¬y.rn≠y.bn:=fun h=>h h4;cases h5:(y.rows.all fun v=>rightB v.L n)
     ·exact affine_W5 h hm hl (zh h1) h2 (by simp;omega) (by simp;omega) (zh h5) (zh (by unfold zAg;rw[dA e1,dA h2,dA h3,dA g4,bB h5])) hT
     ·have e5:¬(y.rows.all fun v=>rightB v.L n)=false:=by rw[h5];simp
      cases h6:(y.bias.all fun x=>x.ex)
      ·exact affine_W6 h hm hl (zh h1) h2 (by simp;omega) (by simp;omega) (zh h5) (zh h6) (zh (by unfold zAg;rw[dA e1,dA h2,dA h3,dA g4,dA e5,bB h6])) hT
      ·exact affine_OK h hm hl (zh h1) h2 (by simp;omega) (by simp;omega) (zh h5) (zh h6) (zh (by unfold zAg;rw[dA e1,dA h2,dA h3,dA g4,dA e5,dA (by rw[h6];simp)])) hT
    ·exact affine_W4 h hm hl (zh h1) h2 (by simp;omega) (by simp;omega) (zh (by unfold zAg;rw[dA e1,dA h2,dA h3,bB h4])) hT
def poolF (y:Ly) (n:Int):Option (Int×Int) :=
 if plainB y=false then none else if 0<y.rn then none else if 0<y.bn then none else if y.gn=0 then none
 else if(y.groups.all fun v=>groupB n v)=false then none else some (y.gn,glens y.groups)
theorem pool_W1 {w:World} {m:Nat} {y:Ly} {n:Int} (_h:LyOk w m y) (hl:y.rn≤100000∧y.bn≤100000∧y.kn≤100000∧y.gn≤100000) (HP:Hid (plainB y=false)) (HA:Hid (poolF y n=none)) :
  Calls Tryz.prog 103 #[.agg #[.int .u8 y.kind,.slice y.rA y.rn y.rc,.slice y.bA y.bn y.bc,.int .i64 y.ch,.int .i64 y.high,.int .i64 y.wide,.int .i64 y.out,.int .i64 y.kh,.int .i64 y.kw,.int .i64 y.st,.int .i64 y.pad,.slice y.kA y.kn y.kc,.slice y.gA y.gn y.gc],.int .i64 n] w (TellsB w (poolF y n)):=by
  obtain⟨W,hW,x0,x1,hB⟩:=zAh w #[.int .u8 y.kind,.slice y.rA y.rn y.rc,.slice y.bA y.bn y.bc,.int .i64 y.ch,.int .i64 y.high,.int .i64 y.wide,.int .i64 y.out,.int .i64 y.kh,.int .i64 y.kw,.int .i64 y.st,.int .i64 y.pad,.slice y.kA y.kn y.kc,.slice y.gA y.gn y.gc] 55 #[.int .i64 n] 3;have HX0:=zh x0;have HX1:=zh x1;clear x0 x1;have Bz:=zr W;obtain⟨pa0,pa1,pa2,pa3,pa4,pa5,pa6,pa7,pa8,pa9,paa,pab,pac,-⟩:=(zx HX0 Bz).cz;go_enter Tryz.func103,Tryz.ntmps103
  go_wp2_with fail
  rw[←hW];clear hW;go_wp2_with fail
  with_reducible refine(plain_q zo false HP).mono ?_
  rintro e w1 ⟨rfl,q⟩;replace q:=zq (a:=W) q;replace Bz:=bT Bz q;clear q;clear pa0 pa1 pa2 pa3 pa4 pa5 pa6 pa7 pa8 pa9 paa pab pac;go_wp2_with fail
  go_ret3
  have hF:=bT (c:=w1) hB Bz;exact⟨by rw[HA.out];rfl,bT hF⟩
theorem pool_W2 {w:World} {m:Nat} {y:Ly} {n:Int} (_h:LyOk w m y) (hl:y.rn≤100000∧y.bn≤100000∧y.kn≤100000∧y.gn≤100000) (HP:Hid (plainB y=true)) (g1:0<y.rn) (HA:Hid (poolF y n=none)) :
  Calls Tryz.prog 103 #[.agg #[.int .u8 y.kind,.slice y.rA y.rn y.rc,.slice y.bA y.bn y.bc,.int .i64 y.ch,.int .i64 y.high,.int .i64 y.wide,.int .i64 y.out,.int .i64 y.kh,.int .i64 y.kw,.int .i64 y.st,.int .i64 y.pad,.slice y.kA y.kn y.kc,.slice y.gA y.gn y.gc],.int .i64 n] w (TellsB w (poolF y n)):=by
  obtain⟨W,hW,x0,x1,hB⟩:=zAh w #[.int .u8 y.kind,.slice y.rA y.rn y.rc,.slice y.bA y.bn y.bc,.int .i64 y.ch,.int .i64 y.high,.int .i64 y.wide,.int .i64 y.out,.int .i64 y.kh,.int .i64 y.kw,.int .i64 y.st,.int .i64 y.pad,.slice y.kA y.kn y.kc,.slice y.gA y.gn y.gc] 55 #[.int .i64 n] 3;have HX0:=zh x0;have HX1:=zh x1;clear x0 x1;have Bz:=zr W;obtain⟨pa0,pa1,pa2,pa3,pa4,pa5,pa6,pa7,pa8,pa9,paa,pab,pac,-⟩:=(zx HX0 Bz).cz;go_enter Tryz.func103,Tryz.ntmps103
  go_wp2_with fail
  rw[←hW];clear hW;go_wp2_with fail
  with_reducible refine(plain_q zo true HP).mono ?_
  rintro e w1 ⟨rfl,q⟩;replace q:=zq (a:=W) q;replace Bz:=bT Bz q;clear q;clear pa0 pa1 pa2 pa3 pa4 pa5 pa6 pa7 pa8 pa9 paa pab pac;have pa1:=(zx HX0 Bz).cell 1 (.slice y.rA y.rn y.rc) rfl;go_wp2_with fail
  go_ret3
  have hF:=bT (c:=w1) hB Bz;exact⟨by rw[HA.out];rfl,bT hF⟩
theorem pool_W3 {w:World} {m:Nat} {y:Ly} {n:Int} (_h:LyOk w m y) (hl:y.rn≤100000∧y.bn≤100000∧y.kn≤100000∧y.gn≤100000) (HP:Hid (plainB y=true)) (g1:¬0<y.rn) (g2:0<y.bn) (HA:Hid (poolF y n=none)) :
  Calls Tryz.prog 103 #[.agg #[.int .u8 y.kind,.slice y.rA y.rn y.rc,.slice y.bA y.bn y.bc,.int .i64 y.ch,.int .i64 y.high,.int .i64 y.wide,.int .i64 y.out,.int .i64 y.kh,.int .i64 y.kw,.int .i64 y.st,.int .i64 y.pad,.slice y.kA y.kn y.kc,.slice y.gA y.gn y.gc],.int .i64 n] w (TellsB w (poolF y n)):=by
  obtain⟨W,hW,x0,x1,hB⟩:=zAh w #[.int .u8 y.kind,.slice y.rA y.rn y.rc,.slice y.bA y.bn y.bc,.int .i64 y.ch,.int .i64 y.high,.int .i64 y.wide,.int .i64 y.out,.int .i64 y.kh,.int .i64 y.kw,.int .i64 y.st,.int .i64 y.pad,.slice y.kA y.kn y.kc,.slice y.gA y.gn y.gc] 55 #[.int .i64 n] 3;have HX0:=zh x0;have HX1:=zh x1;clear x0 x1;have Bz:=zr W;obtain⟨pa0,pa1,pa2,pa3,pa4,pa5,pa6,pa7,pa8,pa9,paa,pab,pac,-⟩:=(zx HX0 Bz).cz;go_enter Tryz.func103,Tryz.ntmps103
  go_wp2_with fail
  rw[←hW];clear hW;go_wp2_with fail
  with_reducible refine(plain_q zo true HP).mono ?_
  rintro e w1 ⟨rfl,q⟩;replace q:=zq (a:=W) q;replace Bz:=bT Bz q;clear q;clear pa0 pa1 pa2 pa3 pa4 pa5 pa6 pa7 pa8 pa9 paa pab pac;obtain⟨-,pa1,pa2,-⟩:=(zx HX0 Bz).cz;go_wp2_with fail
  go_ret3
  have hF:=bT (c:=w1) hB Bz;exact⟨by rw[HA.out];rfl,bT hF⟩
theorem pool_W4 {w:World} {m:Nat} {y:Ly} {n:Int} (_h:LyOk w m y) (hl:y.rn≤100000∧y.bn≤100000∧y.kn≤100000∧y.gn≤100000) (HP:Hid (plainB y=true)) (g1:¬0<y.rn) (g2:¬0<y.bn) (g3:((y.gn:Int)==0)=true) (HA:Hid (poolF y n=none)) :
  Calls Tryz.prog 103 #[.agg #[.int .u8 y.kind,.slice y.rA y.rn y.rc,.slice y.bA y.bn y.bc,.int .i64 y.ch,.int .i64 y.high,.int .i64 y.wide,.int .i64 y.out,.int .i64 y.kh,.int .i64 y.kw,.int .i64 y.st,.int .i64 y.pad,.slice y.kA y.kn y.kc,.slice y.gA y.gn y.gc],.int .i64 n] w (TellsB w (poolF y n)):=by
  obtain⟨W,hW,x0,x1,hB⟩:=zAh w #[.int .u8 y.kind,.slice y.rA y.rn y.rc,.slice y.bA y.bn y.bc,.int .i64 y.ch,.int .i64 y.high,.int .i64 y.wide,.int .i64 y.out,.int .i64 y.kh,.int .i64 y.kw,.int .i64 y.st,.int .i64 y.pad,.slice y.kA y.kn y.kc,.slice y.gA y.gn y.gc] 55 #[.int .i64 n] 3;have HX0:=zh x0;have HX1:=zh x1;clear x0 x1;have Bz:=zr W;obtain⟨pa0,pa1,pa2,pa3,pa4,pa5,pa6,pa7,pa8,pa9,paa,pab,pac,-⟩:=(zx HX0 Bz).cz;go_enter Tryz.func103,Tryz.ntmps103
  go_wp2_with fail
  rw[←hW];clear hW;go_wp2_with fail
  with_reducible refine(plain_q zo true HP).mono ?_
  rintro e w1 ⟨rfl,q⟩;replace q:=zq (a:=W) q;replace Bz:=bT Bz q;clear q;clear pa0 pa1 pa2 pa3 pa4 pa5 pa6 pa7 pa8 pa9 paa pab pac;obtain⟨-,pa1,pa2,-,-,-,-,-,-,-,-,-,pac,-⟩:=(zx HX0 Bz).cz;go_wp2_with fail
  go_ret3
  have hF:=bT (c:=w1) hB Bz;exact⟨by rw[HA.out];rfl,bT hF⟩
theorem pool_W5 {w:World} {m:Nat} {y:Ly} {n:Int} (h:LyOk w m y) (hl:y.rn≤100000∧y.bn≤100000∧y.kn≤100000∧y.gn≤100000) (HP:Hid (plainB y=true)) (g1:¬0<y.rn) (g2:¬0<y.bn) (g3:((y.gn:Int)==0)=false) (HR:Hid ((y.groups.all fun v=>groupB n v)=false)) (HA:Hid (poolF y n=none)) :
  Calls Tryz.prog 103 #[.agg #[.int .u8 y.kind,.slice y.rA y.rn y.rc,.slice y.bA y.bn y.bc,.int .i64 y.ch,.int .i64 y.high,.int .i64 y.wide,.int .i64 y.out,.int .i64 y.kh,.int .i64 y.kw,.int .i64 y.st,.int .i64 y.pad,.slice y.kA y.kn y.kc,.slice y.gA y.gn y.gc],.int .i64 n] w (TellsB w (poolF y n)):=by
  obtain⟨W,hW,x0,x1,hB⟩:=zAh w #[.int .u8 y.kind,.slice y.rA y.rn y.rc,.slice y.bA y.bn y.bc,.int .i64 y.ch,.int .i64 y.high,.int .i64 y.wide,.int .i64 y.out,.int .i64 y.kh,.int .i64 y.kw,.int .i64 y.st,.int .i64 y.pad,.slice y.kA y.kn y.kc,.slice y.gA y.gn y.gc] 55 #[.int .i64 n] 3;have HX0:=zh x0;have HX1:=zh x1;clear x0 x1;have Bz:=zr W;obtain⟨pa0,pa1,pa2,pa3,pa4,pa5,pa6,pa7,pa8,pa9,paa,pab,pac,-⟩:=(zx HX0 Bz).cz;go_enter Tryz.func103,Tryz.ntmps103
  go_wp2_with fail
  rw[←hW];clear hW;go_wp2_with fail
  with_reducible refine(plain_q zo true HP).mono ?_
  rintro e w1 ⟨rfl,q⟩;replace q:=zq (a:=W) q;replace Bz:=bT Bz q;clear q;clear pa0 pa1 pa2 pa3 pa4 pa5 pa6 pa7 pa8 pa9 paa pab pac;obtain⟨-,pa1,pa2,-,-,-,-,-,-,-,-,-,pac,-⟩:=(zx HX0 Bz).cz;go_upto_region 4 with(fail)
  obtain⟨V1,hW,x2,hN⟩:=zAb w1 #[.int .i64 0] 3;rw[←hW];clear hW;obtain⟨v2,hb2⟩:=ze w1.heap.size;rw[←hb2] at x2 ⊢;have o0_2:w.heap.size<v2:=zi (zx HX0 Bz).lt;have o1_2:w.heap.size+1<v2:=zi (zx HX1 Bz).lt;have ow_2:w.heap.size≤v2:=zi (zw hB Bz);replace hB:=bT (bT hB Bz) hN;replace HX0:=zba HX0 Bz hN;replace HX1:=zba HX1 Bz hN;have HX2:=zh x2;clear x2 hN Bz hb2;have Bz:=zr V1;clear pa1 pa2 pac;have pac:=(zx HX0 Bz).cell 12 (.slice y.gA y.gn y.gc) rfl;go_wp2_with fail
  with_reducible refine(all_groups (w0:=w) (bT hB (bT (b:=V1) Bz)) h.groups h.gok (by  omega) (by  omega) (HX2.out.below (bT Bz)) (HX1.out.below (bT Bz)) (by  omega) (by  omega) (by  omega) false HR).mono ?_
  rintro e w2 ⟨rfl,x2,ch2⟩;replace ch2:=(Ch.of_below (w:=V1) (by go_grown)).trans ch2;replace hB:=(bT hB Bz).trans (ch2.below zo (zi (zw hB Bz)));replace HX0:=zh (ch2.bx (zx HX0 Bz) zo);replace HX1:=zh (ch2.bx (zx HX1 Bz) zo);clear HX2;clear ch2 Bz;have Bz:=zr w2;clear pac;go_wp2_with fail
  go_ret3
  have hF:=bT (c:=w2) hB Bz;exact⟨by rw[HA.out];rfl,bT hF⟩
theorem pool_OK {w:World} {m:Nat} {y:Ly} {n:Int} (h:LyOk w m y) (hl:y.rn≤100000∧y.bn≤100000∧y.kn≤100000∧y.gn≤100000) (HP:Hid (plainB y=true)) (g1:¬0<y.rn) (g2:¬0<y.bn) (g3:((y.gn:Int)==0)=false) (HR:Hid ((y.groups.all fun v=>groupB n v)=true)) (HA:Hid (poolF y n=some ((y.gn:Int),(glens y.groups:Int)))) :
  Calls Tryz.prog 103 #[.agg #[.int .u8 y.kind,.slice y.rA y.rn y.rc,.slice y.bA y.bn y.bc,.int .i64 y.ch,.int .i64 y.high,.int .i64 y.wide,.int .i64 y.out,.int .i64 y.kh,.int .i64 y.kw,.int .i64 y.st,.int .i64 y.pad,.slice y.kA y.kn y.kc,.slice y.gA y.gn y.gc],.int .i64 n] w (TellsB w (poolF y n)):=by
  obtain⟨W,hW,x0,x1,hB⟩:=zAh w #[.int .u8 y.kind,.slice y.rA y.rn y.rc,.slice y.bA y.bn y.bc,.int .i64 y.ch,.int .i64 y.high,.int .i64 y.wide,.int .i64 y.out,.int .i64 y.kh,.int .i64 y.kw,.int .i64 y.st,.int .i64 y.pad,.slice y.kA y.kn y.kc,.slice y.gA y.gn y.gc] 55 #[.int .i64 n] 3;have HX0:=zh x0;have HX1:=zh x1;clear x0 x1;have Bz:=zr W;obtain⟨pa0,pa1,pa2,pa3,pa4,pa5,pa6,pa7,pa8,pa9,paa,pab,pac,-⟩:=(zx HX0 Bz).cz;go_enter Tryz.func103,Tryz.ntmps103
  go_wp2_with fail
  rw[←hW];clear hW;go_wp2_with fail
  with_reducible refine(plain_q zo true HP).mono ?_
  rintro e w1 ⟨rfl,q⟩;replace q:=zq (a:=W) q;replace Bz:=bT Bz q;clear q;clear pa0 pa1 pa2 pa3 pa4 pa5 pa6 pa7 pa8 pa9 paa pab pac;obtain⟨-,pa1,pa2,-,-,-,-,-,-,-,-,-,pac,-⟩:=(zx HX0 Bz).cz;go_upto_region 4 with(fail)
  obtain⟨V1,hW,x2,hN⟩:=zAb w1 #[.int .i64 0] 3;rw[←hW];clear hW;obtain⟨v2,hb2⟩:=ze w1.heap.size;rw[←hb2] at x2 ⊢;have o0_2:w.heap.size<v2:=zi (zx HX0 Bz).lt;have o1_2:w.heap.size+1<v2:=zi (zx HX1 Bz).lt;have ow_2:w.heap.size≤v2:=zi (zw hB Bz);replace hB:=bT (bT hB Bz) hN;replace HX0:=zba HX0 Bz hN;replace HX1:=zba HX1 Bz hN;have HX2:=zh x2;clear x2 hN Bz hb2;have Bz:=zr V1;clear pa1 pa2 pac;have pac:=(zx HX0 Bz).cell 12 (.slice y.gA y.gn y.gc) rfl;go_wp2_with fail
  with_reducible refine(all_groups (w0:=w) (bT hB (bT (b:=V1) Bz)) h.groups h.gok (by  omega) (by  omega) (HX2.out.below (bT Bz)) (HX1.out.below (bT Bz)) (by  omega) (by  omega) (by  omega) true HR).mono ?_
  rintro e w2 ⟨rfl,x2,ch2⟩;replace ch2:=(Ch.of_below (w:=V1) (by go_grown)).trans ch2;replace hB:=(bT hB Bz).trans (ch2.below zo (zi (zw hB Bz)));replace HX0:=zh (ch2.bx (zx HX0 Bz) zo);replace HX1:=zh (ch2.bx (zx HX1 Bz) zo);replace HX2:=zh (x2 rfl);clear ch2 Bz;have Bz:=zr w2;clear pac;have pac:=(zx HX0 Bz).cell 12 (.slice y.gA y.gn y.gc) rfl;have pc0:=(zx HX2 Bz).cell 0 (.int .i64 (0+(glens y.groups:Int))) rfl;go_wp2_with fail
  (try simp only[vAa,vBa,vC])
  refine zl (zz [0,1,2,3,4,5,6] .done) [] (zsa pac (zIa pc0)) ?_;iterate 7 (refine zUa ?_;try simp only[Act.put,uX,uY,uZ])
  refine wpPlan_done ?_;go_wp2_with fail
  go_ret3
  have hF:=bT (c:=w2) hB Bz;exact⟨by rw[HA.out];simp,bT hF⟩
theorem pool_q {w:World} {m:Nat} {y:Ly} {n:Int} (h:LyOk w m y) :
  Calls Tryz.prog 103 #[.agg #[.int .u8 y.kind,.slice y.rA y.rn y.rc,.slice y.bA y.bn y.bc,.int .i64 y.ch,.int .i64 y.high,.int .i64 y.wide,.int .i64 y.out,.int .i64 y.kh,.int .i64 y.kw,.int .i64 y.st,.int .i64 y.pad,.slice y.kA y.kn y.kc,.slice y.gA y.gn y.gc],.int .i64 n] w (TellsB w (poolF y n)):=by
 have hl:=h.lens;cases h1:plainB y
 ·exact pool_W1 h hl (zh h1) (zh (by unfold poolF;rw[bB h1]))
 ·have e1:¬plainB y=false:=by rw[h1];simp
  by_cases h2:0<y.rn
  ·exact pool_W2 h hl (zh h1) h2 (zh (by unfold poolF;rw[dA e1,bB h2]))
  ·by_cases h3:0<y.bn
   ·exact pool_W3 h hl (zh h1) h2 h3 (zh (by unfold poolF;rw[dA e1,dA h2,bB h3]))
   ·by_cases h4:y.gn=0
    ·exact pool_W4 h hl (zh h1) h2 h3 (by simp;omega) (zh (by unfold poolF;rw[dA e1,dA h2,dA h3,bB h4]))
    ·cases h5:(y.groups.all fun v=>groupB n v)
     ·exact pool_W5 h hl (zh h1) h2 h3 (by simp;omega) (zh h5) (zh (by unfold poolF;rw[dA e1,dA h2,dA h3,dA h4,bB h5]))
     ·exact pool_OK h hl (zh h1) h2 h3 (by simp;omega) (zh h5) (zh (by unfold poolF;rw[dA e1,dA h2,dA h3,dA h4,dA (by rw[h5];simp)]))
structure Elt {α:Type} (f:α→List Value) (k:Nat) (t te:TypeId):Prop where
 ut:Tryz.prog.underlying t=some (.slice te)
 info:∃i z,Tryz.prog.info? te=some i∧i.zero=some z∧i.size=k∧i.bytes≤1000∧z.cells.size=k∧NoU z.cells
 len:∀x,(f x).length=k
 one:∀x,∀u∈f x,u.oneCell'=true
 nou:∀x,∀u∈f x,∀n,u≠.int .u64 n
section
variable {α:Type} {f:α→List Value} {k:Nat} {t te:TypeId}
theorem Elt.run (E:Elt f k t te) (ty:TypeId) {w:World} {base:Nat} {v:Value} {n:Nat} {L:List α} (hown:OwnR w base te k v n (flat f L)) (x:Value) (m:Nat) (M:List α) (hs:From w k x m (flat f M)) (hn:n+m≤100000000000) (hbase:base≤w.heap.size) :
  ∃H c w',(Builtin.append_ #[t,t] ty #[v,x]).run Tryz.prog w=.ok (.slice H (n+m) c) w'∧OwnR w' base te k (.slice H (n+m) c) (n+m) (flat f (L++M))∧Grew w w' v (.slice H (n+m) c):=by
 obtain⟨i,z,h1,h2,h3,h4,h5,h6⟩:=E.info;have hmem:∀u∈flat f M,∃y∈M,u∈f y:=fun u hu=>flat_mem hu;obtain⟨v',w',hr,ho,hg⟩:=run_append_all (P:=Tryz.prog) w base t ty te i z k i.bytes E.ut h1 h2 h3 rfl h5 h6 v n (flat f L) hown x m (flat f M) hs (fun u hu=>by obtain⟨y,_,hy⟩:=hmem u hu;exact E.one y u hy) (fun u hu=>by obtain⟨y,_,hy⟩:=hmem u hu;exact E.nou y u hy) (by unfold maxLen;omega)
  (wA (xE hn h4) zo) hbase
 rw[←flat_append] at ho;obtain⟨H,c,rfl,_⟩:=ho.slice;exact⟨H,c,w',hr,ho,hg⟩
theorem Elt.wp (E:Elt f k t te) {w:World} {o:Oper} {a:Act} {K:Act→World→Prop} {Q:Exit→Act→World→Prop} (s x:Operand) (ho:o.op=.call { callee:=.builtin .append,args:=#[s,x],argTypes:=#[t,t] })
  (base:Nat) (v:Value) (n:Nat) (L:List α) (hs:a.eval s=v) (hown:OwnR w base te k v n (flat f L)) (xv:Value) (m:Nat) (M:List α) (hx:a.eval x=xv) (hf:From w k xv m (flat f M)) (hn:n+m≤100000000000) (hbase:base≤w.heap.size)
  (h:∀H c w',OwnR w' base te k (.slice H (n+m) c) (n+m) (flat f (L++M))→Grew w w' v (.slice H (n+m) c)→K (a.put o.dst (.slice H (n+m) c)) w'):o.wp Tryz.prog a w K Q:=by
 obtain⟨H,c,w',hr,h2,h3⟩:=E.run o.type hown xv m M hf hn hbase;unfold Oper.wp execOp
 simp only[ho,resolve,invoke,builtin,Sem.run_bind,Sem.run_pure,Result.andThen_ok,List.map_toArray,fG,List.map_nil,hs,hx,hr]
 exact h H c w' h2 h3
theorem Elt.app (E:Elt f k t te) {w:World} {ops:Array Oper} {rest:List Oper} {o:Oper} {a:Act} {Q:Exit→Act→World→Prop} (hgd:o.guard=none) (s x:Operand) (ho:o.op=.call { callee:=.builtin .append,args:=#[s,x],argTypes:=#[t,t] })
  (base:Nat) (v:Value) (n:Nat) (L:List α) (hs:a.eval s=v) (hown:OwnR w base te k v n (flat f L)) (xv:Value) (m:Nat) (M:List α) (hx:a.eval x=xv) (hf:From w k xv m (flat f M)) (hn:n+m≤100000000000) (hbase:base≤w.heap.size)
  (h:∀H c w',OwnR w' base te k (.slice H (n+m) c) (n+m) (flat f (L++M))→Grew w w' v (.slice H (n+m) c)→wpList Tryz.prog ops Q rest (a.put o.dst (.slice H (n+m) c)) w'):wpList Tryz.prog ops Q (o :: rest) a w :=
 wpList_plain hgd fun _ hK=>E.wp s x ho base v n L hs hown xv m M hx hf hn hbase fun H c w' h2 h3=>hK _ _ (h H c w' h2 h3)
theorem From.one {w:World} {b:Nat} {cs:Array Value} {te:TypeId} (h:Bx w b cs te) (x:α) (hx:cs.toList=f x) (hk:(f x).length=k):From w k (.slice (some ⟨b,0,none⟩) 1 1) 1 (flat f [x]):=by
 rw[flat_one];refine⟨zo,_,_,rfl,(fun h=>(by cases h)),fun a ha j u hu=>?_⟩;cases ha;rw[add_off,mC];refine h.cell j u ?_;rw[←hx] at hu;simpa using hu
theorem OwnR.lit1 (E:Elt f k t te) {w:World} {b B:Nat} {cs:Array Value} (h:Bx w b cs te) (hB:B≤b) (x:α) (hx:cs.toList=f x):OwnR w B te k (.slice (some ⟨b,0,none⟩) 1 1) 1 (flat f [x]):=by
 have hl:cs.size=k:=by rw[←E.len x,←hx];simp
 rw[flat_one];refine⟨by rw[E.len];omega,.inr ⟨b,1,cs,rfl,hB,h,aA _,by unfold maxLen;omega,zo,?_,fun u hu n=>E.nou x u (by rw[←hx];simpa using hu) n⟩⟩;rw[←hx,fA (by simp;omega)]
theorem OwnR.off {w:World} {B b n size:Nat} {e:TypeId} {v:Value} {xs:List Value} (ho:OwnR w B e size v n xs) (hb:b<B):some b≠v.ownBlock:=fun h=>by have:=ho.base b h.symm;omega
theorem OwnR.off' {w:World} {B b n size:Nat} {e:TypeId} {v:Value} {xs:List Value} (ho:OwnR w B e size v n xs) (hb:w.heap.size≤b):some b≠v.ownBlock:=fun h=>by have:=ho.lt b h.symm;omega
theorem OwnR.sl' (_E:Elt f k t te) {w:World} {B n:Nat} {H:Option Addr} {cap:Nat} {L:List α} (ho:OwnR w B te k (.slice H n cap) n (flat f L)) (hl:L.length=n):Sl f k w H n cap L:=⟨hl,ho.from_⟩
theorem OwnR.grown {w w':World} {B n size:Nat} {e:TypeId} {v v2 v2':Value} {xs:List Value} (ho:OwnR w B e size v n xs) (hg:Grew w w' v2 v2') (hne:v.ownBlock=none∨v.ownBlock≠v2.ownBlock):OwnR w' B e size v n xs:=ho.kept hg.by_ hne
end
theorem Elt.of {α:Type} {f:α→List Value} {k:Nat} {t te:TypeId} (z:Value) (by_:Nat) (ut:Tryz.prog.underlying t=some (.slice te)) (hi:(Tryz.prog.info? te).map (fun i=>(i.zero,i.size,i.bytes))=some (some z,k,by_)) (hb:by_≤1000) (hz:z.cells.size=k) (hn:NoU z.cells)
  (len:∀x,(f x).length=k) (one:∀x,∀u∈f x,u.oneCell'=true) (nou:∀x,∀u∈f x,∀n,u≠.int .u64 n):Elt f k t te:=by
 cases h:Tryz.prog.info? te with
 | none=>rw[h] at hi;cases hi
 | some i =>
  rw[h] at hi;simp only[vE,Option.some.injEq,Prod.mk.injEq] at hi
  exact⟨ut,⟨i,z,h,hi.1,hi.2.1,by rw[hi.2.2];exact hb,hz,hn⟩,len,one,nou⟩
theorem nou_list {z:Array Value} (h:z.toList.all (fun u=>match u with | .int .u64 _=>false | _=>true)=true):NoU z:=fun u hu n e=>by
 have:=sB.1 h u (by simpa using hu);rw[e] at this;cases this
theorem elt_int:Elt ics 1 27 3:=Elt.of (.int .i64 0) 8 Tryz.underlying27 (by kernel_rfl) zo (by kernel_rfl) (nou_list (by kernel_rfl)) ics_len (fun x u hu=>by simp[ics] at hu;subst hu;rfl) (fun x u hu n=>by simp[ics] at hu;subst hu;simp)
theorem elt_rat:Elt Fr.cs 4 25 47:=Elt.of (.agg #[.bool false,.slice none 0 0,.bool false,.slice none 0 0]) 64 Tryz.underlying25 (by kernel_rfl) zo (by kernel_rfl) (nou_list (by kernel_rfl)) Fr.cs_len
 (fun x u hu=>by simp[Fr.cs] at hu;rcases hu with rfl | rfl | rfl | rfl<;>rfl) (fun x u hu n=>by simp[Fr.cs] at hu;rcases hu with rfl | rfl | rfl | rfl<;>simp)
def shortFr (most:Int) (x:Fr):Bool:=decide ((x.l:Int)≤most)&&decide ((x.l':Int)≤most)
def shortFrs (cnt most:Int) (n:Nat) (L:List Fr):Bool:=decide ((n:Int)≤cnt)&&L.all (shortFr most)
def shortVc (cnt most:Int) (v:Vc):Bool:=decide ((v.n:Int)≤cnt)&&v.L.all (fun t=>shortFr most t.x)
def shortVcs (cols cnt most:Int) (n:Nat) (L:List Vc):Bool:=decide ((n:Int)≤cols)&&L.all (shortVc cnt most)
def setsL (xs:List Value) (base:Nat):List (Nat×Value)→List Value
 | []=>xs
 | (j,v) :: r=>setsL (xs.set (base+j) v) base r
def setsW (w:World) (g base:Nat):List (Nat×Value)→World
 | []=>w
 | (j,v) :: r=>setsW (w.setCell ⟨g,base+j,none⟩ v) g base r
def setsA (a:Array Value) (base:Nat):List (Nat×Value)→Array Value
 | []=>a
 | (j,v) :: r=>setsA (a.setIfInBounds (base+j) v) base r
theorem setsA_size (vs:List (Nat×Value)):∀(a:Array Value) (base:Nat),(setsA a base vs).size=a.size:=by
 induction vs with
 | nil=>intro a base;rfl
 | cons p r ih=>intro a base;obtain⟨j,v⟩:=p;unfold setsA;rw[ih];simp
theorem setsA_list (vs:List (Nat×Value)):∀(a:Array Value) (base m:Nat),(∀p∈vs,base+p.1<m)→(setsA a base vs).toList.take m=setsL (a.toList.take m) base vs:=by
 induction vs with
 | nil=>intro a base m _;rfl
 | cons p r ih =>
  intro a base m h;obtain⟨j,v⟩:=p;unfold setsA setsL
  rw[ih _ _ _ fun p hp=>h p (jB _ hp),Array.toList_setIfInBounds,List.take_set]
theorem setsL_mid (vs:List (Nat×Value)):∀(A B C:List Value),(∀p∈vs,p.1<B.length)→setsL (A++B++C) A.length vs=A++setsL B 0 vs++C:=by
 induction vs with
 | nil=>intro A B C _;rfl
 | cons p r ih =>
  intro A B C h;obtain⟨j,v⟩:=p;have hj:j<B.length:=h (j,v) kB;unfold setsL
  have e:(A++B++C).set (A.length+j) v=A++B.set (0+j) v++C:=by
   rw[rE,List.set_append_right _ _ zo,Nat.add_sub_cancel_left,List.set_append_left _ _ hj,mC,rE]
  rw[e];exact ih A (B.set (0+j) v) C fun p hp=>by rw[nC];exact h p (jB _ hp)
theorem flat_sets {α:Type} {f:α→List Value} {k:Nat} (hk:∀x,(f x).length=k) {L:List α} {i:Nat} {x y:α} (hx:L[i]?=some x) (vs:List (Nat×Value)) (hv:∀p∈vs,p.1<k) (hy:setsL (f x) 0 vs=f y):setsL (flat f L) (i*k) vs=flat f (L.set i y):=by
 have hi:i<L.length:=(dC.1 hx).1;have e1:L=L.take i++x :: L.drop (i+1):=by
  have h1:=mD i L;rw[fD hi] at h1;rw[(dC.1 hx).2] at h1;exact h1.symm
 have e2:L.set i y=L.take i++y :: L.drop (i+1):=by rw[List.set_eq_take_append_cons_drop,bB hi]
 have hl:(flat f (L.take i)).length=i*k:=by rw[flat_len hk,mB,sC zo]
 have e3:∀(z:α),flat f (L.take i++z :: L.drop (i+1))=flat f (L.take i)++f z++flat f (L.drop (i+1)):=fun z=>by simp[flat]
 rw[e2,e3,←hy,←setsL_mid vs _ _ _ (by rw[hk];exact hv),hl,←e3,←e1]
theorem Bx.sets {t:TypeId} (vs:List (Nat×Value)):∀{w:World} {g:Nat} {cur:Array Value} (base:Nat),Bx w g cur t→Bx (setsW w g base vs) g (setsA cur base vs) t:=by
 induction vs with
 | nil=>intro w g cur base h;exact h
 | cons p r ih=>intro w g cur base h;obtain⟨j,v⟩:=p;exact ih base (h.set _ v)
theorem NoU.set' {arr:Array Value} {v:Value} (h:NoU arr) (i:Nat) (hv:∀n,v≠.int .u64 n):NoU (arr.setIfInBounds i v):=fun u hu n=>by
 rcases Array.mem_or_eq_of_mem_setIfInBounds hu with h1 | rfl
 ·exact h u h1 n
 ·exact hv n
theorem NoU.sets (vs:List (Nat×Value)) (hv:∀p∈vs,∀n,p.2≠.int .u64 n):∀{cur:Array Value} (base:Nat),NoU cur→NoU (setsA cur base vs):=by
 induction vs with
 | nil=>intro cur base h;exact h
 | cons p r ih=>intro cur base h;obtain⟨j,v⟩:=p;exact ih (fun p hp=>hv p (jB _ hp)) base (h.set' _ (hv (j,v) kB))
theorem grownBy_refl' (w:World) (row:Option Nat):w.grownBy w row:=⟨rfl,rfl,rfl,aA _,fun _ _ _=>rfl⟩
theorem grownBy_sets (vs:List (Nat×Value)):∀{w w':World} {g:Nat} (base:Nat),w.grownBy w' (some g)→w.grownBy (setsW w' g base vs) (some g):=by
 induction vs with
 | nil=>intro w w' g base h;exact h
 | cons p r ih=>intro w w' g base h;obtain⟨j,v⟩:=p;exact ih base (grown_set h (.inl rfl) v)
theorem K64.sets {t:TypeId} (vs:List (Nat×Value)) (hv:∀p∈vs,∀n,p.2≠.int .u64 n):∀{w:World} {g:Nat} {cur:Array Value} (base:Nat),Bx w g cur t→NoU cur→(∀p∈vs,base+p.1<cur.size)→K64 w (setsW w g base vs):=by
 induction vs with
 | nil=>intro w g cur base _ _ _;exact fun p n hp=>hp
 | cons p r ih =>
  intro w g cur base h hn hl;obtain⟨j,v⟩:=p;have hj:base+j<cur.size:=hl (j,v) kB;refine K64.trans (K64.set (u:=cur[base+j]'hj) (h.cell _ _ (nD hj)) (fun n=>hn _ (Array.getElem_mem hj) n) v) ?_;exact ih (fun p hp=>hv p (jB _ hp)) base (h.set _ v) (hn.set' _ (hv (j,v) kB)) fun p hp=>by simpa using hl p (jB _ hp)
section
variable {α:Type} {f:α→List Value} {k:Nat} {t te:TypeId}
theorem Elt.sets (E:Elt f k t te) {w:World} {B g n cap:Nat} {L:List α} (h:OwnR w B te k (.slice (some ⟨g,0,none⟩) n cap) n (flat f L)) {i:Nat} {x y:α} (hx:L[i]?=some x) (vs:List (Nat×Value)) (hv:∀p∈vs,p.1<k∧∀m,p.2≠.int .u64 m) (hy:setsL (f x) 0 vs=f y) :
  OwnR (setsW w g (i*k) vs) B te k (.slice (some ⟨g,0,none⟩) n cap) n (flat f (L.set i y))∧Grew w (setsW w g (i*k) vs) (.slice (some ⟨g,0,none⟩) n cap) (.slice (some ⟨g,0,none⟩) n cap):=by
 obtain⟨h1,⟨h2,_⟩ | ⟨g',cap',cur,h2,h3,h4,h5,h6,h7,h8,h9⟩⟩:=h
 ·cases h2
 ·cases h2;have hl:L.length=n∨k=0:=by
   rw[flat_len E.len] at h1;rcases qC k with hk | hk
   ·exact .inr hk
   ·exact .inl (Nat.eq_of_mul_eq_mul_right hk h1)
  have hi:i<L.length:=(dC.1 hx).1;have hb:∀p∈vs,i*k+p.1<n*k:=fun p hp=>by
   have hp1:=(hv p hp).1;have hn:L.length=n:=by
    rcases hl with h | h
    ·exact h
    ·omega
   calc i*k+p.1<i*k+k:=zo
    _=(i+1)*k:=by rw[xB,fE]
    _≤n*k:=fB _ zo
  have hb2:∀p∈vs,i*k+p.1<cur.size:=fun p hp=>by
   have:=hb p hp;have h10:=fB k h5;omega
  refine⟨⟨by rw[flat_len E.len,nC,←flat_len E.len];exact h1,.inr ⟨_,_,setsA cur (i*k) vs,rfl,h3,h4.sets vs _,h5,h6,by rw[setsA_size];exact h7,?_,h9.sets vs (fun p hp=>(hv p hp).2) _⟩⟩,⟨grownBy_sets vs _ (grownBy_refl' w _),K64.sets vs (fun p hp=>(hv p hp).2) _ h4 h9 hb2,.inl rfl⟩⟩;rw[setsA_list vs _ _ _ hb,h8,flat_sets E.len hx vs (fun p hp=>(hv p hp).1) hy]
theorem Elt.cell (E:Elt f k t te) {w:World} {B g n cap:Nat} {L:List α} (h:OwnR w B te k (.slice (some ⟨g,0,none⟩) n cap) n (flat f L)) {i:Nat} {x:α} (hx:L[i]?=some x) {j:Nat} {u:Value} (hj:j<k) (hu:(f x)[j]?=some u):w.cell? ⟨g,i*k+j,none⟩=some u :=
 h.cell (by rw[flat_get E.len L i x hx j hj];exact hu)
theorem OwnR.frozen {w:World} {B g n cap k:Nat} {te:TypeId} {xs:List Value} (h:OwnR w B te k (.slice (some ⟨g,0,none⟩) n cap) n xs) (j:Nat):w.frozen? ⟨g,j,none⟩=false:=by
 obtain⟨h1,⟨h2,_⟩ | ⟨g',cap',cur,h2,h3,h4,_⟩⟩:=h
 ·cases h2
 ·cases h2;exact h4.frozen j
theorem OwnR.blk {w:World} {B g n cap k:Nat} {te:TypeId} {xs:List Value} (h:OwnR w B te k (.slice (some ⟨g,0,none⟩) n cap) n xs):g<w.heap.size∧B≤g:=⟨h.lt g rfl,h.base g rfl⟩
theorem OwnR.cap {w:World} {B n cap k:Nat} {A:Option Addr} {te:TypeId} {xs:List Value} (h:OwnR w B te k (.slice A n cap) n xs):n≤cap∧cap≤maxLen:=by
 obtain⟨H,c,e,_,_,h1,h2⟩:=h.slice;cases e;exact⟨h1,h2⟩
theorem Elt.take (E:Elt f k t te) {w:World} {B n cap:Nat} {A:Option Addr} {L:List α} (h:OwnR w B te k (.slice A n cap) n (flat f L)) {q:Nat} (hq:q≤n):OwnR w B te k (.slice A q cap) q (flat f (L.take q)):=by
 obtain⟨h1,⟨h2,rfl⟩ | ⟨g',cap',cur,h2,h3,h4,h5,h6,h7,h8,h9⟩⟩:=h
 ·cases h2;obtain rfl:q=0:=zo;exact OwnR.nil w B te k
 ·cases h2;rw[←flat_take E.len];refine⟨by rw[mB,h1,sC (fB _ hq)],.inr ⟨g',_,cur,rfl,h3,h4,zo,h6,h7,?_,h9⟩⟩;rw[←h8,List.take_take,sC (fB _ hq)]
theorem OwnR.eltn (E:Elt f k t te) (h0:0<k) {w:World} {B n:Nat} {v:Value} {L:List α} (h:OwnR w B te k v n (flat f L)):L.length=n:=by
 have:=h.1;rw[flat_len E.len] at this;exact Nat.eq_of_mul_eq_mul_right h0 this
theorem OwnR.some {w:World} {B n cap k:Nat} {A:Option Addr} {te:TypeId} {xs:List Value} (h:OwnR w B te k (.slice A n cap) n xs) (hn:0<n):∃g,A=.some ⟨g,0,none⟩:=by
 obtain⟨H,c,e,h1,h2,_⟩:=h.slice;cases e;cases A with
 | none=>have:=(h1 rfl).1;omega
 | some a=>obtain⟨g,rfl⟩:=h2 a rfl;exact⟨g,rfl⟩
end
def All2 {α β:Type} (R:α→β→Prop) (L:List α) (D:List β):Prop:=L.length=D.length∧∀(i:Nat) x d,L[i]?=some x→D[i]?=some d→R x d
theorem All2.nil {α β:Type} {R:α→β→Prop}:All2 R [] []:=⟨rfl,fun i x d h=>by rw[List.getElem?_nil] at h;cases h⟩
theorem All2.mono {α β:Type} {R S:α→β→Prop} {L:List α} {D:List β} (h:All2 R L D) (hi:∀x d,R x d→S x d):All2 S L D:=⟨h.1,fun i x d hx hd=>hi x d (h.2 i x d hx hd)⟩
theorem All2.snoc {α β:Type} {R:α→β→Prop} {L:List α} {D:List β} {x:α} {d:β} (h:All2 R L D) (hx:R x d):All2 R (L++[x]) (D++[d]):=by
 refine⟨by rw[eD,eD,h.1];rfl,fun i y e hy he=>?_⟩;rcases eB i L.length with hi | hi
 ·rw[bF hi] at hy;rw[bF (by rw[←h.1];exact hi)] at he;exact h.2 i y e hy he
 ·rw[kD hi,List.getElem?_singleton] at hy;rw[kD (by rw[←h.1];exact hi),←h.1,List.getElem?_singleton] at he;split at hy
  ·rename_i h0
   rw[bB h0] at he;cases hy;cases he;exact hx
  ·cases hy
theorem All2.take {α β:Type} {R:α→β→Prop} {L:List α} {D:List β} {i:Nat} {x:α} {d:β} (h:All2 R L (D.take i)) (hd:D[i]?=some d) (hx:R x d):All2 R (L++[x]) (D.take (i+1)):=by
 rw[zAi hd];exact h.snoc hx
theorem All2.of {α β:Type} {R:α→β→Prop}:∀{L:List α},(∀x∈L,∃d,R x d)→∃D,All2 R L D
 | [],_=>⟨[],All2.nil⟩
 | x :: L,h=>by
  obtain⟨d,hd⟩:=h x kB;obtain⟨D,hD⟩:=All2.of (L:=L) fun y hy=>h y (jB _ hy);refine⟨d :: D,by rw[cC,cC,hD.1],fun i y e hy he=>?_⟩;cases i with
  | zero=>cases hy;cases he;exact hd
  | succ i=>exact hD.2 i y e (by simpa using hy) (by simpa using he)
theorem All2.has {α β:Type} {R:α→β→Prop} {L:List α} {D:List β} (h:All2 R L D) {i:Nat} (hi:i<L.length):∃x d,L[i]?=some x∧D[i]?=some d∧R x d :=
 ⟨_,_,cA hi,cA (by rw[←h.1];exact hi),h.2 i _ _ (cA hi) (cA (by rw[←h.1];exact hi))⟩
structure Rob (w:World) (s e:Nat) (P:World→Prop):Prop where
 le:e≤w.heap.size
 on:∀w',K64 w w'→(∀b j,s≤b→b<e→w'.cell? ⟨b,j,none⟩=w.cell? ⟨b,j,none⟩)→P w'
section
variable {w w':World} {s e:Nat} {P Q:World→Prop}
theorem Rob.here (h:Rob w s e P):P w:=h.on w (K64.refl w) fun _ _ _ _=>rfl
theorem Rob.below (h:Rob w s e P) (hb:Below w.heap.size w w':=by go_grown):Rob w' s e P :=
 ⟨wA h.le hb.size,fun v hk hc=>h.on v ((K64.below hb).trans hk) fun b j h1 h2=>(hc b j h1 h2).trans (hb.cell (p:=⟨b,j,none⟩) (gC h2 h.le))⟩
theorem Rob.off {b:Nat} (h:Rob w s e P) (ho:∀(k j:Nat),k≠b→w'.cell? ⟨k,j,none⟩=w.cell? ⟨k,j,none⟩) (hk:K64 w w') (hz:w.heap.size≤w'.heap.size) (hn:b<s∨e≤b):Rob w' s e P :=
 ⟨wA h.le hz,fun v hk' hc=>h.on v (hk.trans hk') fun b' j h1 h2=>(hc b' j h1 h2).trans (ho b' j zo)⟩
theorem Rob.grow {X X':Value} (h:Rob w s e P) (hg:Grew w w' X X') (hn:∀g,X.ownBlock=some g→g<s∨e≤g):Rob w' s e P :=
 ⟨wA h.le hg.size,fun v hk hc=>h.on v (hg.k.trans hk) fun b j h1 h2=>(hc b j h1 h2).trans (World.cell?_of_block (hg.by_.block b (gC h2 h.le) (fun c=>by have:=hn b c.symm;omega)))⟩
theorem Rob.wide {s' e':Nat} (h:Rob w s e P) (hs:s'≤s) (he:e≤e') (hl:e'≤w.heap.size):Rob w s' e' P :=
 ⟨hl,fun v hk hc=>h.on v hk fun b j h1 h2=>hc b j zo zo⟩
theorem Rob.and (h:Rob w s e P) (k:Rob w s e Q):Rob w s e (fun u=>P u∧Q u):=⟨h.le,fun v hk hc=>⟨h.on v hk hc,k.on v hk hc⟩⟩
theorem Rob.imp (h:Rob w s e P) (hi:∀u,P u→Q u):Rob w s e Q:=⟨h.le,fun v hk hc=>hi v (h.on v hk hc)⟩
end
theorem Sl.rob {α:Type} {f:α→List Value} {k:Nat} {w:World} {n c s e:Nat} {A:Option Addr} {L:List α} (h:Sl f k w A n c L) (hA:∀a,A=some a→s≤a.block∧a.block<e) (he:e≤w.heap.size):Rob w s e (fun u=>Sl f k u A n c L):=by
 obtain⟨h1,h2,A',c',e',h3,h4⟩:=h;cases e';refine⟨he,fun v _ hc=>⟨h1,h2,A,c,rfl,h3,fun a ha j u hu=>?_⟩⟩;have h5:=h4 a ha j u hu;have h6:=World.cell?_spot h5;have h7:(a.add j).block=a.block:=by unfold Addr.add;split<;>rfl
 rw[←h5];have h8:a.add j=⟨a.block,(a.add j).off,none⟩:=by
  rw[←h7,←h6]
 rw[h8];exact hc _ _ (hA a ha).1 (hA a ha).2
def LR1 {α β:Type} (R:World→α→β→Prop) (w:World) (X:Value) (b:Nat) (x:α) (d:β):Prop:=∃s e,b≤s∧(∀g,X.ownBlock=some g→g<s∨e≤g)∧Rob w s e (fun u=>R u x d)
def LR {α β:Type} (R:World→α→β→Prop) (w:World) (X:Value) (b:Nat) (O:List α) (E:List β):Prop:=All2 (LR1 R w X b) O E
section
variable {α β:Type} {R:World→α→β→Prop} {w w':World} {X X':Value} {b:Nat} {O:List α} {E:List β} {x:α} {d:β}
theorem LR1.below (h:LR1 R w X b x d) (hb:Below w.heap.size w w':=by go_grown):LR1 R w' X b x d:=by
 obtain⟨s,e,h1,h2,h3⟩:=h;exact⟨s,e,h1,h2,h3.below hb⟩
theorem LR1.grow (h:LR1 R w X b x d) (hg:Grew w w' X X'):LR1 R w' X' b x d:=by
 obtain⟨s,e,h1,h2,h3⟩:=h;refine⟨s,e,h1,fun g hg'=>?_,h3.grow hg h2⟩;rcases hg.new with e1 | ⟨g1,e1,hg1⟩
 ·exact h2 g (e1 ▸ hg')
 ·rw[e1] at hg';cases hg';exact .inr (wA h3.le hg1)
theorem LR1.off {b':Nat} (h:LR1 R w X b x d) (ho:∀(k j:Nat),k≠b'→w'.cell? ⟨k,j,none⟩=w.cell? ⟨k,j,none⟩) (hk:K64 w w') (hz:w.heap.size≤w'.heap.size) (hn:b'<b):LR1 R w' X b x d:=by
 obtain⟨s,e,h1,h2,h3⟩:=h;exact⟨s,e,h1,h2,h3.off ho hk hz (.inl zo)⟩
theorem LR.below (h:LR R w X b O E) (hb:Below w.heap.size w w':=by go_grown):LR R w' X b O E:=All2.mono h fun _ _ hx=>LR1.below hx hb
theorem LR.grow (h:LR R w X b O E) (hg:Grew w w' X X'):LR R w' X' b O E:=All2.mono h fun _ _ hx=>LR1.grow hx hg
theorem LR.off {b':Nat} (h:LR R w X b O E) (ho:∀(k j:Nat),k≠b'→w'.cell? ⟨k,j,none⟩=w.cell? ⟨k,j,none⟩) (hk:K64 w w') (hz:w.heap.size≤w'.heap.size) (hn:b'<b):LR R w' X b O E:=All2.mono h fun _ _ hx=>LR1.off hx ho hk hz hn
theorem LR.nil:LR R w X b [] ([]:List β):=All2.nil
theorem LR.rob (h:LR R w X b O E):Rob w b w.heap.size (fun u=>All2 (R u) O E) :=
 ⟨aA _,fun v hk hc=>⟨h.1,fun i y e hy he=>by
  obtain⟨s,t,h1,_,h3⟩:=h.2 i y e hy he;exact h3.on v hk fun b' j h4 h5=>hc b' j zo (gC h5 h3.le)⟩⟩
end
theorem OwnR.rob {α:Type} {f:α→List Value} {k:Nat} {t te:TypeId} (E:Elt f k t te) {w:World} {B n:Nat} {H:Option Addr} {cap:Nat} {L:List α} (ho:OwnR w B te k (.slice H n cap) n (flat f L)) (hl:L.length=n):Rob w B w.heap.size (fun u=>Sl f k u H n cap L) :=
 (ho.sl' E hl).rob (fun a ha=>by subst ha;exact⟨ho.base a.block rfl,ho.lt a.block rfl⟩) (aA _)
theorem sz_one {n d:Int} (hn:n.natAbs<18446744073709551616) (hd:0<d) (hd':d.natAbs<18446744073709551616):sz (qof n d)≤1:=by
 have:=sz_qof (n:=n) (d:=d) (a:=1) (b:=1) hd (nl_le_of_lt (by rw[Nat.pow_one];exact hn)) (nl_le_of_lt (by rw[Nat.pow_one];exact hd'));omega
def zFr:Fr:=⟨false,none,0,0,false,none,0,0,0,true⟩
theorem RN.zero (w:World):RN w false none 0 0 false none 0 0 0:=⟨J.zero w,J.zero w⟩
theorem sz_zero:sz 0≤1:=by
 show max (nl 0) (nl 1)≤1
 rw[nl_zero,nl_one];decide
theorem zFr_ok (w:World) {m:Nat} (hm:1≤m):FrOk w m zFr:=(RN.zero w).fr (wA sz_zero hm)
theorem cell_off1 {w:World} {b b' i j:Nat} {u:Value} (h:b≠b'):(w.setCell ⟨b,i,none⟩ u).cell? ⟨b',j,none⟩=w.cell? ⟨b',j,none⟩ :=
 World.cell?_setCell_other _ _ _ _ (by intro e;cases e;exact h rfl)
def Ones (w:World) (L:List Fr):Prop:=∀x∈L,RN w x.s x.A x.c x.l x.s' x.A' x.c' x.l' x.q∧x.l≤800000000000∧x.l'≤800000000000
theorem Ones.below {w w':World} {L:List Fr} (h:Ones w L) (hb:Below w.heap.size w w':=by go_grown):Ones w' L:=fun x hx=>⟨(h x hx).1.below hb,(h x hx).2⟩
end Go.Proofs.YtiondclbdgijbaaGreatDoor
