/-
  Slices of structs as lists: what is read at a place; fractions and terms in memory.
-/
import Derived.Test.YtfgbiccpecldfaaDoorYApp
import Derived.Test.YtfgbiccpecldfaaDoorYWG
set_option maxHeartbeats 8000000
set_option maxRecDepth 100000
namespace Go.Proofs.YtfgbiccpecldfaaDoor
open Go.RowKit Tw
def ElA (w:World) (b off:Nat) (cs:List Value):Prop:=∀j u,cs[j]?=some u→w.cell? ⟨b,off+j,none⟩=some u
theorem ElA.below {w w':World} {b off:Nat} {cs:List Value} (h:ElA w b off cs) (hb:Below w.heap.size w w'):ElA w' b off cs:=fun j u hu=>(hb.cell (World.block_lt_of_cell? w _ (h j u hu))).trans (h j u hu)
theorem ElA.at {w:World} {b off:Nat} {cs:List Value} (h:ElA w b off cs) (j:Nat) (u:Value) (hu:cs[j]?=some u):w.cell? ⟨b,off+j,none⟩=some u:=h j u hu
theorem ElA.c0 {w:World} {b off:Nat} {cs:List Value} {u:Value} (h:ElA w b off cs) (hu:cs[0]?=some u):w.cell? ⟨b,off,none⟩=some u:=h 0 u hu
def Es (w:World) (b off:Nat):List Value→Prop
 | [a]=>w.cell? ⟨b,off,none⟩=some a∧True
 | [a,c]=>w.cell? ⟨b,off,none⟩=some a∧w.cell? ⟨b,off+1,none⟩=some c∧True
 | [a,c,d]=>w.cell? ⟨b,off,none⟩=some a∧w.cell? ⟨b,off+1,none⟩=some c∧w.cell? ⟨b,off+2,none⟩=some d∧True
 | [a,c,d,e]=>w.cell? ⟨b,off,none⟩=some a∧w.cell? ⟨b,off+1,none⟩=some c∧w.cell? ⟨b,off+2,none⟩=some d∧w.cell? ⟨b,off+3,none⟩=some e∧True
 | [a,c,d,e,f]=>w.cell? ⟨b,off,none⟩=some a∧w.cell? ⟨b,off+1,none⟩=some c∧w.cell? ⟨b,off+2,none⟩=some d∧w.cell? ⟨b,off+3,none⟩=some e∧w.cell? ⟨b,off+4,none⟩=some f∧True
 | [a,c,d,e,f,g]=>w.cell? ⟨b,off,none⟩=some a∧w.cell? ⟨b,off+1,none⟩=some c∧w.cell? ⟨b,off+2,none⟩=some d∧w.cell? ⟨b,off+3,none⟩=some e∧w.cell? ⟨b,off+4,none⟩=some f∧w.cell? ⟨b,off+5,none⟩=some g∧True
 | [a,c,d,e,f,g,i]=>w.cell? ⟨b,off,none⟩=some a∧w.cell? ⟨b,off+1,none⟩=some c∧w.cell? ⟨b,off+2,none⟩=some d∧w.cell? ⟨b,off+3,none⟩=some e∧w.cell? ⟨b,off+4,none⟩=some f∧w.cell? ⟨b,off+5,none⟩=some g∧w.cell? ⟨b,off+6,none⟩=some i∧True
 | [a,c,d,e,f,g,i,j]=>w.cell? ⟨b,off,none⟩=some a∧w.cell? ⟨b,off+1,none⟩=some c∧w.cell? ⟨b,off+2,none⟩=some d∧w.cell? ⟨b,off+3,none⟩=some e∧w.cell? ⟨b,off+4,none⟩=some f∧w.cell? ⟨b,off+5,none⟩=some g∧w.cell? ⟨b,off+6,none⟩=some i∧w.cell? ⟨b,off+7,none⟩=some j∧True
 | [a,c,d,e,f,g,i,j,k,l,m,n,o]=>w.cell? ⟨b,off,none⟩=some a∧w.cell? ⟨b,off+1,none⟩=some c∧w.cell? ⟨b,off+2,none⟩=some d∧w.cell? ⟨b,off+3,none⟩=some e∧w.cell? ⟨b,off+4,none⟩=some f∧w.cell? ⟨b,off+5,none⟩=some g∧w.cell? ⟨b,off+6,none⟩=some i∧w.cell? ⟨b,off+7,none⟩=some j∧w.cell? ⟨b,off+8,none⟩=some k∧w.cell? ⟨b,off+9,none⟩=some l∧w.cell? ⟨b,off+10,none⟩=some m∧w.cell? ⟨b,off+11,none⟩=some n∧w.cell? ⟨b,off+12,none⟩=some o∧True
 | _=>True
theorem ElA.ez {w:World} {b off:Nat} {cs:List Value} (h:ElA w b off cs):Es w b off cs:=by
 match cs with
 | []=>trivial
 | [a]=>exact⟨h 0 _ rfl,trivial⟩
 | [a,c]=>exact⟨h 0 _ rfl,h 1 _ rfl,trivial⟩
 | [a,c,d]=>exact⟨h 0 _ rfl,h 1 _ rfl,h 2 _ rfl,trivial⟩
 | [a,c,d,e]=>exact⟨h 0 _ rfl,h 1 _ rfl,h 2 _ rfl,h 3 _ rfl,trivial⟩
 | [a,c,d,e,f]=>exact⟨h 0 _ rfl,h 1 _ rfl,h 2 _ rfl,h 3 _ rfl,h 4 _ rfl,trivial⟩
 | [a,c,d,e,f,g]=>exact⟨h 0 _ rfl,h 1 _ rfl,h 2 _ rfl,h 3 _ rfl,h 4 _ rfl,h 5 _ rfl,trivial⟩
 | [a,c,d,e,f,g,i]=>exact⟨h 0 _ rfl,h 1 _ rfl,h 2 _ rfl,h 3 _ rfl,h 4 _ rfl,h 5 _ rfl,h 6 _ rfl,trivial⟩
 | [a,c,d,e,f,g,i,j]=>exact⟨h 0 _ rfl,h 1 _ rfl,h 2 _ rfl,h 3 _ rfl,h 4 _ rfl,h 5 _ rfl,h 6 _ rfl,h 7 _ rfl,trivial⟩
 | [a,c,d,e,f,g,i,j,k,l,m,n,o]=>exact⟨h 0 _ rfl,h 1 _ rfl,h 2 _ rfl,h 3 _ rfl,h 4 _ rfl,h 5 _ rfl,h 6 _ rfl,h 7 _ rfl,h 8 _ rfl,h 9 _ rfl,h 10 _ rfl,h 11 _ rfl,h 12 _ rfl,trivial⟩
 | [_,_,_,_,_,_,_,_,_]=>trivial
 | [_,_,_,_,_,_,_,_,_,_]=>trivial
 | [_,_,_,_,_,_,_,_,_,_,_]=>trivial
 | [_,_,_,_,_,_,_,_,_,_,_,_]=>trivial
 | _ :: _ :: _ :: _ :: _ :: _ :: _ :: _ :: _ :: _ :: _ :: _ :: _ :: _ :: _=>trivial
def Sl {α:Type} (f:α→List Value) (k:Nat) (w:World) (A:Option Addr) (n c:Nat) (L:List α):Prop:=L.length=n∧From w k (.slice A n c) n (flat f L)
section
variable {α:Type} {f:α→List Value} {k:Nat} {w w':World} {A:Option Addr} {n c:Nat} {L:List α}
theorem Sl.below (h:Sl f k w A n c L) (hb:Below w.heap.size w w'):Sl f k w' A n c L:=⟨h.1,h.2.below hb⟩
theorem Sl.nil (w:World):Sl f k w none 0 0 []:=⟨rfl,by simp[flat],none,0,rfl,fun _=>rfl,(fun _ h=>(by cases h))⟩
theorem add_off (b off j:Nat):(⟨b,off,none⟩:Addr).add j=⟨b,off+j,none⟩:=by unfold Addr.add;split<;>simp_all
theorem Sl.at (h:Sl f k w A n c L) (hk:∀x,(f x).length=k) (h0:0<k) (hn:0<n):∃b off,A=some ⟨b,off,none⟩∧∀i x,L[i]?=some x→ElA w b (off+i*k) (f x):=by
 obtain⟨hl,hlen,A',c',e,hA,hc⟩:=h
 cases e
 cases A with
 | none=>have:=hA rfl;omega
 | some a =>
  obtain⟨b,off,spot⟩:=a
  have hp:0<(flat f L).length:=by rw[hlen];exact Nat.mul_pos hn h0
  have hc0:=hc _ rfl 0 ((flat f L)[0]) (List.getElem?_eq_getElem hp)
  have hs:spot=none:=by simpa [Addr.add] using World.cell?_spot hc0
  subst hs
  refine⟨b,off,rfl,fun i x hx j u hu=>?_⟩
  have hj:j<k:=by
   rcases Nat.lt_or_ge j k with h1 | h1
   ·exact h1
   ·rw[List.getElem?_eq_none (by rw[hk];exact h1)] at hu;cases hu
  have h1:=hc _ rfl (i*k+j) u (by rw[flat_get hk L i x hx j hj];exact hu)
  rw[add_off] at h1
  rw[Nat.add_assoc]
  exact h1
theorem Sl.len (h:Sl f k w A n c L):L.length=n:=h.1
end
theorem OwnR.sl {α:Type} {f:α→List Value} {k:Nat} {w:World} {B:Nat} {e:TypeId} {H:Option Addr} {n cap:Nat} {L:List α} (ho:OwnR w B e k (.slice H n cap) n (flat f L)) (hl:L.length=n):Sl f k w H n cap L:=⟨hl,ho.from_⟩
structure Fr where
 s:Bool
 A:Option Addr
 c:Nat
 l:Nat
 s':Bool
 A':Option Addr
 c':Nat
 l':Nat
 q:Rat
 ex:Bool
def Fr.cs (x:Fr):List Value:=[.bool x.s,.slice x.A x.l x.c,.bool x.s',.slice x.A' x.l' x.c']
theorem Fr.cs_len (x:Fr):x.cs.length=4:=rfl
def FrOk (w:World) (m:Nat) (x:Fr):Prop:=R w x.s x.A x.c x.l x.s' x.A' x.c' x.l' x.q m∧∃xs ys,Dx w x.A x.c x.l xs∧Dx w x.A' x.c' x.l' ys∧exB x.s xs x.s' ys x.q=x.ex
theorem FrOk.below {w w':World} {m:Nat} {x:Fr} (h:FrOk w m x) (hb:Below w.heap.size w w'):FrOk w' m x:=by
 obtain⟨h1,xs,ys,h2,h3,h4⟩:=h;exact⟨h1.below hb,xs,ys,h2.below hb,h3.below hb,h4⟩
theorem FrOk.k {w w':World} {m:Nat} {x:Fr} (h:FrOk w m x) (hb:K64 w w'):FrOk w' m x:=by
 obtain⟨h1,xs,ys,h2,h3,h4⟩:=h;exact⟨h1.k hb,xs,ys,h2.k hb,h3.k hb,h4⟩
theorem FrOk.mono {w:World} {m m':Nat} {x:Fr} (h:FrOk w m x) (hm:m≤m'):FrOk w m' x:=⟨h.1.mono hm,h.2⟩
theorem FrOk.r {w:World} {m:Nat} {x:Fr} (h:FrOk w m x):R w x.s x.A x.c x.l x.s' x.A' x.c' x.l' x.q m:=h.1
theorem FrOk.rn {w:World} {m:Nat} {x:Fr} (h:FrOk w m x):x.ex=true↔RN w x.s x.A x.c x.l x.s' x.A' x.c' x.l' x.q:=by
 obtain⟨_,xs,ys,h2,h3,h4⟩:=h
 rw[←h4];exact exB_iff h2 h3
theorem RN.fr {w:World} {s s':Bool} {A A':Option Addr} {c c' l l' m:Nat} {q:Rat} (h:RN w s A c l s' A' c' l' q) (hm:sz q≤m):FrOk w m ⟨s,A,c,l,s',A',c',l',q,true⟩ :=
 ⟨h.r' hm,_,_,h.1.dx,h.2.dx,(exB_iff h.1.dx h.2.dx).2 h⟩
theorem R.fr {w:World} {s s':Bool} {A A':Option Addr} {c c' l l' m:Nat} {q:Rat} (h:R w s A c l s' A' c' l' q m):∃ex,FrOk w m ⟨s,A,c,l,s',A',c',l',q,ex⟩:=by
 obtain⟨xs,ys,h1,h2⟩:=h.dx
 exact⟨exB s xs s' ys q,h,xs,ys,h1,h2,rfl⟩
structure Tm where
 at_:Int
 x:Fr
def Tm.cs (t:Tm):List Value:=[.int .i64 t.at_,.bool t.x.s,.slice t.x.A t.x.l t.x.c,.bool t.x.s',.slice t.x.A' t.x.l' t.x.c']
theorem Tm.cs_len (t:Tm):t.cs.length=5:=rfl
def rightAt (L:List Tm) (n:Int) (i:Nat):Bool :=
 match L[i]? with
 | none=>true
 | some t=>decide (0≤t.at_)&&decide (t.at_<n)&&(match i with | 0=>true | j+1=>match L[j]? with | none=>true | some p=>decide (p.at_<t.at_))&&decide (t.x.q≠0)&&t.x.ex
def rightB (L:List Tm) (n:Int):Bool:=(List.range L.length).all (rightAt L n)
open Go.RowKit Tw
theorem sz_one {n d:Int} (hn:n.natAbs<18446744073709551616) (hd:0<d) (hd':d.natAbs<18446744073709551616):sz (qof n d)≤1:=by
 have:=sz_qof (n:=n) (d:=d) (a:=1) (b:=1) hd (nl_le_of_lt (by rw[Nat.pow_one];exact hn)) (nl_le_of_lt (by rw[Nat.pow_one];exact hd'))
 omega
def zFr:Fr:=⟨false,none,0,0,false,none,0,0,0,true⟩
theorem RN.zero (w:World):RN w false none 0 0 false none 0 0 0:=⟨J.zero w,J.zero w⟩
theorem sz_zero:sz 0≤1:=by
 show max (nl 0) (nl 1)≤1
 rw[nl_zero,nl_one];decide
theorem zFr_ok (w:World) {m:Nat} (hm:1≤m):FrOk w m zFr:=(RN.zero w).fr (Nat.le_trans sz_zero hm)
open Go.RowKit Tw
theorem exact_sh {w:World} {m:Nat} {x:Fr} (h:FrOk w m x) (hm:m≤40000) (t:Bool) (ht:Hid (x.ex=t)) (hT:Hid (Tab w)) :
  Calls Tryd.prog 18 #[.agg #[.bool x.s,.slice x.A x.l x.c,.bool x.s',.slice x.A' x.l' x.c']] w fun e w'=>e=.returned (.bool t)∧Below w.heap.size w w':=by
 obtain⟨h1,xs,ys,h2,h3,h4⟩:=h
 exact exact_shapes h1 h2 h3 hm t (zh (h4.trans ht.out)) hT
theorem exact_sp {w:World} {m:Nat} {x:Fr} (h:FrOk w m x) (hm:m≤40000) (t:Bool) (ht:Hid (x.ex=t)) (hT:Hid (Tab w)) :
  Calls Tryd.prog 66 #[.agg #[.bool x.s,.slice x.A x.l x.c,.bool x.s',.slice x.A' x.l' x.c']] w fun e w'=>e=.returned (.bool t)∧Below w.heap.size w w':=by
 obtain⟨h1,xs,ys,h2,h3,h4⟩:=h
 exact exact_sparse h1 h2 h3 hm t (zh (h4.trans ht.out)) hT
open Go.RowKit Tw
def RT1 (w:World) (L:List Tm) (n:Int) (len gk:Nat) (s:Value) (wr:World):Prop:=∃i:Nat,i≤len∧len-i=gk∧s=.int .i64 (i:Int)∧Below w.heap.size w wr∧∀j,j<i→rightAt L n j=true
theorem rightB_true {L:List Tm} {n:Int} (h:∀j,j<L.length→rightAt L n j=true):rightB L n=true:=by
 unfold rightB;rw[List.all_eq_true];intro j hj;exact h j (List.mem_range.1 hj)
theorem rightB_false {L:List Tm} {n:Int} {i:Nat} (hi:i<L.length) (h:rightAt L n i=false):rightB L n=false:=by
 unfold rightB;rw[List.all_eq_false];exact⟨i,List.mem_range.2 hi,by rw[h];simp⟩
theorem right_q {w:World} {A:Option Addr} {len c m:Nat} {L:List Tm} {n:Int} (h:Sl Tm.cs 5 w A len c L) (hok:∀t∈L,FrOk w m t.x) (hm:m≤20000) (hlen:len≤1000000000) (r:Bool) (hr:Hid (rightB L n=r)) (hT:Hid (Tab w)) :
  Calls Tryd.prog 43 #[.slice A len c,.int .i64 n] w fun e w'=>e=.returned (.bool r)∧Below w.heap.size w w':=by
 have H:=zh h
 have HOK:=zh hok
 have HLN:=zh h.1
 have hst:RT1 w L n len len (.int .i64 ((0:Nat):Int)) w:=⟨0,Nat.zero_le _,rfl,rfl,Below.refl _ _,fun j hj=>by omega⟩
 have HST:=zh hst
 clear h hok hst
 go_enter Tryd.func43,Tryd.ntmps43
 go_wp2_with fail
 go_loopg [9] len (fun gk s wr=>RT1 w L n len gk s wr)
 case atStart=>exact HST.out
 case round =>
  clear HST
  obtain⟨i,hi,hgk,rfl,hB,hd⟩:=hrel
  have HGK:=zh hgk
  have HD:=zh hd
  clear hgk hd
  by_cases hlt:i<len
  ·obtain⟨b,off,rfl,hel⟩:=H.out.at Tm.cs_len (by omega) (by omega)
   obtain⟨t,ht⟩:∃t,L[i]?=some t:=⟨L[i]'(by rw[HLN.out];exact hlt),List.getElem?_eq_getElem _⟩
   have hnd:=hel i t ht
   have hfr:=HOK.out t (List.mem_of_getElem? ht)
   have hfx:=hfr.r
   have HTI:=zh ht
   replace hfr:=hfr.below hB
   replace hfx:=hfx.below hB
   have i1:(i:Int)<(len:Int):=by omega
   have i2:(0:Int)≤(i:Int):=by omega
   have HEL:=zh hel
   obtain⟨sg,HSG⟩:∃sg,Hid (t.x.q.num.sign=sg):=⟨_,zh rfl⟩
   obtain⟨ex,HEX⟩:∃ex,Hid (t.x.ex=ex):=⟨_,zh rfl⟩
   clear ht hel
   by_cases c1:t.at_<0
   ·have g1:decide (t.at_<0)=true:=by simpa using c1
    obtain rfl:r=false:=by rw[←hr.out];exact rightB_false (by rw[HLN.out];exact hlt) (by unfold rightAt;rw[HTI.out];simp;omega)
    clear c1
    have Bz:=Below.refl wr.heap.size wr
    obtain⟨p50_0,p50_1,p50_2,p50_3,p50_4,-⟩:=(hnd.below (zAa hB Bz)).ez
    go_upto_region 4 with(fail)
    obtain⟨V1,hW,x0,hN⟩:=zAb wr #[.int .i64 t.at_,.bool t.x.s,.slice t.x.A t.x.l t.x.c,.bool t.x.s',.slice t.x.A' t.x.l' t.x.c'] 57
    rw[←hW]
    clear hW
    obtain⟨v0,hb0⟩:∃b,b=wr.heap.size:=⟨_,rfl⟩
    rw[←hb0] at x0 ⊢
    have ow_0:w.heap.size≤v0:=by have:=zw hB Bz;omega
    replace hB:=zAa (zAa hB Bz) hN
    have HX0:=zh x0
    clear x0 hN Bz hb0
    have Bz:=Below.refl V1.heap.size V1
    clear p50_0 p50_1 p50_2 p50_3 p50_4
    have p0_0:=(zx HX0 Bz).cell 0 (.int .i64 t.at_) rfl
    go_wp2_with fail
    go_ret
    have hF:=zAa (c:=V1) hB Bz
    exact⟨rfl,zAa (zAa hB Bz) (by go_grown)⟩
   ·have g1:decide (t.at_<0)=false:=by simp;omega
    by_cases c2:n≤t.at_
    ·have g2:decide (n≤t.at_)=true:=by simpa using c2
     obtain rfl:r=false:=by rw[←hr.out];exact rightB_false (by rw[HLN.out];exact hlt) (by unfold rightAt;rw[HTI.out];simp;omega)
     clear c1 c2
     have Bz:=Below.refl wr.heap.size wr
     obtain⟨p50_0,p50_1,p50_2,p50_3,p50_4,-⟩:=(hnd.below (zAa hB Bz)).ez
     go_upto_region 4 with(fail)
     obtain⟨V1,hW,x0,hN⟩:=zAb wr #[.int .i64 t.at_,.bool t.x.s,.slice t.x.A t.x.l t.x.c,.bool t.x.s',.slice t.x.A' t.x.l' t.x.c'] 57
     rw[←hW]
     clear hW
     obtain⟨v0,hb0⟩:∃b,b=wr.heap.size:=⟨_,rfl⟩
     rw[←hb0] at x0 ⊢
     have ow_0:w.heap.size≤v0:=by have:=zw hB Bz;omega
     replace hB:=zAa (zAa hB Bz) hN
     have HX0:=zh x0
     clear x0 hN Bz hb0
     have Bz:=Below.refl V1.heap.size V1
     clear p50_0 p50_1 p50_2 p50_3 p50_4
     have p0_0:=(zx HX0 Bz).cell 0 (.int .i64 t.at_) rfl
     go_wp2_with fail
     go_ret
     have hF:=zAa (c:=V1) hB Bz
     exact⟨rfl,zAa (zAa hB Bz) (by go_grown)⟩
    ·have g2:decide (n≤t.at_)=false:=by simp;omega
     rcases Nat.eq_zero_or_pos i with rfl | hi0
     ·replace hnd:ElA w b off t.cs:=by simpa using hnd
      have a0:rightAt L n 0=(decide (t.x.q≠0)&&t.x.ex):=by
       have f1:decide (0≤t.at_)=true:=by simp;omega
       have f2:decide (t.at_<n)=true:=by simp;omega
       unfold rightAt;rw[HTI.out];simp only[f1,f2,Bool.true_and]
      have A0:=zh a0
      clear c1 c2 a0 HEL
      by_cases c4:sg=0
      ·have g4:(sg==0)=true:=by simpa using c4
       obtain rfl:r=false:=by rw[←hr.out];exact rightB_false (by rw[HLN.out];exact hlt) (by rw[A0.out];have:=HSG.out;rw[c4] at this;simp[Rat.num_eq_zero.1 (Int.sign_eq_zero_iff_zero.1 this)])
       clear c4
       have Bz:=Below.refl wr.heap.size wr
       obtain⟨p50_0,p50_1,p50_2,p50_3,p50_4,-⟩:=(hnd.below (zAa hB Bz)).ez
       go_upto_region 4 with(fail)
       obtain⟨V1,hW,x0,hN⟩:=zAb wr #[.int .i64 t.at_,.bool t.x.s,.slice t.x.A t.x.l t.x.c,.bool t.x.s',.slice t.x.A' t.x.l' t.x.c'] 57
       rw[←hW]
       clear hW
       obtain⟨v0,hb0⟩:∃b,b=wr.heap.size:=⟨_,rfl⟩
       rw[←hb0] at x0 ⊢
       have ow_0:w.heap.size≤v0:=by have:=zw hB Bz;omega
       replace hfx:=hfx.below hN
       replace hB:=zAa (zAa hB Bz) hN
       have HX0:=zh x0
       clear x0 hN Bz hb0
       have Bz:=Below.refl V1.heap.size V1
       clear p50_0 p50_1 p50_2 p50_3 p50_4
       obtain⟨p0_0,p0_1,p0_2,p0_3,p0_4,-⟩:=(zx HX0 Bz).cz
       go_wp2_with fail
       (try simp only[List.append_eq,List.cons_append,List.nil_append])
       refine wp_region_plan (.take 0 (.take 1 (.take 2 (.take 3 (.take 4 (.take 5 (.take 6 (.take 7 (.take 8 (.take 9 (.take 10 (.take 11 (.take 12 (.take 13 .done)))))))))))))) [] (fun w'=>True) (by kernel_rfl) (by kernel_rfl) trivial ?_
       iterate 3 (refine zT rfl rfl (fun w' _=>by go_simp<;>with_reducible rfl) ?_;try simp only[Act.put,uX,uY,uZ])
       iterate 9 (refine zN rfl rfl ?_;try simp only[Act.put,uX,uY,uZ])
       iterate 2 (refine zT rfl rfl (fun w' _=>by go_simp<;>with_reducible rfl) ?_;try simp only[Act.put,uX,uY,uZ])
       refine wpPlan_done ?_
       go_wp2_with fail
       with_reducible refine(sign_q (R.below hfx (by go_grown)) (by omega) sg HSG).mono ?_
       rintro e w1 ⟨rfl,b1⟩
       replace b1:=zAa (a:=V1) (by go_grown) b1
       replace Bz:=zAa Bz b1
       clear b1
       clear p0_0 p0_1 p0_2 p0_3 p0_4
       go_wp2_with fail
       go_ret
       have hF:=zAa (c:=w1) hB Bz
       exact⟨rfl,zAa (zAa hB Bz) (by go_grown)⟩
      ·have g4:(sg==0)=false:=by simpa using c4
       have nz:t.x.q≠0:=fun e=>c4 (by rw[←HSG.out,e];rfl)
       have NZ:=zh nz
       clear c4 nz
       cases ex
       ·obtain rfl:r=false:=by rw[←hr.out];exact rightB_false (by rw[HLN.out];exact hlt) (by rw[A0.out,HEX.out];simp)
        have Bz:=Below.refl wr.heap.size wr
        obtain⟨p50_0,p50_1,p50_2,p50_3,p50_4,-⟩:=(hnd.below (zAa hB Bz)).ez
        go_upto_region 4 with(fail)
        obtain⟨V1,hW,x0,hN⟩:=zAb wr #[.int .i64 t.at_,.bool t.x.s,.slice t.x.A t.x.l t.x.c,.bool t.x.s',.slice t.x.A' t.x.l' t.x.c'] 57
        rw[←hW]
        clear hW
        obtain⟨v0,hb0⟩:∃b,b=wr.heap.size:=⟨_,rfl⟩
        rw[←hb0] at x0 ⊢
        have ow_0:w.heap.size≤v0:=by have:=zw hB Bz;omega
        replace hfr:=hfr.below hN
        replace hfx:=hfx.below hN
        replace hB:=zAa (zAa hB Bz) hN
        have HX0:=zh x0
        clear x0 hN Bz hb0
        have Bz:=Below.refl V1.heap.size V1
        clear p50_0 p50_1 p50_2 p50_3 p50_4
        obtain⟨p0_0,p0_1,p0_2,p0_3,p0_4,-⟩:=(zx HX0 Bz).cz
        go_wp2_with fail
        (try simp only[List.append_eq,List.cons_append,List.nil_append])
        refine wp_region_plan (.take 0 (.take 1 (.take 2 (.take 3 (.take 4 (.take 5 (.take 6 (.take 7 (.take 8 (.take 9 (.take 10 (.take 11 (.take 12 (.take 13 .done)))))))))))))) [] (fun w'=>True) (by kernel_rfl) (by kernel_rfl) trivial ?_
        iterate 3 (refine zT rfl rfl (fun w' _=>by go_simp<;>with_reducible rfl) ?_;try simp only[Act.put,uX,uY,uZ])
        iterate 9 (refine zN rfl rfl ?_;try simp only[Act.put,uX,uY,uZ])
        iterate 2 (refine zT rfl rfl (fun w' _=>by go_simp<;>with_reducible rfl) ?_;try simp only[Act.put,uX,uY,uZ])
        refine wpPlan_done ?_
        go_wp2_with fail
        with_reducible refine(sign_q (R.below hfx (by go_grown)) (by omega) sg HSG).mono ?_
        rintro e w1 ⟨rfl,b1⟩
        replace b1:=zAa (a:=V1) (by go_grown) b1
        replace hfr:=hfr.below b1
        replace Bz:=zAa Bz b1
        clear b1
        clear p0_0 p0_1 p0_2 p0_3 p0_4
        obtain⟨-,p0_1,p0_2,p0_3,p0_4,-⟩:=(zx HX0 Bz).cz
        go_wp2_with fail
        with_reducible refine(exact_sp (FrOk.below hfr (by go_grown)) (by omega) false HEX (zh (Tab.below hT.out (zAa hB (zAa (b:=w1) Bz (by go_grown)))))).mono ?_
        rintro e w2 ⟨rfl,b2⟩
        replace b2:=zAa (a:=w1) (by go_grown) b2
        replace Bz:=zAa Bz b2
        clear b2
        clear p0_1 p0_2 p0_3 p0_4
        go_wp2_with fail
        go_ret
        have hF:=zAa (c:=w2) hB Bz
        exact⟨rfl,zAa (zAa hB Bz) (by go_grown)⟩
       ·have HA:Hid (rightAt L n 0=true):=zh (by rw[A0.out,HEX.out];simpa using NZ.out)
        have Bz:=Below.refl wr.heap.size wr
        obtain⟨p50_0,p50_1,p50_2,p50_3,p50_4,-⟩:=(hnd.below (zAa hB Bz)).ez
        go_upto_region 4 with(fail)
        obtain⟨V1,hW,x0,hN⟩:=zAb wr #[.int .i64 t.at_,.bool t.x.s,.slice t.x.A t.x.l t.x.c,.bool t.x.s',.slice t.x.A' t.x.l' t.x.c'] 57
        rw[←hW]
        clear hW
        obtain⟨v0,hb0⟩:∃b,b=wr.heap.size:=⟨_,rfl⟩
        rw[←hb0] at x0 ⊢
        have ow_0:w.heap.size≤v0:=by have:=zw hB Bz;omega
        replace hfr:=hfr.below hN
        replace hfx:=hfx.below hN
        replace hB:=zAa (zAa hB Bz) hN
        have HX0:=zh x0
        clear x0 hN Bz hb0
        have Bz:=Below.refl V1.heap.size V1
        clear p50_0 p50_1 p50_2 p50_3 p50_4
        obtain⟨p0_0,p0_1,p0_2,p0_3,p0_4,-⟩:=(zx HX0 Bz).cz
        go_wp2_with fail
        (try simp only[List.append_eq,List.cons_append,List.nil_append])
        refine wp_region_plan (.take 0 (.take 1 (.take 2 (.take 3 (.take 4 (.take 5 (.take 6 (.take 7 (.take 8 (.take 9 (.take 10 (.take 11 (.take 12 (.take 13 .done)))))))))))))) [] (fun w'=>True) (by kernel_rfl) (by kernel_rfl) trivial ?_
        iterate 3 (refine zT rfl rfl (fun w' _=>by go_simp<;>with_reducible rfl) ?_;try simp only[Act.put,uX,uY,uZ])
        iterate 9 (refine zN rfl rfl ?_;try simp only[Act.put,uX,uY,uZ])
        iterate 2 (refine zT rfl rfl (fun w' _=>by go_simp<;>with_reducible rfl) ?_;try simp only[Act.put,uX,uY,uZ])
        refine wpPlan_done ?_
        go_wp2_with fail
        with_reducible refine(sign_q (R.below hfx (by go_grown)) (by omega) sg HSG).mono ?_
        rintro e w1 ⟨rfl,b1⟩
        replace b1:=zAa (a:=V1) (by go_grown) b1
        replace hfr:=hfr.below b1
        replace Bz:=zAa Bz b1
        clear b1
        clear p0_0 p0_1 p0_2 p0_3 p0_4
        obtain⟨-,p0_1,p0_2,p0_3,p0_4,-⟩:=(zx HX0 Bz).cz
        go_wp2_with fail
        with_reducible refine(exact_sp (FrOk.below hfr (by go_grown)) (by omega) true HEX (zh (Tab.below hT.out (zAa hB (zAa (b:=w1) Bz (by go_grown)))))).mono ?_
        rintro e w2 ⟨rfl,b2⟩
        replace b2:=zAa (a:=w1) (by go_grown) b2
        replace Bz:=zAa Bz b2
        clear b2
        clear p0_1 p0_2 p0_3 p0_4
        go_wp2_with fail
        go_roundg (len-(0+1))
        case measure=>have:=HGK.out;omega
        case rel=>exact⟨0+1,by omega,rfl,by go_num,zAa (zAa hB Bz) (by go_grown),fun k hk=>by
         rcases Nat.lt_or_ge k (0) with h1 | h1
         ·exact HD.out k h1
         ·obtain rfl:k=0:=by omega
          exact HA.out⟩
     ·obtain⟨j,rfl⟩:∃j,i=j+1:=⟨i-1,by omega⟩
      obtain⟨p,hp⟩:∃p,L[j]?=some p:=⟨L[j]'(by rw[HLN.out];omega),List.getElem?_eq_getElem _⟩
      have hpd:=HEL.out j p hp
      have HP:=zh hp
      have j1:(j:Int)<(len:Int):=by omega
      have j2:(0:Int)≤(j:Int):=by omega
      have j3:decide ((0:Int)<((j+1:Nat):Int))=true:=decide_eq_true (by omega)
      have j4:(0:Int)<(j:Int)+1:=by omega
      have u1:IntKind.i64.wrap (((j+1:Nat):Int)-1)=(j:Int):=by rw[IntWalk.i64_in _ (by omega)];omega
      have u3:IntKind.i64.wrap (j:Int)=(j:Int):=IntWalk.i64_in _ (by omega)
      have u2:IntKind.i64.wrap ((j:Int)+1-1)=(j:Int):=by rw[IntWalk.i64_in _ (by omega)];omega
      have a0:rightAt L n (j+1)=(decide (p.at_<t.at_)&&decide (t.x.q≠0)&&t.x.ex):=by
       have f1:decide (0≤t.at_)=true:=by simp;omega
       have f2:decide (t.at_<n)=true:=by simp;omega
       unfold rightAt;rw[HTI.out];simp only[f1,f2,HP.out,Bool.true_and]
      have A0:=zh a0
      clear c1 c2 a0 HEL hp hi0
      by_cases c3:t.at_≤p.at_
      ·have g3:decide (t.at_≤p.at_)=true:=by simpa using c3
       obtain rfl:r=false:=by rw[←hr.out];exact rightB_false (by rw[HLN.out];exact hlt) (by rw[A0.out];simp;omega)
       clear c3
       have Bz:=Below.refl wr.heap.size wr
       obtain⟨p50_0,p50_1,p50_2,p50_3,p50_4,-⟩:=(hnd.below (zAa hB Bz)).ez
       go_upto_region 4 with(fail)
       obtain⟨V1,hW,x0,hN⟩:=zAb wr #[.int .i64 t.at_,.bool t.x.s,.slice t.x.A t.x.l t.x.c,.bool t.x.s',.slice t.x.A' t.x.l' t.x.c'] 57
       rw[←hW]
       clear hW
       obtain⟨v0,hb0⟩:∃b,b=wr.heap.size:=⟨_,rfl⟩
       rw[←hb0] at x0 ⊢
       have ow_0:w.heap.size≤v0:=by have:=zw hB Bz;omega
       replace hB:=zAa (zAa hB Bz) hN
       have HX0:=zh x0
       clear x0 hN Bz hb0
       have Bz:=Below.refl V1.heap.size V1
       clear p50_0 p50_1 p50_2 p50_3 p50_4
       have p0_0:=(zx HX0 Bz).cell 0 (.int .i64 t.at_) rfl
       have p51_0:=(hpd.below (zAa hB Bz)).c0 (u:=.int .i64 p.at_) rfl
       go_wp2_with fail
       (try simp only[List.append_eq,List.cons_append,List.nil_append])
       refine wp_region_plan (.take 0 (.take 1 (.take 2 (.take 3 (.take 4 (.take 5 (.take 6 (.take 7 (.take 8 (.take 9 (.take 10 (.take 11 (.take 12 (.take 13 .done)))))))))))))) [] (fun w'=>w'.cell? ⟨v0,0,none⟩=some (.int .i64 t.at_)∧w'.cell? ⟨b,off+j*5,none⟩=some (.int .i64 p.at_)) (by kernel_rfl) (by kernel_rfl) ⟨p0_0,p51_0⟩ ?_
       iterate 14 (refine zT rfl rfl (fun w' ⟨p0_0,p51_0⟩=>by go_simp<;>with_reducible rfl) ?_;try simp only[Act.put,uX,uY,uZ])
       refine wpPlan_done ?_
       go_wp2_with fail
       go_ret
       have hF:=zAa (c:=V1) hB Bz
       exact⟨rfl,zAa (zAa hB Bz) (by go_grown)⟩
      ·have g3:decide (t.at_≤p.at_)=false:=by simpa using c3
       have C3:=zh c3
       clear c3
       by_cases c4:sg=0
       ·have g4:(sg==0)=true:=by simpa using c4
        obtain rfl:r=false:=by rw[←hr.out];exact rightB_false (by rw[HLN.out];exact hlt) (by rw[A0.out];have:=HSG.out;rw[c4] at this;simp[Rat.num_eq_zero.1 (Int.sign_eq_zero_iff_zero.1 this)])
        clear c4
        have Bz:=Below.refl wr.heap.size wr
        obtain⟨p50_0,p50_1,p50_2,p50_3,p50_4,-⟩:=(hnd.below (zAa hB Bz)).ez
        go_upto_region 4 with(fail)
        obtain⟨V1,hW,x0,hN⟩:=zAb wr #[.int .i64 t.at_,.bool t.x.s,.slice t.x.A t.x.l t.x.c,.bool t.x.s',.slice t.x.A' t.x.l' t.x.c'] 57
        rw[←hW]
        clear hW
        obtain⟨v0,hb0⟩:∃b,b=wr.heap.size:=⟨_,rfl⟩
        rw[←hb0] at x0 ⊢
        have ow_0:w.heap.size≤v0:=by have:=zw hB Bz;omega
        replace hfx:=hfx.below hN
        replace hB:=zAa (zAa hB Bz) hN
        have HX0:=zh x0
        clear x0 hN Bz hb0
        have Bz:=Below.refl V1.heap.size V1
        clear p50_0 p50_1 p50_2 p50_3 p50_4
        obtain⟨p0_0,p0_1,p0_2,p0_3,p0_4,-⟩:=(zx HX0 Bz).cz
        have p51_0:=(hpd.below (zAa hB Bz)).c0 (u:=.int .i64 p.at_) rfl
        go_wp2_with fail
        (try simp only[List.append_eq,List.cons_append,List.nil_append])
        refine wp_region_plan (.take 0 (.take 1 (.take 2 (.take 3 (.take 4 (.take 5 (.take 6 (.take 7 (.take 8 (.take 9 (.take 10 (.take 11 (.take 12 (.take 13 .done)))))))))))))) [] (fun w'=>w'.cell? ⟨v0,0,none⟩=some (.int .i64 t.at_)∧w'.cell? ⟨b,off+j*5,none⟩=some (.int .i64 p.at_)) (by kernel_rfl) (by kernel_rfl) ⟨p0_0,p51_0⟩ ?_
        iterate 14 (refine zT rfl rfl (fun w' ⟨p0_0,p51_0⟩=>by go_simp<;>with_reducible rfl) ?_;try simp only[Act.put,uX,uY,uZ])
        refine wpPlan_done ?_
        go_wp2_with fail
        with_reducible refine(sign_q (R.below hfx (by go_grown)) (by omega) sg HSG).mono ?_
        rintro e w1 ⟨rfl,b1⟩
        replace b1:=zAa (a:=V1) (by go_grown) b1
        replace Bz:=zAa Bz b1
        clear b1
        clear p0_0 p0_1 p0_2 p0_3 p0_4 p51_0
        go_wp2_with fail
        go_ret
        have hF:=zAa (c:=w1) hB Bz
        exact⟨rfl,zAa (zAa hB Bz) (by go_grown)⟩
       ·have g4:(sg==0)=false:=by simpa using c4
        have nz:t.x.q≠0:=fun e=>c4 (by rw[←HSG.out,e];rfl)
        have NZ:=zh nz
        clear c4 nz
        cases ex
        ·obtain rfl:r=false:=by rw[←hr.out];exact rightB_false (by rw[HLN.out];exact hlt) (by rw[A0.out,HEX.out];simp)
         have Bz:=Below.refl wr.heap.size wr
         obtain⟨p50_0,p50_1,p50_2,p50_3,p50_4,-⟩:=(hnd.below (zAa hB Bz)).ez
         go_upto_region 4 with(fail)
         obtain⟨V1,hW,x0,hN⟩:=zAb wr #[.int .i64 t.at_,.bool t.x.s,.slice t.x.A t.x.l t.x.c,.bool t.x.s',.slice t.x.A' t.x.l' t.x.c'] 57
         rw[←hW]
         clear hW
         obtain⟨v0,hb0⟩:∃b,b=wr.heap.size:=⟨_,rfl⟩
         rw[←hb0] at x0 ⊢
         have ow_0:w.heap.size≤v0:=by have:=zw hB Bz;omega
         replace hfr:=hfr.below hN
         replace hfx:=hfx.below hN
         replace hB:=zAa (zAa hB Bz) hN
         have HX0:=zh x0
         clear x0 hN Bz hb0
         have Bz:=Below.refl V1.heap.size V1
         clear p50_0 p50_1 p50_2 p50_3 p50_4
         obtain⟨p0_0,p0_1,p0_2,p0_3,p0_4,-⟩:=(zx HX0 Bz).cz
         have p51_0:=(hpd.below (zAa hB Bz)).c0 (u:=.int .i64 p.at_) rfl
         go_wp2_with fail
         (try simp only[List.append_eq,List.cons_append,List.nil_append])
         refine wp_region_plan (.take 0 (.take 1 (.take 2 (.take 3 (.take 4 (.take 5 (.take 6 (.take 7 (.take 8 (.take 9 (.take 10 (.take 11 (.take 12 (.take 13 .done)))))))))))))) [] (fun w'=>w'.cell? ⟨v0,0,none⟩=some (.int .i64 t.at_)∧w'.cell? ⟨b,off+j*5,none⟩=some (.int .i64 p.at_)) (by kernel_rfl) (by kernel_rfl) ⟨p0_0,p51_0⟩ ?_
         iterate 14 (refine zT rfl rfl (fun w' ⟨p0_0,p51_0⟩=>by go_simp<;>with_reducible rfl) ?_;try simp only[Act.put,uX,uY,uZ])
         refine wpPlan_done ?_
         go_wp2_with fail
         with_reducible refine(sign_q (R.below hfx (by go_grown)) (by omega) sg HSG).mono ?_
         rintro e w1 ⟨rfl,b1⟩
         replace b1:=zAa (a:=V1) (by go_grown) b1
         replace hfr:=hfr.below b1
         replace Bz:=zAa Bz b1
         clear b1
         clear p0_0 p0_1 p0_2 p0_3 p0_4 p51_0
         obtain⟨-,p0_1,p0_2,p0_3,p0_4,-⟩:=(zx HX0 Bz).cz
         go_wp2_with fail
         with_reducible refine(exact_sp (FrOk.below hfr (by go_grown)) (by omega) false HEX (zh (Tab.below hT.out (zAa hB (zAa (b:=w1) Bz (by go_grown)))))).mono ?_
         rintro e w2 ⟨rfl,b2⟩
         replace b2:=zAa (a:=w1) (by go_grown) b2
         replace Bz:=zAa Bz b2
         clear b2
         clear p0_1 p0_2 p0_3 p0_4
         go_wp2_with fail
         go_ret
         have hF:=zAa (c:=w2) hB Bz
         exact⟨rfl,zAa (zAa hB Bz) (by go_grown)⟩
        ·have HA:Hid (rightAt L n (j+1)=true):=zh (by rw[A0.out,HEX.out];have:=C3.out;simp[NZ.out];omega)
         have Bz:=Below.refl wr.heap.size wr
         obtain⟨p50_0,p50_1,p50_2,p50_3,p50_4,-⟩:=(hnd.below (zAa hB Bz)).ez
         go_upto_region 4 with(fail)
         obtain⟨V1,hW,x0,hN⟩:=zAb wr #[.int .i64 t.at_,.bool t.x.s,.slice t.x.A t.x.l t.x.c,.bool t.x.s',.slice t.x.A' t.x.l' t.x.c'] 57
         rw[←hW]
         clear hW
         obtain⟨v0,hb0⟩:∃b,b=wr.heap.size:=⟨_,rfl⟩
         rw[←hb0] at x0 ⊢
         have ow_0:w.heap.size≤v0:=by have:=zw hB Bz;omega
         replace hfr:=hfr.below hN
         replace hfx:=hfx.below hN
         replace hB:=zAa (zAa hB Bz) hN
         have HX0:=zh x0
         clear x0 hN Bz hb0
         have Bz:=Below.refl V1.heap.size V1
         clear p50_0 p50_1 p50_2 p50_3 p50_4
         obtain⟨p0_0,p0_1,p0_2,p0_3,p0_4,-⟩:=(zx HX0 Bz).cz
         have p51_0:=(hpd.below (zAa hB Bz)).c0 (u:=.int .i64 p.at_) rfl
         go_wp2_with fail
         (try simp only[List.append_eq,List.cons_append,List.nil_append])
         refine wp_region_plan (.take 0 (.take 1 (.take 2 (.take 3 (.take 4 (.take 5 (.take 6 (.take 7 (.take 8 (.take 9 (.take 10 (.take 11 (.take 12 (.take 13 .done)))))))))))))) [] (fun w'=>w'.cell? ⟨v0,0,none⟩=some (.int .i64 t.at_)∧w'.cell? ⟨b,off+j*5,none⟩=some (.int .i64 p.at_)) (by kernel_rfl) (by kernel_rfl) ⟨p0_0,p51_0⟩ ?_
         iterate 14 (refine zT rfl rfl (fun w' ⟨p0_0,p51_0⟩=>by go_simp<;>with_reducible rfl) ?_;try simp only[Act.put,uX,uY,uZ])
         refine wpPlan_done ?_
         go_wp2_with fail
         with_reducible refine(sign_q (R.below hfx (by go_grown)) (by omega) sg HSG).mono ?_
         rintro e w1 ⟨rfl,b1⟩
         replace b1:=zAa (a:=V1) (by go_grown) b1
         replace hfr:=hfr.below b1
         replace Bz:=zAa Bz b1
         clear b1
         clear p0_0 p0_1 p0_2 p0_3 p0_4 p51_0
         obtain⟨-,p0_1,p0_2,p0_3,p0_4,-⟩:=(zx HX0 Bz).cz
         go_wp2_with fail
         with_reducible refine(exact_sp (FrOk.below hfr (by go_grown)) (by omega) true HEX (zh (Tab.below hT.out (zAa hB (zAa (b:=w1) Bz (by go_grown)))))).mono ?_
         rintro e w2 ⟨rfl,b2⟩
         replace b2:=zAa (a:=w1) (by go_grown) b2
         replace Bz:=zAa Bz b2
         clear b2
         clear p0_1 p0_2 p0_3 p0_4
         go_wp2_with fail
         go_roundg (len-(j+1+1))
         case measure=>have:=HGK.out;omega
         case rel=>exact⟨j+1+1,by omega,rfl,by go_num,zAa (zAa hB Bz) (by go_grown),fun k hk=>by
          rcases Nat.lt_or_ge k (j+1) with h1 | h1
          ·exact HD.out k h1
          ·obtain rfl:k=j+1:=by omega
           exact HA.out⟩
  ·obtain rfl:i=len:=by omega
   have i1:¬(i:Int)<(i:Int):=by omega
   obtain rfl:r=true:=by rw[←hr.out];exact rightB_true (by rw[HLN.out];exact HD.out)
   go_wp2_with fail
   go_ret
   exact⟨rfl,hB⟩
open Go.RowKit Tw
theorem take_all {α:Type} {L:List α} {p:α→Bool} {i:Nat} {x:α} (h:(L.take i).all p=true) (hx:L[i]?=some x) (hp:p x=true):(L.take (i+1)).all p=true:=by
 rw[List.take_add_one,List.all_append,h,hx];simp[hp]
theorem all_no {α:Type} {L:List α} {p:α→Bool} {i:Nat} {x:α} (hx:L[i]?=some x) (hp:p x=false):L.all p=false:=by
 rw[List.all_eq_false];exact⟨x,List.mem_of_getElem? hx,by rw[hp];simp⟩
theorem all_yes {α:Type} {L:List α} {p:α→Bool} {n:Nat} (hl:L.length=n) (h:(L.take n).all p=true):L.all p=true:=by rwa [List.take_of_length_le (by omega)] at h
def ics (z:Int):List Value:=[.int .i64 z]
theorem ics_len (z:Int):(ics z).length=1:=rfl
theorem take_snoc {α:Type} {L:List α} {i:Nat} {x:α} (h:L[i]?=some x):L.take (i+1)=L.take i++[x]:=by rw[List.take_add_one,h];rfl
open Go.RowKit Tw
def AL1 {α:Type} (w:World) (L:List α) (p:α→Bool) (n gk:Nat) (s:Value) (wr:World):Prop:=∃i:Nat,i≤n∧n-i=gk∧s=.int .i64 (i:Int)∧Below w.heap.size w wr∧(L.take i).all p=true
structure Vc where
 A:Option Addr
 n:Nat
 c:Nat
 L:List Tm
def Vc.cs (v:Vc):List Value:=[.slice v.A v.n v.c]
theorem Vc.cs_len (v:Vc):v.cs.length=1:=rfl
open Go.RowKit Tw
theorem plain1_q {w:World} (z:Int) (t:Bool) (ht:Hid (decide (z=0)=t)):Calls Tryd.prog 49 #[.int .i64 z] w fun e w'=>e=.returned (.bool t)∧Below w.heap.size w w':=by
 have g1:(z==0)=t:=by rw[←ht.out];rfl
 clear ht
 go_enter Tryd.func49,Tryd.ntmps49
 go_wp2_with fail
 go_ret
 exact⟨rfl,by go_grown⟩
theorem conv1_q {w:World} (z:Int) (t:Bool) (ht:Hid ((decide (1≤z)&&decide (z≤256))=t)):Calls Tryd.prog 47 #[.int .i64 z] w fun e w'=>e=.returned (.bool t)∧Below w.heap.size w w':=by
 cases h1:decide (1≤z)
 ·obtain rfl:t=false:=by rw[←ht.out,h1];rfl
  clear ht
  go_enter Tryd.func47,Tryd.ntmps47
  go_wp2_with fail
  go_ret
  exact⟨rfl,by go_grown⟩
 ·have g1:decide (z≤256)=t:=by rw[←ht.out,h1];rfl
  clear ht
  go_enter Tryd.func47,Tryd.ntmps47
  go_wp2_with fail
  go_ret
  exact⟨rfl,by go_grown⟩
theorem affine2_q {w:World} {m:Nat} {x:Fr} (h:FrOk w m x) (hm:m≤40000) (t:Bool) (ht:Hid (x.ex=t)) (hT:Hid (Tab w)):Calls Tryd.prog 45 #[.agg #[.bool x.s,.slice x.A x.l x.c,.bool x.s',.slice x.A' x.l' x.c']] w fun e w'=>e=.returned (.bool t)∧Below w.heap.size w w':=by
 obtain⟨W,hW,x0,hB⟩:=zAb w #[.bool x.s,.slice x.A x.l x.c,.bool x.s',.slice x.A' x.l' x.c'] 27
 replace h:=h.below hB
 have HX0:=zh x0
 clear x0
 have Bz:=Below.refl W.heap.size W
 obtain⟨p0_0,p0_1,p0_2,p0_3,-⟩:=(zx HX0 Bz).cz
 go_enter Tryd.func45,Tryd.ntmps45
 go_wp2_with fail
 rw[←hW]
 clear hW
 go_wp2_with fail
 with_reducible refine(exact_sh (FrOk.below h (by go_grown)) (by omega) t ht (zh (Tab.below hT.out (zAa hB (zAa (b:=W) Bz (by go_grown)))))).mono ?_
 rintro e w1 ⟨rfl,b1⟩
 replace b1:=zAa (a:=W) (by go_grown) b1
 replace Bz:=zAa Bz b1
 clear b1
 clear p0_0 p0_1 p0_2 p0_3
 go_wp2_with fail
 go_ret
 have hF:=zAa (c:=w1) hB Bz
 exact⟨rfl,zAa hF (by go_grown)⟩
theorem conv2_q {w:World} {m:Nat} {x:Fr} (h:FrOk w m x) (hm:m≤40000) (t:Bool) (ht:Hid (x.ex=t)) (hT:Hid (Tab w)):Calls Tryd.prog 48 #[.agg #[.bool x.s,.slice x.A x.l x.c,.bool x.s',.slice x.A' x.l' x.c']] w fun e w'=>e=.returned (.bool t)∧Below w.heap.size w w':=by
 obtain⟨W,hW,x0,hB⟩:=zAb w #[.bool x.s,.slice x.A x.l x.c,.bool x.s',.slice x.A' x.l' x.c'] 27
 replace h:=h.below hB
 have HX0:=zh x0
 clear x0
 have Bz:=Below.refl W.heap.size W
 obtain⟨p0_0,p0_1,p0_2,p0_3,-⟩:=(zx HX0 Bz).cz
 go_enter Tryd.func48,Tryd.ntmps48
 go_wp2_with fail
 rw[←hW]
 clear hW
 go_wp2_with fail
 with_reducible refine(exact_sh (FrOk.below h (by go_grown)) (by omega) t ht (zh (Tab.below hT.out (zAa hB (zAa (b:=W) Bz (by go_grown)))))).mono ?_
 rintro e w1 ⟨rfl,b1⟩
 replace b1:=zAa (a:=W) (by go_grown) b1
 replace Bz:=zAa Bz b1
 clear b1
 clear p0_0 p0_1 p0_2 p0_3
 go_wp2_with fail
 go_ret
 have hF:=zAa (c:=w1) hB Bz
 exact⟨rfl,zAa hF (by go_grown)⟩
theorem query11_q {w:World} {m:Nat} {x:Fr} (h:FrOk w m x) (hm:m≤40000) (t:Bool) (ht:Hid (x.ex=t)) (hT:Hid (Tab w)):Calls Tryd.prog 17 #[.agg #[.bool x.s,.slice x.A x.l x.c,.bool x.s',.slice x.A' x.l' x.c']] w fun e w'=>e=.returned (.bool t)∧Below w.heap.size w w':=by
 obtain⟨W,hW,x0,hB⟩:=zAb w #[.bool x.s,.slice x.A x.l x.c,.bool x.s',.slice x.A' x.l' x.c'] 27
 replace h:=h.below hB
 have HX0:=zh x0
 clear x0
 have Bz:=Below.refl W.heap.size W
 obtain⟨p0_0,p0_1,p0_2,p0_3,-⟩:=(zx HX0 Bz).cz
 go_enter Tryd.func17,Tryd.ntmps17
 go_wp2_with fail
 rw[←hW]
 clear hW
 go_wp2_with fail
 with_reducible refine(exact_sh (FrOk.below h (by go_grown)) (by omega) t ht (zh (Tab.below hT.out (zAa hB (zAa (b:=W) Bz (by go_grown)))))).mono ?_
 rintro e w1 ⟨rfl,b1⟩
 replace b1:=zAa (a:=W) (by go_grown) b1
 replace Bz:=zAa Bz b1
 clear b1
 clear p0_0 p0_1 p0_2 p0_3
 go_wp2_with fail
 go_ret
 have hF:=zAa (c:=w1) hB Bz
 exact⟨rfl,zAa hF (by go_grown)⟩
theorem all_plain {w:World} {A:Option Addr} {n c:Nat} {L:List Int} (h:Sl ics 1 w A n c L) (hn:n≤1000000000) (r:Bool) (hr:Hid (L.all (fun z=>decide (z=0))=r)) :
  Calls Tryd.prog 46 #[.slice A n c,.func (.func 49) #[] #[]] w fun e w'=>e=.returned (.bool r)∧Below w.heap.size w w':=by
 have H:=zh h
 have HLN:=zh h.1
 have hst:AL1 w L (fun z=>decide (z=0)) n n (.int .i64 ((0:Nat):Int)) w:=⟨0,Nat.zero_le _,rfl,rfl,Below.refl _ _,by simp⟩
 have HST:=zh hst
 clear h hst
 go_enter Tryd.func46,Tryd.ntmps46
 go_wp2_with fail
 go_loopg [9] n (fun gk s wr=>AL1 w L (fun z=>decide (z=0)) n gk s wr)
 case atStart=>exact HST.out
 case round =>
  clear HST
  obtain⟨i,hi,hgk,rfl,hB,hd⟩:=hrel
  have HGK:=zh hgk
  have HD:=zh hd
  clear hgk hd
  by_cases hlt:i<n
  ·obtain⟨b,off,rfl,hel⟩:=H.out.at ics_len (by omega) (by omega)
   obtain⟨x,hx⟩:∃x,L[i]?=some x:=⟨L[i]'(by rw[HLN.out];exact hlt),List.getElem?_eq_getElem _⟩
   have hnd:ElA w b (off+i) (ics x):=by have:=hel i x hx;rwa [Nat.mul_one] at this
   have HTI:=zh hx
   have i1:(i:Int)<(n:Int):=by omega
   have i2:(0:Int)≤(i:Int):=by omega
   clear hx hel
   cases hp:(fun z=>decide (z=0)) x
   ·have HP:=zh hp
    clear hp
    have Bz:=Below.refl wr.heap.size wr
    have p50_0:=(hnd.below (zAa hB Bz)).c0 (u:=.int .i64 x) rfl
    go_wp2_with fail
    with_reducible refine(plain1_q x false HP).mono ?_
    rintro e w1 ⟨rfl,b1⟩
    replace b1:=zAa (a:=wr) (by go_grown) b1
    replace Bz:=zAa Bz b1
    clear b1
    clear p50_0
    go_wp2_with fail
    go_ret
    have hF:=zAa (c:=w1) hB Bz
    obtain rfl:r=false:=by rw[←hr.out];exact all_no HTI.out HP.out
    exact⟨rfl,zAa (zAa hB Bz) (by go_grown)⟩
   ·have HP:=zh hp
    clear hp
    have Bz:=Below.refl wr.heap.size wr
    have p50_0:=(hnd.below (zAa hB Bz)).c0 (u:=.int .i64 x) rfl
    go_wp2_with fail
    with_reducible refine(plain1_q x true HP).mono ?_
    rintro e w1 ⟨rfl,b1⟩
    replace b1:=zAa (a:=wr) (by go_grown) b1
    replace Bz:=zAa Bz b1
    clear b1
    clear p50_0
    go_wp2_with fail
    go_roundg (n-(i+1))
    case measure=>have:=HGK.out;omega
    case rel=>exact⟨i+1,by omega,rfl,by go_num,zAa (zAa hB Bz) (by go_grown),take_all HD.out HTI.out HP.out⟩
  ·obtain rfl:i=n:=by omega
   have i1:¬(i:Int)<(i:Int):=by omega
   obtain rfl:r=true:=by rw[←hr.out];exact all_yes HLN.out HD.out
   go_wp2_with fail
   go_ret
   exact⟨rfl,hB⟩
theorem all_conv {w:World} {A:Option Addr} {n c:Nat} {L:List Int} (h:Sl ics 1 w A n c L) (hn:n≤1000000000) (r:Bool) (hr:Hid (L.all (fun z=>decide (1≤z)&&decide (z≤256))=r)) :
  Calls Tryd.prog 46 #[.slice A n c,.func (.func 47) #[] #[]] w fun e w'=>e=.returned (.bool r)∧Below w.heap.size w w':=by
 have H:=zh h
 have HLN:=zh h.1
 have hst:AL1 w L (fun z=>decide (1≤z)&&decide (z≤256)) n n (.int .i64 ((0:Nat):Int)) w:=⟨0,Nat.zero_le _,rfl,rfl,Below.refl _ _,by simp⟩
 have HST:=zh hst
 clear h hst
 go_enter Tryd.func46,Tryd.ntmps46
 go_wp2_with fail
 go_loopg [9] n (fun gk s wr=>AL1 w L (fun z=>decide (1≤z)&&decide (z≤256)) n gk s wr)
 case atStart=>exact HST.out
 case round =>
  clear HST
  obtain⟨i,hi,hgk,rfl,hB,hd⟩:=hrel
  have HGK:=zh hgk
  have HD:=zh hd
  clear hgk hd
  by_cases hlt:i<n
  ·obtain⟨b,off,rfl,hel⟩:=H.out.at ics_len (by omega) (by omega)
   obtain⟨x,hx⟩:∃x,L[i]?=some x:=⟨L[i]'(by rw[HLN.out];exact hlt),List.getElem?_eq_getElem _⟩
   have hnd:ElA w b (off+i) (ics x):=by have:=hel i x hx;rwa [Nat.mul_one] at this
   have HTI:=zh hx
   have i1:(i:Int)<(n:Int):=by omega
   have i2:(0:Int)≤(i:Int):=by omega
   clear hx hel
   cases hp:(fun z=>decide (1≤z)&&decide (z≤256)) x
   ·have HP:=zh hp
    clear hp
    have Bz:=Below.refl wr.heap.size wr
    have p50_0:=(hnd.below (zAa hB Bz)).c0 (u:=.int .i64 x) rfl
    go_wp2_with fail
    with_reducible refine(conv1_q x false HP).mono ?_
    rintro e w1 ⟨rfl,b1⟩
    replace b1:=zAa (a:=wr) (by go_grown) b1
    replace Bz:=zAa Bz b1
    clear b1
    clear p50_0
    go_wp2_with fail
    go_ret
    have hF:=zAa (c:=w1) hB Bz
    obtain rfl:r=false:=by rw[←hr.out];exact all_no HTI.out HP.out
    exact⟨rfl,zAa (zAa hB Bz) (by go_grown)⟩
   ·have HP:=zh hp
    clear hp
    have Bz:=Below.refl wr.heap.size wr
    have p50_0:=(hnd.below (zAa hB Bz)).c0 (u:=.int .i64 x) rfl
    go_wp2_with fail
    with_reducible refine(conv1_q x true HP).mono ?_
    rintro e w1 ⟨rfl,b1⟩
    replace b1:=zAa (a:=wr) (by go_grown) b1
    replace Bz:=zAa Bz b1
    clear b1
    clear p50_0
    go_wp2_with fail
    go_roundg (n-(i+1))
    case measure=>have:=HGK.out;omega
    case rel=>exact⟨i+1,by omega,rfl,by go_num,zAa (zAa hB Bz) (by go_grown),take_all HD.out HTI.out HP.out⟩
  ·obtain rfl:i=n:=by omega
   have i1:¬(i:Int)<(i:Int):=by omega
   obtain rfl:r=true:=by rw[←hr.out];exact all_yes HLN.out HD.out
   go_wp2_with fail
   go_ret
   exact⟨rfl,hB⟩
theorem all_affine2 {w:World} {A:Option Addr} {n c m:Nat} {L:List Fr} (h:Sl Fr.cs 4 w A n c L) (hok:Hid (∀x∈L,FrOk w m x)) (hm:m≤40000) (hT:Hid (Tab w)) (hn:n≤1000000000) (r:Bool) (hr:Hid (L.all (fun x=>x.ex)=r)) :
  Calls Tryd.prog 16 #[.slice A n c,.func (.func 45) #[] #[]] w fun e w'=>e=.returned (.bool r)∧Below w.heap.size w w':=by
 have H:=zh h
 have HLN:=zh h.1
 have hst:AL1 w L (fun x=>x.ex) n n (.int .i64 ((0:Nat):Int)) w:=⟨0,Nat.zero_le _,rfl,rfl,Below.refl _ _,by simp⟩
 have HST:=zh hst
 clear h hst
 go_enter Tryd.func16,Tryd.ntmps16
 go_wp2_with fail
 go_loopg [9] n (fun gk s wr=>AL1 w L (fun x=>x.ex) n gk s wr)
 case atStart=>exact HST.out
 case round =>
  clear HST
  obtain⟨i,hi,hgk,rfl,hB,hd⟩:=hrel
  have HGK:=zh hgk
  have HD:=zh hd
  clear hgk hd
  by_cases hlt:i<n
  ·obtain⟨b,off,rfl,hel⟩:=H.out.at Fr.cs_len (by omega) (by omega)
   obtain⟨x,hx⟩:∃x,L[i]?=some x:=⟨L[i]'(by rw[HLN.out];exact hlt),List.getElem?_eq_getElem _⟩
   have hnd:=hel i x hx
   have HTI:=zh hx
   have hfr:=(hok.out x (List.mem_of_getElem? hx)).below hB
   have i1:(i:Int)<(n:Int):=by omega
   have i2:(0:Int)≤(i:Int):=by omega
   clear hx hel
   cases hp:(fun x=>x.ex) x
   ·have HP:=zh hp
    clear hp
    have Bz:=Below.refl wr.heap.size wr
    obtain⟨p50_0,p50_1,p50_2,p50_3,-⟩:=(hnd.below (zAa hB Bz)).ez
    go_upto_region 4 with(fail)
    obtain⟨V1,hW,x0,hN⟩:=zAb wr #[.bool x.s,.slice x.A x.l x.c,.bool x.s',.slice x.A' x.l' x.c'] 27
    rw[←hW]
    clear hW
    obtain⟨v0,hb0⟩:∃b,b=wr.heap.size:=⟨_,rfl⟩
    rw[←hb0] at x0 ⊢
    have ow_0:w.heap.size≤v0:=by have:=zw hB Bz;omega
    replace hfr:=hfr.below hN
    replace hB:=zAa (zAa hB Bz) hN
    have HX0:=zh x0
    clear x0 hN Bz hb0
    have Bz:=Below.refl V1.heap.size V1
    clear p50_0 p50_1 p50_2 p50_3
    obtain⟨p0_0,p0_1,p0_2,p0_3,-⟩:=(zx HX0 Bz).cz
    go_wp2_with fail
    with_reducible refine(affine2_q (FrOk.below hfr (by go_grown)) (by omega) false HP (zh (Tab.below hT.out (zAa hB (zAa (b:=V1) Bz (by go_grown)))))).mono ?_
    rintro e w1 ⟨rfl,b1⟩
    replace b1:=zAa (a:=V1) (by go_grown) b1
    replace Bz:=zAa Bz b1
    clear b1
    clear p0_0 p0_1 p0_2 p0_3
    go_wp2_with fail
    go_ret
    have hF:=zAa (c:=w1) hB Bz
    obtain rfl:r=false:=by rw[←hr.out];exact all_no HTI.out HP.out
    exact⟨rfl,zAa (zAa hB Bz) (by go_grown)⟩
   ·have HP:=zh hp
    clear hp
    have Bz:=Below.refl wr.heap.size wr
    obtain⟨p50_0,p50_1,p50_2,p50_3,-⟩:=(hnd.below (zAa hB Bz)).ez
    go_upto_region 4 with(fail)
    obtain⟨V1,hW,x0,hN⟩:=zAb wr #[.bool x.s,.slice x.A x.l x.c,.bool x.s',.slice x.A' x.l' x.c'] 27
    rw[←hW]
    clear hW
    obtain⟨v0,hb0⟩:∃b,b=wr.heap.size:=⟨_,rfl⟩
    rw[←hb0] at x0 ⊢
    have ow_0:w.heap.size≤v0:=by have:=zw hB Bz;omega
    replace hfr:=hfr.below hN
    replace hB:=zAa (zAa hB Bz) hN
    have HX0:=zh x0
    clear x0 hN Bz hb0
    have Bz:=Below.refl V1.heap.size V1
    clear p50_0 p50_1 p50_2 p50_3
    obtain⟨p0_0,p0_1,p0_2,p0_3,-⟩:=(zx HX0 Bz).cz
    go_wp2_with fail
    with_reducible refine(affine2_q (FrOk.below hfr (by go_grown)) (by omega) true HP (zh (Tab.below hT.out (zAa hB (zAa (b:=V1) Bz (by go_grown)))))).mono ?_
    rintro e w1 ⟨rfl,b1⟩
    replace b1:=zAa (a:=V1) (by go_grown) b1
    replace Bz:=zAa Bz b1
    clear b1
    clear p0_0 p0_1 p0_2 p0_3
    go_wp2_with fail
    go_roundg (n-(i+1))
    case measure=>have:=HGK.out;omega
    case rel=>exact⟨i+1,by omega,rfl,by go_num,zAa (zAa hB Bz) (by go_grown),take_all HD.out HTI.out HP.out⟩
  ·obtain rfl:i=n:=by omega
   have i1:¬(i:Int)<(i:Int):=by omega
   obtain rfl:r=true:=by rw[←hr.out];exact all_yes HLN.out HD.out
   go_wp2_with fail
   go_ret
   exact⟨rfl,hB⟩
theorem all_conv2 {w:World} {A:Option Addr} {n c m:Nat} {L:List Fr} (h:Sl Fr.cs 4 w A n c L) (hok:Hid (∀x∈L,FrOk w m x)) (hm:m≤40000) (hT:Hid (Tab w)) (hn:n≤1000000000) (r:Bool) (hr:Hid (L.all (fun x=>x.ex)=r)) :
  Calls Tryd.prog 16 #[.slice A n c,.func (.func 48) #[] #[]] w fun e w'=>e=.returned (.bool r)∧Below w.heap.size w w':=by
 have H:=zh h
 have HLN:=zh h.1
 have hst:AL1 w L (fun x=>x.ex) n n (.int .i64 ((0:Nat):Int)) w:=⟨0,Nat.zero_le _,rfl,rfl,Below.refl _ _,by simp⟩
 have HST:=zh hst
 clear h hst
 go_enter Tryd.func16,Tryd.ntmps16
 go_wp2_with fail
 go_loopg [9] n (fun gk s wr=>AL1 w L (fun x=>x.ex) n gk s wr)
 case atStart=>exact HST.out
 case round =>
  clear HST
  obtain⟨i,hi,hgk,rfl,hB,hd⟩:=hrel
  have HGK:=zh hgk
  have HD:=zh hd
  clear hgk hd
  by_cases hlt:i<n
  ·obtain⟨b,off,rfl,hel⟩:=H.out.at Fr.cs_len (by omega) (by omega)
   obtain⟨x,hx⟩:∃x,L[i]?=some x:=⟨L[i]'(by rw[HLN.out];exact hlt),List.getElem?_eq_getElem _⟩
   have hnd:=hel i x hx
   have HTI:=zh hx
   have hfr:=(hok.out x (List.mem_of_getElem? hx)).below hB
   have i1:(i:Int)<(n:Int):=by omega
   have i2:(0:Int)≤(i:Int):=by omega
   clear hx hel
   cases hp:(fun x=>x.ex) x
   ·have HP:=zh hp
    clear hp
    have Bz:=Below.refl wr.heap.size wr
    obtain⟨p50_0,p50_1,p50_2,p50_3,-⟩:=(hnd.below (zAa hB Bz)).ez
    go_upto_region 4 with(fail)
    obtain⟨V1,hW,x0,hN⟩:=zAb wr #[.bool x.s,.slice x.A x.l x.c,.bool x.s',.slice x.A' x.l' x.c'] 27
    rw[←hW]
    clear hW
    obtain⟨v0,hb0⟩:∃b,b=wr.heap.size:=⟨_,rfl⟩
    rw[←hb0] at x0 ⊢
    have ow_0:w.heap.size≤v0:=by have:=zw hB Bz;omega
    replace hfr:=hfr.below hN
    replace hB:=zAa (zAa hB Bz) hN
    have HX0:=zh x0
    clear x0 hN Bz hb0
    have Bz:=Below.refl V1.heap.size V1
    clear p50_0 p50_1 p50_2 p50_3
    obtain⟨p0_0,p0_1,p0_2,p0_3,-⟩:=(zx HX0 Bz).cz
    go_wp2_with fail
    with_reducible refine(conv2_q (FrOk.below hfr (by go_grown)) (by omega) false HP (zh (Tab.below hT.out (zAa hB (zAa (b:=V1) Bz (by go_grown)))))).mono ?_
    rintro e w1 ⟨rfl,b1⟩
    replace b1:=zAa (a:=V1) (by go_grown) b1
    replace Bz:=zAa Bz b1
    clear b1
    clear p0_0 p0_1 p0_2 p0_3
    go_wp2_with fail
    go_ret
    have hF:=zAa (c:=w1) hB Bz
    obtain rfl:r=false:=by rw[←hr.out];exact all_no HTI.out HP.out
    exact⟨rfl,zAa (zAa hB Bz) (by go_grown)⟩
   ·have HP:=zh hp
    clear hp
    have Bz:=Below.refl wr.heap.size wr
    obtain⟨p50_0,p50_1,p50_2,p50_3,-⟩:=(hnd.below (zAa hB Bz)).ez
    go_upto_region 4 with(fail)
    obtain⟨V1,hW,x0,hN⟩:=zAb wr #[.bool x.s,.slice x.A x.l x.c,.bool x.s',.slice x.A' x.l' x.c'] 27
    rw[←hW]
    clear hW
    obtain⟨v0,hb0⟩:∃b,b=wr.heap.size:=⟨_,rfl⟩
    rw[←hb0] at x0 ⊢
    have ow_0:w.heap.size≤v0:=by have:=zw hB Bz;omega
    replace hfr:=hfr.below hN
    replace hB:=zAa (zAa hB Bz) hN
    have HX0:=zh x0
    clear x0 hN Bz hb0
    have Bz:=Below.refl V1.heap.size V1
    clear p50_0 p50_1 p50_2 p50_3
    obtain⟨p0_0,p0_1,p0_2,p0_3,-⟩:=(zx HX0 Bz).cz
    go_wp2_with fail
    with_reducible refine(conv2_q (FrOk.below hfr (by go_grown)) (by omega) true HP (zh (Tab.below hT.out (zAa hB (zAa (b:=V1) Bz (by go_grown)))))).mono ?_
    rintro e w1 ⟨rfl,b1⟩
    replace b1:=zAa (a:=V1) (by go_grown) b1
    replace Bz:=zAa Bz b1
    clear b1
    clear p0_0 p0_1 p0_2 p0_3
    go_wp2_with fail
    go_roundg (n-(i+1))
    case measure=>have:=HGK.out;omega
    case rel=>exact⟨i+1,by omega,rfl,by go_num,zAa (zAa hB Bz) (by go_grown),take_all HD.out HTI.out HP.out⟩
  ·obtain rfl:i=n:=by omega
   have i1:¬(i:Int)<(i:Int):=by omega
   obtain rfl:r=true:=by rw[←hr.out];exact all_yes HLN.out HD.out
   go_wp2_with fail
   go_ret
   exact⟨rfl,hB⟩
theorem all_query11 {w:World} {A:Option Addr} {n c m:Nat} {L:List Fr} (h:Sl Fr.cs 4 w A n c L) (hok:Hid (∀x∈L,FrOk w m x)) (hm:m≤40000) (hT:Hid (Tab w)) (hn:n≤1000000000) (r:Bool) (hr:Hid (L.all (fun x=>x.ex)=r)) :
  Calls Tryd.prog 16 #[.slice A n c,.func (.func 17) #[] #[]] w fun e w'=>e=.returned (.bool r)∧Below w.heap.size w w':=by
 have H:=zh h
 have HLN:=zh h.1
 have hst:AL1 w L (fun x=>x.ex) n n (.int .i64 ((0:Nat):Int)) w:=⟨0,Nat.zero_le _,rfl,rfl,Below.refl _ _,by simp⟩
 have HST:=zh hst
 clear h hst
 go_enter Tryd.func16,Tryd.ntmps16
 go_wp2_with fail
 go_loopg [9] n (fun gk s wr=>AL1 w L (fun x=>x.ex) n gk s wr)
 case atStart=>exact HST.out
 case round =>
  clear HST
  obtain⟨i,hi,hgk,rfl,hB,hd⟩:=hrel
  have HGK:=zh hgk
  have HD:=zh hd
  clear hgk hd
  by_cases hlt:i<n
  ·obtain⟨b,off,rfl,hel⟩:=H.out.at Fr.cs_len (by omega) (by omega)
   obtain⟨x,hx⟩:∃x,L[i]?=some x:=⟨L[i]'(by rw[HLN.out];exact hlt),List.getElem?_eq_getElem _⟩
   have hnd:=hel i x hx
   have HTI:=zh hx
   have hfr:=(hok.out x (List.mem_of_getElem? hx)).below hB
   have i1:(i:Int)<(n:Int):=by omega
   have i2:(0:Int)≤(i:Int):=by omega
   clear hx hel
   cases hp:(fun x=>x.ex) x
   ·have HP:=zh hp
    clear hp
    have Bz:=Below.refl wr.heap.size wr
    obtain⟨p50_0,p50_1,p50_2,p50_3,-⟩:=(hnd.below (zAa hB Bz)).ez
    go_upto_region 4 with(fail)
    obtain⟨V1,hW,x0,hN⟩:=zAb wr #[.bool x.s,.slice x.A x.l x.c,.bool x.s',.slice x.A' x.l' x.c'] 27
    rw[←hW]
    clear hW
    obtain⟨v0,hb0⟩:∃b,b=wr.heap.size:=⟨_,rfl⟩
    rw[←hb0] at x0 ⊢
    have ow_0:w.heap.size≤v0:=by have:=zw hB Bz;omega
    replace hfr:=hfr.below hN
    replace hB:=zAa (zAa hB Bz) hN
    have HX0:=zh x0
    clear x0 hN Bz hb0
    have Bz:=Below.refl V1.heap.size V1
    clear p50_0 p50_1 p50_2 p50_3
    obtain⟨p0_0,p0_1,p0_2,p0_3,-⟩:=(zx HX0 Bz).cz
    go_wp2_with fail
    with_reducible refine(query11_q (FrOk.below hfr (by go_grown)) (by omega) false HP (zh (Tab.below hT.out (zAa hB (zAa (b:=V1) Bz (by go_grown)))))).mono ?_
    rintro e w1 ⟨rfl,b1⟩
    replace b1:=zAa (a:=V1) (by go_grown) b1
    replace Bz:=zAa Bz b1
    clear b1
    clear p0_0 p0_1 p0_2 p0_3
    go_wp2_with fail
    go_ret
    have hF:=zAa (c:=w1) hB Bz
    obtain rfl:r=false:=by rw[←hr.out];exact all_no HTI.out HP.out
    exact⟨rfl,zAa (zAa hB Bz) (by go_grown)⟩
   ·have HP:=zh hp
    clear hp
    have Bz:=Below.refl wr.heap.size wr
    obtain⟨p50_0,p50_1,p50_2,p50_3,-⟩:=(hnd.below (zAa hB Bz)).ez
    go_upto_region 4 with(fail)
    obtain⟨V1,hW,x0,hN⟩:=zAb wr #[.bool x.s,.slice x.A x.l x.c,.bool x.s',.slice x.A' x.l' x.c'] 27
    rw[←hW]
    clear hW
    obtain⟨v0,hb0⟩:∃b,b=wr.heap.size:=⟨_,rfl⟩
    rw[←hb0] at x0 ⊢
    have ow_0:w.heap.size≤v0:=by have:=zw hB Bz;omega
    replace hfr:=hfr.below hN
    replace hB:=zAa (zAa hB Bz) hN
    have HX0:=zh x0
    clear x0 hN Bz hb0
    have Bz:=Below.refl V1.heap.size V1
    clear p50_0 p50_1 p50_2 p50_3
    obtain⟨p0_0,p0_1,p0_2,p0_3,-⟩:=(zx HX0 Bz).cz
    go_wp2_with fail
    with_reducible refine(query11_q (FrOk.below hfr (by go_grown)) (by omega) true HP (zh (Tab.below hT.out (zAa hB (zAa (b:=V1) Bz (by go_grown)))))).mono ?_
    rintro e w1 ⟨rfl,b1⟩
    replace b1:=zAa (a:=V1) (by go_grown) b1
    replace Bz:=zAa Bz b1
    clear b1
    clear p0_0 p0_1 p0_2 p0_3
    go_wp2_with fail
    go_roundg (n-(i+1))
    case measure=>have:=HGK.out;omega
    case rel=>exact⟨i+1,by omega,rfl,by go_num,zAa (zAa hB Bz) (by go_grown),take_all HD.out HTI.out HP.out⟩
  ·obtain rfl:i=n:=by omega
   have i1:¬(i:Int)<(i:Int):=by omega
   obtain rfl:r=true:=by rw[←hr.out];exact all_yes HLN.out HD.out
   go_wp2_with fail
   go_ret
   exact⟨rfl,hB⟩
open Go.RowKit Tw
def Ch (w w':World) (b:Nat):Prop:=w.grownBy w' (some b)∧K64 w w'
theorem Ch.refl (w:World) (b:Nat):Ch w w b:=⟨⟨rfl,rfl,rfl,Nat.le_refl _,fun _ _ _=>rfl⟩,K64.refl w⟩
theorem Ch.trans {a b c:World} {x:Nat} (h:Ch a b x) (k:Ch b c x):Ch a c x:=⟨grown_trans h.1 k.1,h.2.trans k.2⟩
theorem Ch.of_below {w w':World} {b:Nat} (h:Below w.heap.size w w'):Ch w w' b:=⟨grown_below h _,K64.below h⟩
theorem Ch.bx {w w':World} {b x:Nat} {cs:Array Value} {t:TypeId} (h:Ch w w' b) (hx:Bx w x cs t) (hne:x≠b):Bx w' x cs t:=(h.1.block x hx.lt (by simpa using hne)).trans hx
theorem Ch.below {w w':World} {b B:Nat} (h:Ch w w' b) (hb:B≤b) (hB:B≤w.heap.size):Below B w w':=⟨h.1.os,h.1.tape,h.1.output,h.1.size,fun i hi=>h.1.block i (Nat.lt_of_lt_of_le hi hB) (by simp;omega)⟩
theorem Ch.set {w:World} {b i:Nat} {cs:Array Value} {t:TypeId} {u:Value} (h:Bx w b cs t) (hi:cs[i]?=some u) (hu:∀n,u≠.int .u64 n) (v:Value):Ch w (w.setCell ⟨b,i,none⟩ v) b:=⟨grown_set ⟨rfl,rfl,rfl,Nat.le_refl _,fun _ _ _=>rfl⟩ (.inl rfl) _,K64.box h hi hu v⟩
theorem Ch.fresh {a b c:World} {x y:Nat} (h:Ch a b x) (k:Ch b c y) (hy:a.heap.size≤y):Ch a c x :=
 ⟨⟨k.1.os.trans h.1.os,k.1.tape.trans h.1.tape,k.1.output.trans h.1.output,Nat.le_trans h.1.size k.1.size,fun i hi hn=>(k.1.block i (Nat.lt_of_lt_of_le hi h.1.size) (by simp;omega)).trans (h.1.block i hi hn)⟩,h.2.trans k.2⟩
def VcOk (w:World) (m:Nat) (v:Vc):Prop:=Sl Tm.cs 5 w v.A v.n v.c v.L∧(∀t∈v.L,FrOk w m t.x)∧v.n≤1000000
theorem VcOk.below {w w':World} {m:Nat} {v:Vc} (h:VcOk w m v) (hb:Below w.heap.size w w'):VcOk w' m v:=⟨h.1.below hb,fun t ht=>(h.2.1 t ht).below hb,h.2.2⟩
theorem VcOk.sl {w:World} {m:Nat} {v:Vc} (h:VcOk w m v):Sl Tm.cs 5 w v.A v.n v.c v.L:=h.1
theorem VcOk.fr {w:World} {m:Nat} {v:Vc} (h:VcOk w m v):∀t∈v.L,FrOk w m t.x:=h.2.1
def lens (L:List Vc):Nat:=(L.map (·.n)).sum
theorem affine1_q {w0 w:World} {m bt bn:Nat} {v:Vc} {T n:Int} (hB:Below w0.heap.size w0 w) (h:VcOk w0 m v) (hm:m≤20000) (hbt:w0.heap.size≤bt) (xt:Bx w bt #[.int .i64 T] 3) (xn:Bx w bn #[.int .i64 n] 3) (hne:bn≠bt) (hT0:0≤T) (hT1:T≤1000000000000) (r:Bool) (hr:Hid (rightB v.L n=r)) (hT:Hid (Tab w0)) :
  Calls Tryd.prog 42 #[.slice v.A v.n v.c,.pointer (some ⟨bt,0,none⟩),.pointer (some ⟨bn,0,none⟩)] w fun e w'=>e=.returned (.bool r)∧Bx w' bt #[.int .i64 (T+(v.n:Int))] 3∧Ch w w' bt:=by
 have hn:=h.2.2
 have HV:=zh h
 have XT:=zh xt
 have XN:=zh xn
 have c0:=xt.cell 0 (.int .i64 T) rfl
 have f0:=xt.frozen 0
 have y0:=xt.lt
 have c1:=xn.cell 0 (.int .i64 n) rfl
 have u1:IntKind.i64.wrap (T+(v.n:Int))=T+(v.n:Int):=IntWalk.i64_in _ (by omega)
 have hB2:Below w0.heap.size w0 (w.setCell ⟨bt,0,none⟩ (.int .i64 (T+(v.n:Int)))):=hB.setCell hbt _
 obtain⟨V,hV⟩:∃V,V=w.setCell ⟨bt,0,none⟩ (.int .i64 (T+(v.n:Int))):=⟨_,rfl⟩
 rw[←hV] at hB2
 have c2:V.cell? ⟨bn,0,none⟩=some (.int .i64 n):=by rw[hV];exact(xn.far hne _).cell 0 _ rfl
 clear h xt xn
 go_enter Tryd.func42,Tryd.ntmps42
 go_upto_region 2 with(fail)
 rw[←hV]
 have HVV:=zh hV
 clear hV
 go_wp2_with fail
 with_reducible refine(right_q (HV.out.below hB2).sl (HV.out.below hB2).fr hm (by omega) r hr (zh (Tab.below hT.out hB2))).mono ?_
 rintro e w1 ⟨rfl,b1⟩
 go_wp2_with fail
 go_ret
 have hc:Ch w V bt:=by rw[HVV.out];exact Ch.set XT.out (i:=0) rfl nofun _
 exact⟨rfl,Bx.below (by rw[HVV.out];exact XT.out.set 0 _) b1,hc.trans (Ch.of_below b1)⟩
theorem lens_take {L:List Vc} {i:Nat} {v:Vc} (h:L[i]?=some v):lens (L.take (i+1))=lens (L.take i)+v.n:=by
 unfold lens;rw[List.take_add_one,List.map_append,List.sum_append,h];simp
theorem lens_le {L:List Vc} {K:Nat} (h:∀v∈L,v.n≤K) (i:Nat):lens (L.take i)≤i*K:=by
 induction i with
 | zero=>simp[lens]
 | succ i ih =>
  rcases Nat.lt_or_ge i L.length with hi | hi
  ·rw[lens_take (List.getElem?_eq_getElem hi)];have:=h _ (List.getElem_mem hi);rw[Nat.add_mul];omega
  ·rw[List.take_of_length_le (by omega)] at ih ⊢;rw[Nat.add_mul];omega
def AV (w0 w:World) (bt bn:Nat) (T n:Int) (L:List Vc) (len gk:Nat) (s:Value) (wr:World):Prop :=
 ∃i:Nat,i≤len∧len-i=gk∧s=.int .i64 (i:Int)∧Below w0.heap.size w0 wr∧Ch w wr bt∧Bx wr bt #[.int .i64 (T+(lens (L.take i):Int))] 3∧Bx wr bn #[.int .i64 n] 3∧(L.take i).all (fun v=>rightB v.L n)=true
def TellsAllV (w:World) (bt:Nat) (T:Int) (L:List Vc) (r:Bool) (e:Ending) (w':World):Prop:=e=.returned (.bool r)∧(r=true→Bx w' bt #[.int .i64 (T+(lens L:Int))] 3)∧Ch w w' bt
theorem all_vec {w0 w:World} {A:Option Addr} {len c m bt bn:Nat} {L:List Vc} {T n:Int} (hB:Below w0.heap.size w0 w) (h:Sl Vc.cs 1 w0 A len c L) (hok:∀v∈L,VcOk w0 m v) (hm:m≤20000) (hlen:len≤100000) (hbt:w0.heap.size≤bt) (xt:Bx w bt #[.int .i64 T] 3) (xn:Bx w bn #[.int .i64 n] 3) (hne:bn≠bt) (hT0:0≤T) (hT1:T≤1000000) (r:Bool) (hr:Hid (L.all (fun v=>rightB v.L n)=r)) (hT:Hid (Tab w0)) :
  Calls Tryd.prog 44 #[.slice A len c,.func (.func 42) #[] #[.pointer (some ⟨bt,0,none⟩),.pointer (some ⟨bn,0,none⟩)]] w (TellsAllV w bt T L r):=by
 have H:=zh h
 have HLN:=zh h.1
 have HOK:=zh hok
 have hll:=zh (lens_le (K:=1000000) (fun v hv=>(hok v hv).2.2))
 have hst:AV w0 w bt bn T n L len len (.int .i64 ((0:Nat):Int)) w:=⟨0,Nat.zero_le _,rfl,rfl,hB,Ch.refl _ _,by simpa [lens] using xt,xn,by simp⟩
 have HST:=zh hst
 clear h hok hst xt xn hB
 go_enter Tryd.func44,Tryd.ntmps44
 go_wp2_with fail
 go_loopg [9] len (fun gk s wr=>AV w0 w bt bn T n L len gk s wr)
 case atStart=>exact HST.out
 case round =>
  clear HST
  obtain⟨i,hi,hgk,rfl,hB,hc,xt,xn,hd⟩:=hrel
  have HGK:=zh hgk
  have HD:=zh hd
  have XT:=zh xt
  have XN:=zh xn
  have HC:=zh hc
  clear hgk hd xt xn hc
  by_cases hlt:i<len
  ·obtain⟨b,off,rfl,hel⟩:=H.out.at Vc.cs_len (by omega) (by omega)
   obtain⟨v,hv⟩:∃v,L[i]?=some v:=⟨L[i]'(by rw[HLN.out];exact hlt),List.getElem?_eq_getElem _⟩
   have hnd:ElA w0 b (off+i) v.cs:=by have:=hel i v hv;rwa [Nat.mul_one] at this
   have HTI:=zh hv
   have HVO:=zh (HOK.out v (List.mem_of_getElem? hv))
   have p0:=(hnd.below hB).c0 (u:=.slice v.A v.n v.c) rfl
   have i1:(i:Int)<(len:Int):=by omega
   have i2:(0:Int)≤(i:Int):=by omega
   have hlb:=hll.out i
   have hvn:=HVO.out.2.2
   clear hv hel hnd
   obtain⟨rv,HRV⟩:∃rv,Hid (rightB v.L n=rv):=⟨_,zh rfl⟩
   go_wp2_with fail
   with_reducible refine(affine1_q hB HVO.out hm hbt XT.out XN.out hne (by omega) (by omega) rv HRV hT).mono ?_
   rintro e w2 ⟨rfl,x2,ch⟩
   have hB2:Below w0.heap.size w0 w2:=hB.trans (ch.below hbt hB.size)
   replace XN:=zh (ch.bx XN.out hne)
   replace HC:=zh (HC.out.trans ch)
   have X2:=zh x2
   clear p0 x2 ch
   cases rv
   ·obtain rfl:r=false:=by rw[←hr.out];exact all_no HTI.out HRV.out
    go_wp2_with fail
    go_ret
    exact⟨rfl,(fun h=>by cases h),HC.out⟩
   ·go_wp2_with fail
    go_roundg (len-(i+1))
    case measure=>have:=HGK.out;omega
    case rel=>exact⟨i+1,by omega,rfl,by go_num,hB2,HC.out,by rw[lens_take HTI.out,Int.natCast_add,←Int.add_assoc];exact X2.out,XN.out,take_all HD.out HTI.out HRV.out⟩
  ·obtain rfl:i=len:=by omega
   have i1:¬(i:Int)<(i:Int):=by omega
   obtain rfl:r=true:=by rw[←hr.out];exact all_yes HLN.out HD.out
   go_wp2_with fail
   go_ret
   exact⟨rfl,fun _=>by have:=XT.out;rwa [List.take_of_length_le (by rw[HLN.out];exact Nat.le_refl _)] at this,HC.out⟩
def risesB (n:Int):Int→List Int→Bool
 | _,[]=>true
 | a,x :: xs=>(decide (a<x)&&decide (x<n))&&risesB n x xs
def lastOf (a:Int) (L:List Int):Int:=L.getLast?.getD a
theorem lastOf_snoc (a:Int) (L:List Int) (x:Int):lastOf a (L++[x])=x:=by simp[lastOf]
theorem risesB_snoc (n:Int) (xs:List Int):∀(a y:Int),risesB n a (xs++[y])=(risesB n a xs&&(decide (lastOf a xs<y)&&decide (y<n))):=by
 induction xs with
 | nil =>
  intro a y
  show((decide (a<y)&&decide (y<n))&&true)=(true&&(decide (a<y)&&decide (y<n)))
  rw[Bool.and_true,Bool.true_and]
 | cons x xs ih =>
  intro a y
  show((decide (a<x)&&decide (x<n))&&risesB n x (xs++[y]))=(((decide (a<x)&&decide (x<n))&&risesB n x xs)&&_)
  rw[ih x y,Bool.and_assoc (decide (a<x)&&decide (x<n))]
  have:lastOf a (x :: xs)=lastOf x xs:=by
   unfold lastOf
   cases xs with
   | nil=>rfl
   | cons z zs=>rw[List.getLast?_cons_cons];cases h:(z :: zs).getLast? with
    | none=>simp at h
    | some u=>rfl
  rw[this]
theorem risesB_front (n:Int) (xs:List Int):∀(a:Int) (ys:List Int),risesB n a xs=false→risesB n a (xs++ys)=false:=by
 induction xs with
 | nil=>intro a ys h;simp[risesB] at h
 | cons x xs ih =>
  intro a ys h
  show((decide (a<x)&&decide (x<n))&&risesB n x (xs++ys))=false
  replace h:((decide (a<x)&&decide (x<n))&&risesB n x xs)=false:=h
  rw[Bool.and_eq_false_iff] at h ⊢
  rcases h with h | h
  ·exact .inl h
  ·exact .inr (ih x ys h)
theorem risesB_no {n a:Int} {L:List Int} {i:Nat} (h:risesB n a (L.take i)=false):risesB n a L=false:=by
 have:=risesB_front n _ a (L.drop i) h
 rwa [List.take_append_drop] at this
def Tells11 (w:World) (bl:Nat) (x:Int) (r:Bool) (e:Ending) (w':World):Prop:=e=.returned (.bool r)∧Bx w' bl #[.int .i64 x] 3∧Ch w w' bl
theorem pool11_q {w:World} {bl bn:Nat} {a x n:Int} (xl:Bx w bl #[.int .i64 a] 3) (xn:Bx w bn #[.int .i64 n] 3) (r:Bool) (hr:Hid ((decide (a<x)&&decide (x<n))=r)) :
  Calls Tryd.prog 51 #[.int .i64 x,.pointer (some ⟨bl,0,none⟩),.pointer (some ⟨bn,0,none⟩)] w (Tells11 w bl x r):=by
 have HF:Hid (Tells11 w bl x r (.returned (.bool r)) (w.setCell ⟨bl,0,none⟩ (.int .i64 x))):=zh ⟨rfl,xl.set 0 _,Ch.set xl (i:=0) rfl nofun _⟩
 have c0:=xl.cell 0 (.int .i64 a) rfl
 have f0:=xl.frozen 0
 have y0:=xl.lt
 have c1:=xn.cell 0 (.int .i64 n) rfl
 clear xl xn
 cases h1:decide (a<x)
 ·obtain rfl:r=false:=by rw[←hr.out,h1];rfl
  clear hr
  go_enter Tryd.func51,Tryd.ntmps51
  go_wp2_with fail
  go_ret
  exact HF.out
 ·have g1:decide (x<n)=r:=by rw[←hr.out,h1];rfl
  clear hr
  go_enter Tryd.func51,Tryd.ntmps51
  go_wp2_with fail
  go_ret
  exact HF.out
def AI (w0 w:World) (bl bn:Nat) (a n:Int) (L:List Int) (len gk:Nat) (s:Value) (wr:World):Prop :=
 ∃i:Nat,i≤len∧len-i=gk∧s=.int .i64 (i:Int)∧Below w0.heap.size w0 wr∧Ch w wr bl∧Bx wr bl #[.int .i64 (lastOf a (L.take i))] 3∧Bx wr bn #[.int .i64 n] 3∧risesB n a (L.take i)=true
def TellsAllI (w:World) (bl:Nat) (r:Bool) (e:Ending) (w':World):Prop:=e=.returned (.bool r)∧Ch w w' bl
theorem all_pool11 {w0 w:World} {A:Option Addr} {len c bl bn:Nat} {L:List Int} {a n:Int} (hB:Below w0.heap.size w0 w) (h:Sl ics 1 w0 A len c L) (hlen:len≤1000000000) (hbl:w0.heap.size≤bl) (xl:Bx w bl #[.int .i64 a] 3) (xn:Bx w bn #[.int .i64 n] 3) (hne:bn≠bl) (r:Bool) (hr:Hid (risesB n a L=r)) :
  Calls Tryd.prog 46 #[.slice A len c,.func (.func 51) #[] #[.pointer (some ⟨bl,0,none⟩),.pointer (some ⟨bn,0,none⟩)]] w (TellsAllI w bl r):=by
 have H:=zh h
 have HLN:=zh h.1
 have hst:AI w0 w bl bn a n L len len (.int .i64 ((0:Nat):Int)) w:=⟨0,Nat.zero_le _,rfl,rfl,hB,Ch.refl _ _,by simpa [lastOf] using xl,xn,by simp[risesB]⟩
 have HST:=zh hst
 clear h hst xl xn hB
 go_enter Tryd.func46,Tryd.ntmps46
 go_wp2_with fail
 go_loopg [9] len (fun gk s wr=>AI w0 w bl bn a n L len gk s wr)
 case atStart=>exact HST.out
 case round =>
  clear HST
  obtain⟨i,hi,hgk,rfl,hB,hc,xl,xn,hd⟩:=hrel
  have HGK:=zh hgk
  have HD:=zh hd
  have XL:=zh xl
  have XN:=zh xn
  have HC:=zh hc
  clear hgk hd xl xn hc
  by_cases hlt:i<len
  ·obtain⟨b,off,rfl,hel⟩:=H.out.at ics_len (by omega) (by omega)
   obtain⟨x,hx⟩:∃x,L[i]?=some x:=⟨L[i]'(by rw[HLN.out];exact hlt),List.getElem?_eq_getElem _⟩
   have hnd:ElA w0 b (off+i) (ics x):=by have:=hel i x hx;rwa [Nat.mul_one] at this
   have HTI:=zh hx
   have p0:=(hnd.below hB).c0 (u:=.int .i64 x) rfl
   have i1:(i:Int)<(len:Int):=by omega
   have i2:(0:Int)≤(i:Int):=by omega
   clear hx hel hnd
   obtain⟨rv,HRV⟩:∃rv,Hid ((decide (lastOf a (L.take i)<x)&&decide (x<n))=rv):=⟨_,zh rfl⟩
   go_wp2_with fail
   with_reducible refine(pool11_q XL.out XN.out rv HRV).mono ?_
   rintro e w2 ⟨rfl,x2,ch⟩
   have hB2:Below w0.heap.size w0 w2:=hB.trans (ch.below hbl hB.size)
   replace XN:=zh (ch.bx XN.out hne)
   replace HC:=zh (HC.out.trans ch)
   have X2:=zh x2
   have hrs:risesB n a (L.take (i+1))=rv:=by rw[take_snoc HTI.out,risesB_snoc,HD.out,HRV.out];rfl
   have HRS:=zh hrs
   clear p0 x2 ch hrs
   cases rv
   ·obtain rfl:r=false:=by rw[←hr.out];exact risesB_no HRS.out
    go_wp2_with fail
    go_ret
    exact⟨rfl,HC.out⟩
   ·go_wp2_with fail
    go_roundg (len-(i+1))
    case measure=>have:=HGK.out;omega
    case rel=>exact⟨i+1,by omega,rfl,by go_num,hB2,HC.out,by rw[take_snoc HTI.out,lastOf_snoc];exact X2.out,XN.out,HRS.out⟩
  ·obtain rfl:i=len:=by omega
   have i1:¬(i:Int)<(i:Int):=by omega
   obtain rfl:r=true:=by rw[←hr.out];have:=HD.out;rwa [List.take_of_length_le (by rw[HLN.out];exact Nat.le_refl _)] at this
   go_wp2_with fail
   go_ret
   exact⟨rfl,HC.out⟩
structure Gp where
 A:Option Addr
 n:Nat
 c:Nat
 L:List Int
def Gp.cs (v:Gp):List Value:=[.slice v.A v.n v.c]
theorem Gp.cs_len (v:Gp):v.cs.length=1:=rfl
def GpOk (w:World) (v:Gp):Prop:=Sl ics 1 w v.A v.n v.c v.L∧v.n≤1000000
theorem GpOk.below {w w':World} {v:Gp} (h:GpOk w v) (hb:Below w.heap.size w w'):GpOk w' v:=⟨h.1.below hb,h.2⟩
theorem GpOk.sl {w:World} {v:Gp} (h:GpOk w v):Sl ics 1 w v.A v.n v.c v.L:=h.1
def groupB (n:Int) (v:Gp):Bool:=decide (0<v.n)&&risesB n (-1) v.L
def glens (L:List Gp):Nat:=(L.map (·.n)).sum
def Tells1P (w:World) (bt:Nat) (T:Int) (v:Gp) (r:Bool) (e:Ending) (w':World):Prop:=e=.returned (.bool r)∧Bx w' bt #[.int .i64 (T+(v.n:Int))] 3∧Ch w w' bt
theorem pool1_q {w0 w:World} {bt bn:Nat} {v:Gp} {T n:Int} (hB:Below w0.heap.size w0 w) (h:GpOk w0 v) (hbt:w0.heap.size≤bt) (xt:Bx w bt #[.int .i64 T] 3) (xn:Bx w bn #[.int .i64 n] 3) (hne:bn≠bt) (hT0:0≤T) (hT1:T≤1000000000000) (r:Bool) (hr:Hid (groupB n v=r)) :
  Calls Tryd.prog 50 #[.slice v.A v.n v.c,.pointer (some ⟨bt,0,none⟩),.pointer (some ⟨bn,0,none⟩)] w (Tells1P w bt T v r):=by
 have hn:=h.2
 have HV:=zh h
 have XT:=zh xt
 have XN:=zh xn
 have c0:=xt.cell 0 (.int .i64 T) rfl
 have f0:=xt.frozen 0
 have y0:=xt.lt
 have u1:IntKind.i64.wrap (T+(v.n:Int))=T+(v.n:Int):=IntWalk.i64_in _ (by omega)
 have hB2:Below w0.heap.size w0 (w.setCell ⟨bt,0,none⟩ (.int .i64 (T+(v.n:Int)))):=hB.setCell hbt _
 obtain⟨V,hV⟩:∃V,V=w.setCell ⟨bt,0,none⟩ (.int .i64 (T+(v.n:Int))):=⟨_,rfl⟩
 rw[←hV] at hB2
 have hc:Ch w V bt:=by rw[hV];exact Ch.set XT.out (i:=0) rfl nofun _
 have xt2:Bx V bt #[.int .i64 (T+(v.n:Int))] 3:=by rw[hV];exact XT.out.set 0 _
 have XT2:=zh xt2
 have XN2:=zh (hc.bx xn hne)
 have HC:=zh hc
 obtain⟨V5,hV5,x5,hN5⟩:=zAb V #[.int .i64 (-1)] 3
 obtain⟨b5,hb5⟩:∃b,b=V.heap.size:=⟨_,rfl⟩
 rw[←hb5] at x5
 have X5:=zh x5
 have hb5w:w0.heap.size≤b5:=by rw[hb5];exact hB2.size
 have hbn5:bn≠b5:=by have:=XN2.out.lt;omega
 have hbt5:bt≠b5:=by have:=XT2.out.lt;omega
 have HB5:=zh hb5
 clear h xt xn hc xt2 x5
 go_enter Tryd.func50,Tryd.ntmps50
 go_upto_region 2 with(fail)
 rw[←hV]
 clear hV
 go_upto_region 3 with(fail)
 rw[←hV5,←hb5]
 clear hV5 hb5
 by_cases h0:0<v.n
 ·have g1:decide ((0:Int)<(v.n:Int))=true:=decide_eq_true (by omega)
  have HR:Hid (risesB n (-1) v.L=r):=zh (by rw[←hr.out];unfold groupB;rw[decide_eq_true h0,Bool.true_and])
  go_wp2_with fail
  with_reducible refine(all_pool11 (zAa hB2 hN5) HV.out.sl (by omega) hb5w X5.out (XN2.out.below hN5) hbn5 r HR).mono ?_
  rintro e w3 ⟨rfl,ch⟩
  go_wp2_with fail
  go_ret
  exact⟨rfl,ch.bx (XT2.out.below hN5) hbt5,(HC.out.trans (Ch.of_below hN5)).fresh ch (by rw[HB5.out];exact HC.out.1.size)⟩
 ·have g1:decide ((0:Int)<(v.n:Int))=false:=decide_eq_false (by omega)
  have g2:¬(0:Int)<(v.n:Int):=by omega
  obtain rfl:r=false:=by rw[←hr.out];unfold groupB;rw[decide_eq_false h0,Bool.false_and]
  go_wp2_with fail
  go_ret
  exact⟨rfl,XT2.out.below hN5,HC.out.trans (Ch.of_below hN5)⟩
theorem glens_take {L:List Gp} {i:Nat} {v:Gp} (h:L[i]?=some v):glens (L.take (i+1))=glens (L.take i)+v.n:=by
 unfold glens;rw[List.take_add_one,List.map_append,List.sum_append,h];simp
theorem glens_le {L:List Gp} {K:Nat} (h:∀v∈L,v.n≤K) (i:Nat):glens (L.take i)≤i*K:=by
 induction i with
 | zero=>simp[glens]
 | succ i ih =>
  rcases Nat.lt_or_ge i L.length with hi | hi
  ·rw[glens_take (List.getElem?_eq_getElem hi)];have:=h _ (List.getElem_mem hi);rw[Nat.add_mul];omega
  ·rw[List.take_of_length_le (by omega)] at ih ⊢;rw[Nat.add_mul];omega
def AG (w0 w:World) (bt bn:Nat) (T n:Int) (L:List Gp) (len gk:Nat) (s:Value) (wr:World):Prop :=
 ∃i:Nat,i≤len∧len-i=gk∧s=.int .i64 (i:Int)∧Below w0.heap.size w0 wr∧Ch w wr bt∧Bx wr bt #[.int .i64 (T+(glens (L.take i):Int))] 3∧Bx wr bn #[.int .i64 n] 3∧(L.take i).all (fun v=>groupB n v)=true
def TellsAllG (w:World) (bt:Nat) (T:Int) (L:List Gp) (r:Bool) (e:Ending) (w':World):Prop:=e=.returned (.bool r)∧(r=true→Bx w' bt #[.int .i64 (T+(glens L:Int))] 3)∧Ch w w' bt
theorem all_groups {w0 w:World} {A:Option Addr} {len c bt bn:Nat} {L:List Gp} {T n:Int} (hB:Below w0.heap.size w0 w) (h:Sl Gp.cs 1 w0 A len c L) (hok:∀v∈L,GpOk w0 v) (hlen:len≤100000) (hbt:w0.heap.size≤bt) (xt:Bx w bt #[.int .i64 T] 3) (xn:Bx w bn #[.int .i64 n] 3) (hne:bn≠bt) (hT0:0≤T) (hT1:T≤1000000) (r:Bool) (hr:Hid (L.all (fun v=>groupB n v)=r)) :
  Calls Tryd.prog 52 #[.slice A len c,.func (.func 50) #[] #[.pointer (some ⟨bt,0,none⟩),.pointer (some ⟨bn,0,none⟩)]] w (TellsAllG w bt T L r):=by
 have H:=zh h
 have HLN:=zh h.1
 have HOK:=zh hok
 have hll:=zh (glens_le (K:=1000000) (fun v hv=>(hok v hv).2))
 have hst:AG w0 w bt bn T n L len len (.int .i64 ((0:Nat):Int)) w:=⟨0,Nat.zero_le _,rfl,rfl,hB,Ch.refl _ _,by simpa [glens] using xt,xn,by simp⟩
 have HST:=zh hst
 clear h hok hst xt xn hB
 go_enter Tryd.func52,Tryd.ntmps52
 go_wp2_with fail
 go_loopg [9] len (fun gk s wr=>AG w0 w bt bn T n L len gk s wr)
 case atStart=>exact HST.out
 case round =>
  clear HST
  obtain⟨i,hi,hgk,rfl,hB,hc,xt,xn,hd⟩:=hrel
  have HGK:=zh hgk
  have HD:=zh hd
  have XT:=zh xt
  have XN:=zh xn
  have HC:=zh hc
  clear hgk hd xt xn hc
  by_cases hlt:i<len
  ·obtain⟨b,off,rfl,hel⟩:=H.out.at Gp.cs_len (by omega) (by omega)
   obtain⟨v,hv⟩:∃v,L[i]?=some v:=⟨L[i]'(by rw[HLN.out];exact hlt),List.getElem?_eq_getElem _⟩
   have hnd:ElA w0 b (off+i) v.cs:=by have:=hel i v hv;rwa [Nat.mul_one] at this
   have HTI:=zh hv
   have HVO:=zh (HOK.out v (List.mem_of_getElem? hv))
   have p0:=(hnd.below hB).c0 (u:=.slice v.A v.n v.c) rfl
   have i1:(i:Int)<(len:Int):=by omega
   have i2:(0:Int)≤(i:Int):=by omega
   have hlb:=hll.out i
   have hvn:=HVO.out.2
   clear hv hel hnd
   obtain⟨rv,HRV⟩:∃rv,Hid (groupB n v=rv):=⟨_,zh rfl⟩
   go_wp2_with fail
   with_reducible refine(pool1_q hB HVO.out hbt XT.out XN.out hne (by omega) (by omega) rv HRV).mono ?_
   rintro e w2 ⟨rfl,x2,ch⟩
   have hB2:Below w0.heap.size w0 w2:=hB.trans (ch.below hbt hB.size)
   replace XN:=zh (ch.bx XN.out hne)
   replace HC:=zh (HC.out.trans ch)
   have X2:=zh x2
   clear p0 x2 ch
   cases rv
   ·obtain rfl:r=false:=by rw[←hr.out];exact all_no HTI.out HRV.out
    go_wp2_with fail
    go_ret
    exact⟨rfl,(fun h=>by cases h),HC.out⟩
   ·go_wp2_with fail
    go_roundg (len-(i+1))
    case measure=>have:=HGK.out;omega
    case rel=>exact⟨i+1,by omega,rfl,by go_num,hB2,HC.out,by rw[glens_take HTI.out,Int.natCast_add,←Int.add_assoc];exact X2.out,XN.out,take_all HD.out HTI.out HRV.out⟩
  ·obtain rfl:i=len:=by omega
   have i1:¬(i:Int)<(i:Int):=by omega
   obtain rfl:r=true:=by rw[←hr.out];exact all_yes HLN.out HD.out
   go_wp2_with fail
   go_ret
   exact⟨rfl,fun _=>by have:=XT.out;rwa [List.take_of_length_le (by rw[HLN.out];exact Nat.le_refl _)] at this,HC.out⟩
open Go.RowKit Tw
structure Ly where
 kind:Int
 rA:Option Addr
 rn:Nat
 rc:Nat
 rows:List Vc
 bA:Option Addr
 bn:Nat
 bc:Nat
 bias:List Fr
 ch:Int
 high:Int
 wide:Int
 out:Int
 kh:Int
 kw:Int
 st:Int
 pad:Int
 kA:Option Addr
 kn:Nat
 kc:Nat
 kern:List Fr
 gA:Option Addr
 gn:Nat
 gc:Nat
 groups:List Gp
def Ly.cs (y:Ly):List Value:=[.int .u8 y.kind,.slice y.rA y.rn y.rc,.slice y.bA y.bn y.bc,.int .i64 y.ch,.int .i64 y.high,.int .i64 y.wide,.int .i64 y.out,.int .i64 y.kh,.int .i64 y.kw,.int .i64 y.st,.int .i64 y.pad,.slice y.kA y.kn y.kc,.slice y.gA y.gn y.gc]
theorem Ly.cs_len (y:Ly):y.cs.length=13:=rfl
structure LyOk (w:World) (m:Nat) (y:Ly):Prop where
 rows:Sl Vc.cs 1 w y.rA y.rn y.rc y.rows
 rok:∀v∈y.rows,VcOk w m v
 bias:Sl Fr.cs 4 w y.bA y.bn y.bc y.bias
 bok:∀x∈y.bias,FrOk w m x
 kern:Sl Fr.cs 4 w y.kA y.kn y.kc y.kern
 kok:∀x∈y.kern,FrOk w m x
 groups:Sl Gp.cs 1 w y.gA y.gn y.gc y.groups
 gok:∀v∈y.groups,GpOk w v
 lens:y.rn≤100000∧y.bn≤100000∧y.kn≤100000∧y.gn≤100000
theorem LyOk.below {w w':World} {m:Nat} {y:Ly} (h:LyOk w m y) (hb:Below w.heap.size w w'):LyOk w' m y :=
 ⟨h.rows.below hb,fun v hv=>(h.rok v hv).below hb,h.bias.below hb,fun v hv=>(h.bok v hv).below hb,h.kern.below hb,fun v hv=>(h.kok v hv).below hb,h.groups.below hb,fun v hv=>(h.gok v hv).below hb,h.lens⟩
theorem ints_sl {w:World} {b:Nat} (L:List Int) (h:Bx w b (L.map (Value.int .i64)).toArray 3) (n:Nat) (hn:L.length=n):Sl ics 1 w (some ⟨b,0,none⟩) n n L:=by
 subst hn
 refine⟨rfl,by rw[flat_len ics_len],_,_,rfl,(fun h=>(by cases h)),fun a ha j u hu=>?_⟩
 cases ha
 rw[add_off,Nat.zero_add]
 refine h.cell j u ?_
 rw[List.getElem?_toArray]
 have e:∀L:List Int,flat ics L=L.map (Value.int .i64):=fun L=>by
  unfold flat
  induction L with
  | nil=>rfl
  | cons x L ih=>rw[List.flatMap_cons,ih];rfl
 rw[←e];exact hu
def nums (y:Ly):List Int:=[y.ch,y.high,y.wide,y.out,y.kh,y.kw,y.st,y.pad]
def plainB (y:Ly):Bool:=decide (y.kn=0)&&(nums y).all fun z=>decide (z=0)
theorem plain_q {w:World} {y:Ly} (_hk:y.kn≤1000000000) (t:Bool) (ht:Hid (plainB y=t)) :
  Calls Tryd.prog 32 #[.agg #[.int .u8 y.kind,.slice y.rA y.rn y.rc,.slice y.bA y.bn y.bc,.int .i64 y.ch,.int .i64 y.high,.int .i64 y.wide,.int .i64 y.out,.int .i64 y.kh,.int .i64 y.kw,.int .i64 y.st,.int .i64 y.pad,.slice y.kA y.kn y.kc,.slice y.gA y.gn y.gc]] w fun e w'=>e=.returned (.bool t)∧Below w.heap.size w w':=by
 by_cases h0:y.kn=0
 ·have g0:((y.kn:Int)==0)=true:=by simp;omega
  have HT:Hid ((nums y).all (fun z=>decide (z=0))=t):=zh (by rw[←ht.out];unfold plainB;rw[decide_eq_true h0,Bool.true_and])
  clear h0 ht
  obtain⟨W,hW,x0,hB⟩:=zAb w #[.int .u8 y.kind,.slice y.rA y.rn y.rc,.slice y.bA y.bn y.bc,.int .i64 y.ch,.int .i64 y.high,.int .i64 y.wide,.int .i64 y.out,.int .i64 y.kh,.int .i64 y.kw,.int .i64 y.st,.int .i64 y.pad,.slice y.kA y.kn y.kc,.slice y.gA y.gn y.gc] 38
  have HX0:=zh x0
  clear x0
  have Bz:=Below.refl W.heap.size W
  obtain⟨-,-,-,p0_3,p0_4,p0_5,p0_6,p0_7,p0_8,p0_9,p0_10,-⟩:=(zx HX0 Bz).cz
  go_enter Tryd.func32,Tryd.ntmps32
  go_upto_region 1 with(fail)
  rw[←hW]
  clear hW
  go_upto_region 2 with(fail)
  obtain⟨V1,hW,x1,hN⟩:=zAb W #[.int .i64 y.ch,.int .i64 y.high,.int .i64 y.wide,.int .i64 y.out,.int .i64 y.kh,.int .i64 y.kw,.int .i64 y.st,.int .i64 y.pad] 3
  rw[←hW]
  clear hW
  obtain⟨v1,hb1⟩:∃b,b=W.heap.size:=⟨_,rfl⟩
  rw[←hb1] at x1 ⊢
  have o0_1:w.heap.size<v1:=by have:=(zx HX0 Bz).lt;omega
  have ow_1:w.heap.size≤v1:=by have:=zw hB Bz;omega
  replace hB:=zAa (zAa hB Bz) hN
  replace HX0:=zh ((zx HX0 Bz).below hN)
  have HX1:=zh x1
  clear x1 hN Bz hb1
  have Bz:=Below.refl V1.heap.size V1
  clear p0_3 p0_4 p0_5 p0_6 p0_7 p0_8 p0_9 p0_10
  have p0_11:=(zx HX0 Bz).cell 11 (.slice y.kA y.kn y.kc) rfl
  go_wp2_with fail
  with_reducible refine(all_plain (ints_sl (nums y) (HX1.out.below (zAa Bz (by go_grown))) 8 rfl) (by omega) t HT).mono ?_
  rintro e w1 ⟨rfl,b1⟩
  replace b1:=zAa (a:=V1) (by go_grown) b1
  replace Bz:=zAa Bz b1
  clear b1
  clear p0_11
  go_wp2_with fail
  go_ret
  have hF:=zAa (c:=w1) hB Bz
  exact⟨rfl,zAa hF (by go_grown)⟩
 ·have g0:((y.kn:Int)==0)=false:=by simp;omega
  obtain rfl:t=false:=by rw[←ht.out];unfold plainB;rw[decide_eq_false h0,Bool.false_and]
  clear h0 ht
  obtain⟨W,hW,x0,hB⟩:=zAb w #[.int .u8 y.kind,.slice y.rA y.rn y.rc,.slice y.bA y.bn y.bc,.int .i64 y.ch,.int .i64 y.high,.int .i64 y.wide,.int .i64 y.out,.int .i64 y.kh,.int .i64 y.kw,.int .i64 y.st,.int .i64 y.pad,.slice y.kA y.kn y.kc,.slice y.gA y.gn y.gc] 38
  have HX0:=zh x0
  clear x0
  have Bz:=Below.refl W.heap.size W
  obtain⟨-,-,-,p0_3,p0_4,p0_5,p0_6,p0_7,p0_8,p0_9,p0_10,-⟩:=(zx HX0 Bz).cz
  go_enter Tryd.func32,Tryd.ntmps32
  go_upto_region 1 with(fail)
  rw[←hW]
  clear hW
  go_upto_region 2 with(fail)
  obtain⟨V1,hW,x1,hN⟩:=zAb W #[.int .i64 y.ch,.int .i64 y.high,.int .i64 y.wide,.int .i64 y.out,.int .i64 y.kh,.int .i64 y.kw,.int .i64 y.st,.int .i64 y.pad] 3
  rw[←hW]
  clear hW
  obtain⟨v1,hb1⟩:∃b,b=W.heap.size:=⟨_,rfl⟩
  rw[←hb1] at x1 ⊢
  have o0_1:w.heap.size<v1:=by have:=(zx HX0 Bz).lt;omega
  have ow_1:w.heap.size≤v1:=by have:=zw hB Bz;omega
  replace hB:=zAa (zAa hB Bz) hN
  replace HX0:=zh ((zx HX0 Bz).below hN)
  have HX1:=zh x1
  clear x1 hN Bz hb1
  have Bz:=Below.refl V1.heap.size V1
  clear p0_3 p0_4 p0_5 p0_6 p0_7 p0_8 p0_9 p0_10
  have p0_11:=(zx HX0 Bz).cell 11 (.slice y.kA y.kn y.kc) rfl
  go_wp2_with fail
  go_ret
  have hF:=zAa (c:=V1) hB Bz
  exact⟨rfl,zAa hF (by go_grown)⟩
def affineF (y:Ly) (n:Int):Option (Int×Int) :=
 if plainB y=false then none else if 0<y.gn then none else if y.rn=0 then none else if y.rn≠y.bn then none
 else if(y.rows.all fun v=>rightB v.L n)=false then none else if(y.bias.all fun x=>x.ex)=false then none else some (y.rn,lens y.rows)
def TellsB (w:World) (f:Option (Int×Int)) (e:Ending) (w':World):Prop :=
 e=.returned (match f with | none=>.tuple #[.int .i64 0,.int .i64 0,.bool false] | some (a,b)=>.tuple #[.int .i64 a,.int .i64 b,.bool true])∧Below w.heap.size w w'
theorem affine_W1 {w:World} {m:Nat} {y:Ly} {n:Int} (_h:LyOk w m y) (_hm:m≤20000) (hl:y.rn≤100000∧y.bn≤100000∧y.kn≤100000∧y.gn≤100000) (HP:Hid (plainB y=false)) (HA:Hid (affineF y n=none)) (_hT:Hid (Tab w)) :
  Calls Tryd.prog 30 #[.agg #[.int .u8 y.kind,.slice y.rA y.rn y.rc,.slice y.bA y.bn y.bc,.int .i64 y.ch,.int .i64 y.high,.int .i64 y.wide,.int .i64 y.out,.int .i64 y.kh,.int .i64 y.kw,.int .i64 y.st,.int .i64 y.pad,.slice y.kA y.kn y.kc,.slice y.gA y.gn y.gc],.int .i64 n] w (TellsB w (affineF y n)):=by
  obtain⟨W,hW,x0,x1,hB⟩:=boxes2 w #[.int .u8 y.kind,.slice y.rA y.rn y.rc,.slice y.bA y.bn y.bc,.int .i64 y.ch,.int .i64 y.high,.int .i64 y.wide,.int .i64 y.out,.int .i64 y.kh,.int .i64 y.kw,.int .i64 y.st,.int .i64 y.pad,.slice y.kA y.kn y.kc,.slice y.gA y.gn y.gc] 38 #[.int .i64 n] 3
  have HX0:=zh x0
  have HX1:=zh x1
  clear x0 x1
  have Bz:=Below.refl W.heap.size W
  obtain⟨p0_0,p0_1,p0_2,p0_3,p0_4,p0_5,p0_6,p0_7,p0_8,p0_9,p0_10,p0_11,p0_12,-⟩:=(zx HX0 Bz).cz
  go_enter Tryd.func30,Tryd.ntmps30
  go_wp2_with fail
  rw[←hW]
  clear hW
  go_wp2_with fail
  with_reducible refine(plain_q (by omega) false HP).mono ?_
  rintro e w1 ⟨rfl,b1⟩
  replace b1:=zAa (a:=W) (by go_grown) b1
  replace Bz:=zAa Bz b1
  clear b1
  clear p0_0 p0_1 p0_2 p0_3 p0_4 p0_5 p0_6 p0_7 p0_8 p0_9 p0_10 p0_11 p0_12
  go_wp2_with fail
  go_ret3
  have hF:=zAa (c:=w1) hB Bz
  exact⟨by rw[HA.out];rfl,zAa hF (by go_grown)⟩
theorem affine_W2 {w:World} {m:Nat} {y:Ly} {n:Int} (_h:LyOk w m y) (_hm:m≤20000) (hl:y.rn≤100000∧y.bn≤100000∧y.kn≤100000∧y.gn≤100000) (HP:Hid (plainB y=true)) (g1:0<y.gn) (HA:Hid (affineF y n=none)) (_hT:Hid (Tab w)) :
  Calls Tryd.prog 30 #[.agg #[.int .u8 y.kind,.slice y.rA y.rn y.rc,.slice y.bA y.bn y.bc,.int .i64 y.ch,.int .i64 y.high,.int .i64 y.wide,.int .i64 y.out,.int .i64 y.kh,.int .i64 y.kw,.int .i64 y.st,.int .i64 y.pad,.slice y.kA y.kn y.kc,.slice y.gA y.gn y.gc],.int .i64 n] w (TellsB w (affineF y n)):=by
  obtain⟨W,hW,x0,x1,hB⟩:=boxes2 w #[.int .u8 y.kind,.slice y.rA y.rn y.rc,.slice y.bA y.bn y.bc,.int .i64 y.ch,.int .i64 y.high,.int .i64 y.wide,.int .i64 y.out,.int .i64 y.kh,.int .i64 y.kw,.int .i64 y.st,.int .i64 y.pad,.slice y.kA y.kn y.kc,.slice y.gA y.gn y.gc] 38 #[.int .i64 n] 3
  have HX0:=zh x0
  have HX1:=zh x1
  clear x0 x1
  have Bz:=Below.refl W.heap.size W
  obtain⟨p0_0,p0_1,p0_2,p0_3,p0_4,p0_5,p0_6,p0_7,p0_8,p0_9,p0_10,p0_11,p0_12,-⟩:=(zx HX0 Bz).cz
  go_enter Tryd.func30,Tryd.ntmps30
  go_wp2_with fail
  rw[←hW]
  clear hW
  go_wp2_with fail
  with_reducible refine(plain_q (by omega) true HP).mono ?_
  rintro e w1 ⟨rfl,b1⟩
  replace b1:=zAa (a:=W) (by go_grown) b1
  replace Bz:=zAa Bz b1
  clear b1
  clear p0_0 p0_1 p0_2 p0_3 p0_4 p0_5 p0_6 p0_7 p0_8 p0_9 p0_10 p0_11 p0_12
  have p0_12:=(zx HX0 Bz).cell 12 (.slice y.gA y.gn y.gc) rfl
  go_wp2_with fail
  go_ret3
  have hF:=zAa (c:=w1) hB Bz
  exact⟨by rw[HA.out];rfl,zAa hF (by go_grown)⟩
theorem affine_W3 {w:World} {m:Nat} {y:Ly} {n:Int} (_h:LyOk w m y) (_hm:m≤20000) (hl:y.rn≤100000∧y.bn≤100000∧y.kn≤100000∧y.gn≤100000) (HP:Hid (plainB y=true)) (g1:¬0<y.gn) (g2:((y.rn:Int)==0)=true) (HA:Hid (affineF y n=none)) (_hT:Hid (Tab w)) :
  Calls Tryd.prog 30 #[.agg #[.int .u8 y.kind,.slice y.rA y.rn y.rc,.slice y.bA y.bn y.bc,.int .i64 y.ch,.int .i64 y.high,.int .i64 y.wide,.int .i64 y.out,.int .i64 y.kh,.int .i64 y.kw,.int .i64 y.st,.int .i64 y.pad,.slice y.kA y.kn y.kc,.slice y.gA y.gn y.gc],.int .i64 n] w (TellsB w (affineF y n)):=by
  obtain⟨W,hW,x0,x1,hB⟩:=boxes2 w #[.int .u8 y.kind,.slice y.rA y.rn y.rc,.slice y.bA y.bn y.bc,.int .i64 y.ch,.int .i64 y.high,.int .i64 y.wide,.int .i64 y.out,.int .i64 y.kh,.int .i64 y.kw,.int .i64 y.st,.int .i64 y.pad,.slice y.kA y.kn y.kc,.slice y.gA y.gn y.gc] 38 #[.int .i64 n] 3
  have HX0:=zh x0
  have HX1:=zh x1
  clear x0 x1
  have Bz:=Below.refl W.heap.size W
  obtain⟨p0_0,p0_1,p0_2,p0_3,p0_4,p0_5,p0_6,p0_7,p0_8,p0_9,p0_10,p0_11,p0_12,-⟩:=(zx HX0 Bz).cz
  go_enter Tryd.func30,Tryd.ntmps30
  go_wp2_with fail
  rw[←hW]
  clear hW
  go_wp2_with fail
  with_reducible refine(plain_q (by omega) true HP).mono ?_
  rintro e w1 ⟨rfl,b1⟩
  replace b1:=zAa (a:=W) (by go_grown) b1
  replace Bz:=zAa Bz b1
  clear b1
  clear p0_0 p0_1 p0_2 p0_3 p0_4 p0_5 p0_6 p0_7 p0_8 p0_9 p0_10 p0_11 p0_12
  obtain⟨-,p0_1,-,-,-,-,-,-,-,-,-,-,p0_12,-⟩:=(zx HX0 Bz).cz
  go_wp2_with fail
  go_ret3
  have hF:=zAa (c:=w1) hB Bz
  exact⟨by rw[HA.out];rfl,zAa hF (by go_grown)⟩
theorem affine_W4 {w:World} {m:Nat} {y:Ly} {n:Int} (_h:LyOk w m y) (_hm:m≤20000) (hl:y.rn≤100000∧y.bn≤100000∧y.kn≤100000∧y.gn≤100000) (HP:Hid (plainB y=true)) (g1:¬0<y.gn) (g2:((y.rn:Int)==0)=false) (g3:((y.rn:Int) !=(y.bn:Int))=true) (HA:Hid (affineF y n=none)) (_hT:Hid (Tab w)) :
  Calls Tryd.prog 30 #[.agg #[.int .u8 y.kind,.slice y.rA y.rn y.rc,.slice y.bA y.bn y.bc,.int .i64 y.ch,.int .i64 y.high,.int .i64 y.wide,.int .i64 y.out,.int .i64 y.kh,.int .i64 y.kw,.int .i64 y.st,.int .i64 y.pad,.slice y.kA y.kn y.kc,.slice y.gA y.gn y.gc],.int .i64 n] w (TellsB w (affineF y n)):=by
  obtain⟨W,hW,x0,x1,hB⟩:=boxes2 w #[.int .u8 y.kind,.slice y.rA y.rn y.rc,.slice y.bA y.bn y.bc,.int .i64 y.ch,.int .i64 y.high,.int .i64 y.wide,.int .i64 y.out,.int .i64 y.kh,.int .i64 y.kw,.int .i64 y.st,.int .i64 y.pad,.slice y.kA y.kn y.kc,.slice y.gA y.gn y.gc] 38 #[.int .i64 n] 3
  have HX0:=zh x0
  have HX1:=zh x1
  clear x0 x1
  have Bz:=Below.refl W.heap.size W
  obtain⟨p0_0,p0_1,p0_2,p0_3,p0_4,p0_5,p0_6,p0_7,p0_8,p0_9,p0_10,p0_11,p0_12,-⟩:=(zx HX0 Bz).cz
  go_enter Tryd.func30,Tryd.ntmps30
  go_wp2_with fail
  rw[←hW]
  clear hW
  go_wp2_with fail
  with_reducible refine(plain_q (by omega) true HP).mono ?_
  rintro e w1 ⟨rfl,b1⟩
  replace b1:=zAa (a:=W) (by go_grown) b1
  replace Bz:=zAa Bz b1
  clear b1
  clear p0_0 p0_1 p0_2 p0_3 p0_4 p0_5 p0_6 p0_7 p0_8 p0_9 p0_10 p0_11 p0_12
  obtain⟨-,p0_1,p0_2,-,-,-,-,-,-,-,-,-,p0_12,-⟩:=(zx HX0 Bz).cz
  go_wp2_with fail
  go_ret3
  have hF:=zAa (c:=w1) hB Bz
  exact⟨by rw[HA.out];rfl,zAa hF (by go_grown)⟩
theorem affine_W5 {w:World} {m:Nat} {y:Ly} {n:Int} (h:LyOk w m y) (hm:m≤20000) (hl:y.rn≤100000∧y.bn≤100000∧y.kn≤100000∧y.gn≤100000) (HP:Hid (plainB y=true)) (g1:¬0<y.gn) (g2:((y.rn:Int)==0)=false) (g3:((y.rn:Int) !=(y.bn:Int))=false) (HR:Hid ((y.rows.all fun v=>rightB v.L n)=false)) (HA:Hid (affineF y n=none)) (hT:Hid (Tab w)) :
  Calls Tryd.prog 30 #[.agg #[.int .u8 y.kind,.slice y.rA y.rn y.rc,.slice y.bA y.bn y.bc,.int .i64 y.ch,.int .i64 y.high,.int .i64 y.wide,.int .i64 y.out,.int .i64 y.kh,.int .i64 y.kw,.int .i64 y.st,.int .i64 y.pad,.slice y.kA y.kn y.kc,.slice y.gA y.gn y.gc],.int .i64 n] w (TellsB w (affineF y n)):=by
  obtain⟨W,hW,x0,x1,hB⟩:=boxes2 w #[.int .u8 y.kind,.slice y.rA y.rn y.rc,.slice y.bA y.bn y.bc,.int .i64 y.ch,.int .i64 y.high,.int .i64 y.wide,.int .i64 y.out,.int .i64 y.kh,.int .i64 y.kw,.int .i64 y.st,.int .i64 y.pad,.slice y.kA y.kn y.kc,.slice y.gA y.gn y.gc] 38 #[.int .i64 n] 3
  have HX0:=zh x0
  have HX1:=zh x1
  clear x0 x1
  have Bz:=Below.refl W.heap.size W
  obtain⟨p0_0,p0_1,p0_2,p0_3,p0_4,p0_5,p0_6,p0_7,p0_8,p0_9,p0_10,p0_11,p0_12,-⟩:=(zx HX0 Bz).cz
  go_enter Tryd.func30,Tryd.ntmps30
  go_wp2_with fail
  rw[←hW]
  clear hW
  go_wp2_with fail
  with_reducible refine(plain_q (by omega) true HP).mono ?_
  rintro e w1 ⟨rfl,b1⟩
  replace b1:=zAa (a:=W) (by go_grown) b1
  replace Bz:=zAa Bz b1
  clear b1
  clear p0_0 p0_1 p0_2 p0_3 p0_4 p0_5 p0_6 p0_7 p0_8 p0_9 p0_10 p0_11 p0_12
  obtain⟨-,p0_1,p0_2,-,-,-,-,-,-,-,-,-,p0_12,-⟩:=(zx HX0 Bz).cz
  go_upto_region 4 with(fail)
  obtain⟨V1,hW,x2,hN⟩:=zAb w1 #[.int .i64 0] 3
  rw[←hW]
  clear hW
  obtain⟨v2,hb2⟩:∃b,b=w1.heap.size:=⟨_,rfl⟩
  rw[←hb2] at x2 ⊢
  have o0_2:w.heap.size<v2:=by have:=(zx HX0 Bz).lt;omega
  have o1_2:w.heap.size+1<v2:=by have:=(zx HX1 Bz).lt;omega
  have ow_2:w.heap.size≤v2:=by have:=zw hB Bz;omega
  replace hB:=zAa (zAa hB Bz) hN
  replace HX0:=zh ((zx HX0 Bz).below hN)
  replace HX1:=zh ((zx HX1 Bz).below hN)
  have HX2:=zh x2
  clear x2 hN Bz hb2
  have Bz:=Below.refl V1.heap.size V1
  clear p0_1 p0_2 p0_12
  have p0_1:=(zx HX0 Bz).cell 1 (.slice y.rA y.rn y.rc) rfl
  go_wp2_with fail
  with_reducible refine(all_vec (w0:=w) (zAa hB (zAa (b:=V1) Bz (by go_grown))) h.rows h.rok hm (by omega) (by omega) (HX2.out.below (zAa Bz (by go_grown))) (HX1.out.below (zAa Bz (by go_grown))) (by omega) (by omega) (by omega) false HR hT).mono ?_
  rintro e w2 ⟨rfl,x2,ch2⟩
  replace ch2:=(Ch.of_below (w:=V1) (by go_grown)).trans ch2
  replace hB:=(zAa hB Bz).trans (ch2.below (by omega) (by have:=zw hB Bz;omega))
  replace HX0:=zh (ch2.bx (zx HX0 Bz) (by omega))
  replace HX1:=zh (ch2.bx (zx HX1 Bz) (by omega))
  clear HX2
  clear ch2 Bz
  have Bz:=Below.refl w2.heap.size w2
  clear p0_1
  go_wp2_with fail
  go_ret3
  have hF:=zAa (c:=w2) hB Bz
  exact⟨by rw[HA.out];rfl,zAa hF (by go_grown)⟩
theorem affine_W6 {w:World} {m:Nat} {y:Ly} {n:Int} (h:LyOk w m y) (hm:m≤20000) (hl:y.rn≤100000∧y.bn≤100000∧y.kn≤100000∧y.gn≤100000) (HP:Hid (plainB y=true)) (g1:¬0<y.gn) (g2:((y.rn:Int)==0)=false) (g3:((y.rn:Int) !=(y.bn:Int))=false) (HR:Hid ((y.rows.all fun v=>rightB v.L n)=true)) (HE:Hid ((y.bias.all fun x=>x.ex)=false)) (HA:Hid (affineF y n=none)) (hT:Hid (Tab w)) :
  Calls Tryd.prog 30 #[.agg #[.int .u8 y.kind,.slice y.rA y.rn y.rc,.slice y.bA y.bn y.bc,.int .i64 y.ch,.int .i64 y.high,.int .i64 y.wide,.int .i64 y.out,.int .i64 y.kh,.int .i64 y.kw,.int .i64 y.st,.int .i64 y.pad,.slice y.kA y.kn y.kc,.slice y.gA y.gn y.gc],.int .i64 n] w (TellsB w (affineF y n)):=by
  obtain⟨W,hW,x0,x1,hB⟩:=boxes2 w #[.int .u8 y.kind,.slice y.rA y.rn y.rc,.slice y.bA y.bn y.bc,.int .i64 y.ch,.int .i64 y.high,.int .i64 y.wide,.int .i64 y.out,.int .i64 y.kh,.int .i64 y.kw,.int .i64 y.st,.int .i64 y.pad,.slice y.kA y.kn y.kc,.slice y.gA y.gn y.gc] 38 #[.int .i64 n] 3
  have HX0:=zh x0
  have HX1:=zh x1
  clear x0 x1
  have Bz:=Below.refl W.heap.size W
  obtain⟨p0_0,p0_1,p0_2,p0_3,p0_4,p0_5,p0_6,p0_7,p0_8,p0_9,p0_10,p0_11,p0_12,-⟩:=(zx HX0 Bz).cz
  go_enter Tryd.func30,Tryd.ntmps30
  go_wp2_with fail
  rw[←hW]
  clear hW
  go_wp2_with fail
  with_reducible refine(plain_q (by omega) true HP).mono ?_
  rintro e w1 ⟨rfl,b1⟩
  replace b1:=zAa (a:=W) (by go_grown) b1
  replace Bz:=zAa Bz b1
  clear b1
  clear p0_0 p0_1 p0_2 p0_3 p0_4 p0_5 p0_6 p0_7 p0_8 p0_9 p0_10 p0_11 p0_12
  obtain⟨-,p0_1,p0_2,-,-,-,-,-,-,-,-,-,p0_12,-⟩:=(zx HX0 Bz).cz
  go_upto_region 4 with(fail)
  obtain⟨V1,hW,x2,hN⟩:=zAb w1 #[.int .i64 0] 3
  rw[←hW]
  clear hW
  obtain⟨v2,hb2⟩:∃b,b=w1.heap.size:=⟨_,rfl⟩
  rw[←hb2] at x2 ⊢
  have o0_2:w.heap.size<v2:=by have:=(zx HX0 Bz).lt;omega
  have o1_2:w.heap.size+1<v2:=by have:=(zx HX1 Bz).lt;omega
  have ow_2:w.heap.size≤v2:=by have:=zw hB Bz;omega
  replace hB:=zAa (zAa hB Bz) hN
  replace HX0:=zh ((zx HX0 Bz).below hN)
  replace HX1:=zh ((zx HX1 Bz).below hN)
  have HX2:=zh x2
  clear x2 hN Bz hb2
  have Bz:=Below.refl V1.heap.size V1
  clear p0_1 p0_2 p0_12
  have p0_1:=(zx HX0 Bz).cell 1 (.slice y.rA y.rn y.rc) rfl
  go_wp2_with fail
  with_reducible refine(all_vec (w0:=w) (zAa hB (zAa (b:=V1) Bz (by go_grown))) h.rows h.rok hm (by omega) (by omega) (HX2.out.below (zAa Bz (by go_grown))) (HX1.out.below (zAa Bz (by go_grown))) (by omega) (by omega) (by omega) true HR hT).mono ?_
  rintro e w2 ⟨rfl,x2,ch2⟩
  replace ch2:=(Ch.of_below (w:=V1) (by go_grown)).trans ch2
  replace hB:=(zAa hB Bz).trans (ch2.below (by omega) (by have:=zw hB Bz;omega))
  replace HX0:=zh (ch2.bx (zx HX0 Bz) (by omega))
  replace HX1:=zh (ch2.bx (zx HX1 Bz) (by omega))
  replace HX2:=zh (x2 rfl)
  clear ch2 Bz
  have Bz:=Below.refl w2.heap.size w2
  clear p0_1
  have p0_2:=(zx HX0 Bz).cell 2 (.slice y.bA y.bn y.bc) rfl
  go_wp2_with fail
  with_reducible refine(all_affine2 (h.bias.below (zAa hB (zAa (b:=w2) Bz (by go_grown)))) (zh fun x hx=>(h.bok x hx).below (zAa hB (zAa (b:=w2) Bz (by go_grown)))) (by omega) (zh (Tab.below hT.out (zAa hB (zAa (b:=w2) Bz (by go_grown))))) (by omega) false HE).mono ?_
  rintro e w3 ⟨rfl,b3⟩
  replace b3:=zAa (a:=w2) (by go_grown) b3
  replace Bz:=zAa Bz b3
  clear b3
  clear p0_2
  go_wp2_with fail
  go_ret3
  have hF:=zAa (c:=w3) hB Bz
  exact⟨by rw[HA.out];rfl,zAa hF (by go_grown)⟩
theorem affine_OK {w:World} {m:Nat} {y:Ly} {n:Int} (h:LyOk w m y) (hm:m≤20000) (hl:y.rn≤100000∧y.bn≤100000∧y.kn≤100000∧y.gn≤100000) (HP:Hid (plainB y=true)) (g1:¬0<y.gn) (g2:((y.rn:Int)==0)=false) (g3:((y.rn:Int) !=(y.bn:Int))=false) (HR:Hid ((y.rows.all fun v=>rightB v.L n)=true)) (HE:Hid ((y.bias.all fun x=>x.ex)=true)) (HA:Hid (affineF y n=some ((y.rn:Int),(lens y.rows:Int)))) (hT:Hid (Tab w)) :
  Calls Tryd.prog 30 #[.agg #[.int .u8 y.kind,.slice y.rA y.rn y.rc,.slice y.bA y.bn y.bc,.int .i64 y.ch,.int .i64 y.high,.int .i64 y.wide,.int .i64 y.out,.int .i64 y.kh,.int .i64 y.kw,.int .i64 y.st,.int .i64 y.pad,.slice y.kA y.kn y.kc,.slice y.gA y.gn y.gc],.int .i64 n] w (TellsB w (affineF y n)):=by
  obtain⟨W,hW,x0,x1,hB⟩:=boxes2 w #[.int .u8 y.kind,.slice y.rA y.rn y.rc,.slice y.bA y.bn y.bc,.int .i64 y.ch,.int .i64 y.high,.int .i64 y.wide,.int .i64 y.out,.int .i64 y.kh,.int .i64 y.kw,.int .i64 y.st,.int .i64 y.pad,.slice y.kA y.kn y.kc,.slice y.gA y.gn y.gc] 38 #[.int .i64 n] 3
  have HX0:=zh x0
  have HX1:=zh x1
  clear x0 x1
  have Bz:=Below.refl W.heap.size W
  obtain⟨p0_0,p0_1,p0_2,p0_3,p0_4,p0_5,p0_6,p0_7,p0_8,p0_9,p0_10,p0_11,p0_12,-⟩:=(zx HX0 Bz).cz
  go_enter Tryd.func30,Tryd.ntmps30
  go_wp2_with fail
  rw[←hW]
  clear hW
  go_wp2_with fail
  with_reducible refine(plain_q (by omega) true HP).mono ?_
  rintro e w1 ⟨rfl,b1⟩
  replace b1:=zAa (a:=W) (by go_grown) b1
  replace Bz:=zAa Bz b1
  clear b1
  clear p0_0 p0_1 p0_2 p0_3 p0_4 p0_5 p0_6 p0_7 p0_8 p0_9 p0_10 p0_11 p0_12
  obtain⟨-,p0_1,p0_2,-,-,-,-,-,-,-,-,-,p0_12,-⟩:=(zx HX0 Bz).cz
  go_upto_region 4 with(fail)
  obtain⟨V1,hW,x2,hN⟩:=zAb w1 #[.int .i64 0] 3
  rw[←hW]
  clear hW
  obtain⟨v2,hb2⟩:∃b,b=w1.heap.size:=⟨_,rfl⟩
  rw[←hb2] at x2 ⊢
  have o0_2:w.heap.size<v2:=by have:=(zx HX0 Bz).lt;omega
  have o1_2:w.heap.size+1<v2:=by have:=(zx HX1 Bz).lt;omega
  have ow_2:w.heap.size≤v2:=by have:=zw hB Bz;omega
  replace hB:=zAa (zAa hB Bz) hN
  replace HX0:=zh ((zx HX0 Bz).below hN)
  replace HX1:=zh ((zx HX1 Bz).below hN)
  have HX2:=zh x2
  clear x2 hN Bz hb2
  have Bz:=Below.refl V1.heap.size V1
  clear p0_1 p0_2 p0_12
  have p0_1:=(zx HX0 Bz).cell 1 (.slice y.rA y.rn y.rc) rfl
  go_wp2_with fail
  with_reducible refine(all_vec (w0:=w) (zAa hB (zAa (b:=V1) Bz (by go_grown))) h.rows h.rok hm (by omega) (by omega) (HX2.out.below (zAa Bz (by go_grown))) (HX1.out.below (zAa Bz (by go_grown))) (by omega) (by omega) (by omega) true HR hT).mono ?_
  rintro e w2 ⟨rfl,x2,ch2⟩
  replace ch2:=(Ch.of_below (w:=V1) (by go_grown)).trans ch2
  replace hB:=(zAa hB Bz).trans (ch2.below (by omega) (by have:=zw hB Bz;omega))
  replace HX0:=zh (ch2.bx (zx HX0 Bz) (by omega))
  replace HX1:=zh (ch2.bx (zx HX1 Bz) (by omega))
  replace HX2:=zh (x2 rfl)
  clear ch2 Bz
  have Bz:=Below.refl w2.heap.size w2
  clear p0_1
  have p0_2:=(zx HX0 Bz).cell 2 (.slice y.bA y.bn y.bc) rfl
  go_wp2_with fail
  with_reducible refine(all_affine2 (h.bias.below (zAa hB (zAa (b:=w2) Bz (by go_grown)))) (zh fun x hx=>(h.bok x hx).below (zAa hB (zAa (b:=w2) Bz (by go_grown)))) (by omega) (zh (Tab.below hT.out (zAa hB (zAa (b:=w2) Bz (by go_grown))))) (by omega) true HE).mono ?_
  rintro e w3 ⟨rfl,b3⟩
  replace b3:=zAa (a:=w2) (by go_grown) b3
  replace Bz:=zAa Bz b3
  clear b3
  clear p0_2
  have p0_1:=(zx HX0 Bz).cell 1 (.slice y.rA y.rn y.rc) rfl
  have p2_0:=(zx HX2 Bz).cell 0 (.int .i64 (0+(lens y.rows:Int))) rfl
  go_wp2_with fail
  (try simp only[List.append_eq,List.cons_append,List.nil_append])
  refine wp_region_plan (.take 0 (.take 1 (.take 2 (.take 3 (.take 4 (.take 5 (.take 6 .done))))))) [] (fun w'=>w'.cell? ⟨w.heap.size,1,none⟩=some (.slice y.rA y.rn y.rc)∧w'.cell? ⟨v2,0,none⟩=some (.int .i64 (0+(lens y.rows:Int)))) (by kernel_rfl) (by kernel_rfl) ⟨p0_1,p2_0⟩ ?_
  iterate 7 (refine zT rfl rfl (fun w' ⟨p0_1,p2_0⟩=>by go_simp<;>with_reducible rfl) ?_;try simp only[Act.put,uX,uY,uZ])
  refine wpPlan_done ?_
  go_wp2_with fail
  go_ret3
  have hF:=zAa (c:=w3) hB Bz
  exact⟨by rw[HA.out];simp,zAa hF (by go_grown)⟩
theorem affine_q {w:World} {m:Nat} {y:Ly} {n:Int} (h:LyOk w m y) (hm:m≤20000) (hT:Hid (Tab w)) :
  Calls Tryd.prog 30 #[.agg #[.int .u8 y.kind,.slice y.rA y.rn y.rc,.slice y.bA y.bn y.bc,.int .i64 y.ch,.int .i64 y.high,.int .i64 y.wide,.int .i64 y.out,.int .i64 y.kh,.int .i64 y.kw,.int .i64 y.st,.int .i64 y.pad,.slice y.kA y.kn y.kc,.slice y.gA y.gn y.gc],.int .i64 n] w (TellsB w (affineF y n)):=by
 have hl:=h.lens
 cases h1:plainB y
 ·exact affine_W1 h hm hl (zh h1) (zh (by unfold affineF;rw[if_pos h1])) hT
 ·have e1:¬plainB y=false:=by rw[h1];simp
  by_cases h2:0<y.gn
  ·exact affine_W2 h hm hl (zh h1) h2 (zh (by unfold affineF;rw[if_neg e1,if_pos h2])) hT
  ·by_cases h3:y.rn=0
   ·exact affine_W3 h hm hl (zh h1) h2 (by simp;omega) (zh (by unfold affineF;rw[if_neg e1,if_neg h2,if_pos h3])) hT
   ·by_cases h4:y.rn=y.bn
    ·have g4:¬y.rn≠y.bn:=fun h=>h h4
     cases h5:(y.rows.all fun v=>rightB v.L n)
     ·exact affine_W5 h hm hl (zh h1) h2 (by simp;omega) (by simp;omega) (zh h5) (zh (by unfold affineF;rw[if_neg e1,if_neg h2,if_neg h3,if_neg g4,if_pos h5])) hT
     ·have e5:¬(y.rows.all fun v=>rightB v.L n)=false:=by rw[h5];simp
      cases h6:(y.bias.all fun x=>x.ex)
      ·exact affine_W6 h hm hl (zh h1) h2 (by simp;omega) (by simp;omega) (zh h5) (zh h6) (zh (by unfold affineF;rw[if_neg e1,if_neg h2,if_neg h3,if_neg g4,if_neg e5,if_pos h6])) hT
      ·exact affine_OK h hm hl (zh h1) h2 (by simp;omega) (by simp;omega) (zh h5) (zh h6) (zh (by unfold affineF;rw[if_neg e1,if_neg h2,if_neg h3,if_neg g4,if_neg e5,if_neg (by rw[h6];simp)])) hT
    ·exact affine_W4 h hm hl (zh h1) h2 (by simp;omega) (by simp;omega) (zh (by unfold affineF;rw[if_neg e1,if_neg h2,if_neg h3,if_pos h4])) hT
open Go.RowKit Tw
def poolF (y:Ly) (n:Int):Option (Int×Int) :=
 if plainB y=false then none else if 0<y.rn then none else if 0<y.bn then none else if y.gn=0 then none
 else if(y.groups.all fun v=>groupB n v)=false then none else some (y.gn,glens y.groups)
theorem pool_W1 {w:World} {m:Nat} {y:Ly} {n:Int} (_h:LyOk w m y) (hl:y.rn≤100000∧y.bn≤100000∧y.kn≤100000∧y.gn≤100000) (HP:Hid (plainB y=false)) (HA:Hid (poolF y n=none)) :
  Calls Tryd.prog 33 #[.agg #[.int .u8 y.kind,.slice y.rA y.rn y.rc,.slice y.bA y.bn y.bc,.int .i64 y.ch,.int .i64 y.high,.int .i64 y.wide,.int .i64 y.out,.int .i64 y.kh,.int .i64 y.kw,.int .i64 y.st,.int .i64 y.pad,.slice y.kA y.kn y.kc,.slice y.gA y.gn y.gc],.int .i64 n] w (TellsB w (poolF y n)):=by
  obtain⟨W,hW,x0,x1,hB⟩:=boxes2 w #[.int .u8 y.kind,.slice y.rA y.rn y.rc,.slice y.bA y.bn y.bc,.int .i64 y.ch,.int .i64 y.high,.int .i64 y.wide,.int .i64 y.out,.int .i64 y.kh,.int .i64 y.kw,.int .i64 y.st,.int .i64 y.pad,.slice y.kA y.kn y.kc,.slice y.gA y.gn y.gc] 38 #[.int .i64 n] 3
  have HX0:=zh x0
  have HX1:=zh x1
  clear x0 x1
  have Bz:=Below.refl W.heap.size W
  obtain⟨p0_0,p0_1,p0_2,p0_3,p0_4,p0_5,p0_6,p0_7,p0_8,p0_9,p0_10,p0_11,p0_12,-⟩:=(zx HX0 Bz).cz
  go_enter Tryd.func33,Tryd.ntmps33
  go_wp2_with fail
  rw[←hW]
  clear hW
  go_wp2_with fail
  with_reducible refine(plain_q (by omega) false HP).mono ?_
  rintro e w1 ⟨rfl,b1⟩
  replace b1:=zAa (a:=W) (by go_grown) b1
  replace Bz:=zAa Bz b1
  clear b1
  clear p0_0 p0_1 p0_2 p0_3 p0_4 p0_5 p0_6 p0_7 p0_8 p0_9 p0_10 p0_11 p0_12
  go_wp2_with fail
  go_ret3
  have hF:=zAa (c:=w1) hB Bz
  exact⟨by rw[HA.out];rfl,zAa hF (by go_grown)⟩
theorem pool_W2 {w:World} {m:Nat} {y:Ly} {n:Int} (_h:LyOk w m y) (hl:y.rn≤100000∧y.bn≤100000∧y.kn≤100000∧y.gn≤100000) (HP:Hid (plainB y=true)) (g1:0<y.rn) (HA:Hid (poolF y n=none)) :
  Calls Tryd.prog 33 #[.agg #[.int .u8 y.kind,.slice y.rA y.rn y.rc,.slice y.bA y.bn y.bc,.int .i64 y.ch,.int .i64 y.high,.int .i64 y.wide,.int .i64 y.out,.int .i64 y.kh,.int .i64 y.kw,.int .i64 y.st,.int .i64 y.pad,.slice y.kA y.kn y.kc,.slice y.gA y.gn y.gc],.int .i64 n] w (TellsB w (poolF y n)):=by
  obtain⟨W,hW,x0,x1,hB⟩:=boxes2 w #[.int .u8 y.kind,.slice y.rA y.rn y.rc,.slice y.bA y.bn y.bc,.int .i64 y.ch,.int .i64 y.high,.int .i64 y.wide,.int .i64 y.out,.int .i64 y.kh,.int .i64 y.kw,.int .i64 y.st,.int .i64 y.pad,.slice y.kA y.kn y.kc,.slice y.gA y.gn y.gc] 38 #[.int .i64 n] 3
  have HX0:=zh x0
  have HX1:=zh x1
  clear x0 x1
  have Bz:=Below.refl W.heap.size W
  obtain⟨p0_0,p0_1,p0_2,p0_3,p0_4,p0_5,p0_6,p0_7,p0_8,p0_9,p0_10,p0_11,p0_12,-⟩:=(zx HX0 Bz).cz
  go_enter Tryd.func33,Tryd.ntmps33
  go_wp2_with fail
  rw[←hW]
  clear hW
  go_wp2_with fail
  with_reducible refine(plain_q (by omega) true HP).mono ?_
  rintro e w1 ⟨rfl,b1⟩
  replace b1:=zAa (a:=W) (by go_grown) b1
  replace Bz:=zAa Bz b1
  clear b1
  clear p0_0 p0_1 p0_2 p0_3 p0_4 p0_5 p0_6 p0_7 p0_8 p0_9 p0_10 p0_11 p0_12
  have p0_1:=(zx HX0 Bz).cell 1 (.slice y.rA y.rn y.rc) rfl
  go_wp2_with fail
  go_ret3
  have hF:=zAa (c:=w1) hB Bz
  exact⟨by rw[HA.out];rfl,zAa hF (by go_grown)⟩
theorem pool_W3 {w:World} {m:Nat} {y:Ly} {n:Int} (_h:LyOk w m y) (hl:y.rn≤100000∧y.bn≤100000∧y.kn≤100000∧y.gn≤100000) (HP:Hid (plainB y=true)) (g1:¬0<y.rn) (g2:0<y.bn) (HA:Hid (poolF y n=none)) :
  Calls Tryd.prog 33 #[.agg #[.int .u8 y.kind,.slice y.rA y.rn y.rc,.slice y.bA y.bn y.bc,.int .i64 y.ch,.int .i64 y.high,.int .i64 y.wide,.int .i64 y.out,.int .i64 y.kh,.int .i64 y.kw,.int .i64 y.st,.int .i64 y.pad,.slice y.kA y.kn y.kc,.slice y.gA y.gn y.gc],.int .i64 n] w (TellsB w (poolF y n)):=by
  obtain⟨W,hW,x0,x1,hB⟩:=boxes2 w #[.int .u8 y.kind,.slice y.rA y.rn y.rc,.slice y.bA y.bn y.bc,.int .i64 y.ch,.int .i64 y.high,.int .i64 y.wide,.int .i64 y.out,.int .i64 y.kh,.int .i64 y.kw,.int .i64 y.st,.int .i64 y.pad,.slice y.kA y.kn y.kc,.slice y.gA y.gn y.gc] 38 #[.int .i64 n] 3
  have HX0:=zh x0
  have HX1:=zh x1
  clear x0 x1
  have Bz:=Below.refl W.heap.size W
  obtain⟨p0_0,p0_1,p0_2,p0_3,p0_4,p0_5,p0_6,p0_7,p0_8,p0_9,p0_10,p0_11,p0_12,-⟩:=(zx HX0 Bz).cz
  go_enter Tryd.func33,Tryd.ntmps33
  go_wp2_with fail
  rw[←hW]
  clear hW
  go_wp2_with fail
  with_reducible refine(plain_q (by omega) true HP).mono ?_
  rintro e w1 ⟨rfl,b1⟩
  replace b1:=zAa (a:=W) (by go_grown) b1
  replace Bz:=zAa Bz b1
  clear b1
  clear p0_0 p0_1 p0_2 p0_3 p0_4 p0_5 p0_6 p0_7 p0_8 p0_9 p0_10 p0_11 p0_12
  obtain⟨-,p0_1,p0_2,-⟩:=(zx HX0 Bz).cz
  go_wp2_with fail
  go_ret3
  have hF:=zAa (c:=w1) hB Bz
  exact⟨by rw[HA.out];rfl,zAa hF (by go_grown)⟩
theorem pool_W4 {w:World} {m:Nat} {y:Ly} {n:Int} (_h:LyOk w m y) (hl:y.rn≤100000∧y.bn≤100000∧y.kn≤100000∧y.gn≤100000) (HP:Hid (plainB y=true)) (g1:¬0<y.rn) (g2:¬0<y.bn) (g3:((y.gn:Int)==0)=true) (HA:Hid (poolF y n=none)) :
  Calls Tryd.prog 33 #[.agg #[.int .u8 y.kind,.slice y.rA y.rn y.rc,.slice y.bA y.bn y.bc,.int .i64 y.ch,.int .i64 y.high,.int .i64 y.wide,.int .i64 y.out,.int .i64 y.kh,.int .i64 y.kw,.int .i64 y.st,.int .i64 y.pad,.slice y.kA y.kn y.kc,.slice y.gA y.gn y.gc],.int .i64 n] w (TellsB w (poolF y n)):=by
  obtain⟨W,hW,x0,x1,hB⟩:=boxes2 w #[.int .u8 y.kind,.slice y.rA y.rn y.rc,.slice y.bA y.bn y.bc,.int .i64 y.ch,.int .i64 y.high,.int .i64 y.wide,.int .i64 y.out,.int .i64 y.kh,.int .i64 y.kw,.int .i64 y.st,.int .i64 y.pad,.slice y.kA y.kn y.kc,.slice y.gA y.gn y.gc] 38 #[.int .i64 n] 3
  have HX0:=zh x0
  have HX1:=zh x1
  clear x0 x1
  have Bz:=Below.refl W.heap.size W
  obtain⟨p0_0,p0_1,p0_2,p0_3,p0_4,p0_5,p0_6,p0_7,p0_8,p0_9,p0_10,p0_11,p0_12,-⟩:=(zx HX0 Bz).cz
  go_enter Tryd.func33,Tryd.ntmps33
  go_wp2_with fail
  rw[←hW]
  clear hW
  go_wp2_with fail
  with_reducible refine(plain_q (by omega) true HP).mono ?_
  rintro e w1 ⟨rfl,b1⟩
  replace b1:=zAa (a:=W) (by go_grown) b1
  replace Bz:=zAa Bz b1
  clear b1
  clear p0_0 p0_1 p0_2 p0_3 p0_4 p0_5 p0_6 p0_7 p0_8 p0_9 p0_10 p0_11 p0_12
  obtain⟨-,p0_1,p0_2,-,-,-,-,-,-,-,-,-,p0_12,-⟩:=(zx HX0 Bz).cz
  go_wp2_with fail
  go_ret3
  have hF:=zAa (c:=w1) hB Bz
  exact⟨by rw[HA.out];rfl,zAa hF (by go_grown)⟩
theorem pool_W5 {w:World} {m:Nat} {y:Ly} {n:Int} (h:LyOk w m y) (hl:y.rn≤100000∧y.bn≤100000∧y.kn≤100000∧y.gn≤100000) (HP:Hid (plainB y=true)) (g1:¬0<y.rn) (g2:¬0<y.bn) (g3:((y.gn:Int)==0)=false) (HR:Hid ((y.groups.all fun v=>groupB n v)=false)) (HA:Hid (poolF y n=none)) :
  Calls Tryd.prog 33 #[.agg #[.int .u8 y.kind,.slice y.rA y.rn y.rc,.slice y.bA y.bn y.bc,.int .i64 y.ch,.int .i64 y.high,.int .i64 y.wide,.int .i64 y.out,.int .i64 y.kh,.int .i64 y.kw,.int .i64 y.st,.int .i64 y.pad,.slice y.kA y.kn y.kc,.slice y.gA y.gn y.gc],.int .i64 n] w (TellsB w (poolF y n)):=by
  obtain⟨W,hW,x0,x1,hB⟩:=boxes2 w #[.int .u8 y.kind,.slice y.rA y.rn y.rc,.slice y.bA y.bn y.bc,.int .i64 y.ch,.int .i64 y.high,.int .i64 y.wide,.int .i64 y.out,.int .i64 y.kh,.int .i64 y.kw,.int .i64 y.st,.int .i64 y.pad,.slice y.kA y.kn y.kc,.slice y.gA y.gn y.gc] 38 #[.int .i64 n] 3
  have HX0:=zh x0
  have HX1:=zh x1
  clear x0 x1
  have Bz:=Below.refl W.heap.size W
  obtain⟨p0_0,p0_1,p0_2,p0_3,p0_4,p0_5,p0_6,p0_7,p0_8,p0_9,p0_10,p0_11,p0_12,-⟩:=(zx HX0 Bz).cz
  go_enter Tryd.func33,Tryd.ntmps33
  go_wp2_with fail
  rw[←hW]
  clear hW
  go_wp2_with fail
  with_reducible refine(plain_q (by omega) true HP).mono ?_
  rintro e w1 ⟨rfl,b1⟩
  replace b1:=zAa (a:=W) (by go_grown) b1
  replace Bz:=zAa Bz b1
  clear b1
  clear p0_0 p0_1 p0_2 p0_3 p0_4 p0_5 p0_6 p0_7 p0_8 p0_9 p0_10 p0_11 p0_12
  obtain⟨-,p0_1,p0_2,-,-,-,-,-,-,-,-,-,p0_12,-⟩:=(zx HX0 Bz).cz
  go_upto_region 4 with(fail)
  obtain⟨V1,hW,x2,hN⟩:=zAb w1 #[.int .i64 0] 3
  rw[←hW]
  clear hW
  obtain⟨v2,hb2⟩:∃b,b=w1.heap.size:=⟨_,rfl⟩
  rw[←hb2] at x2 ⊢
  have o0_2:w.heap.size<v2:=by have:=(zx HX0 Bz).lt;omega
  have o1_2:w.heap.size+1<v2:=by have:=(zx HX1 Bz).lt;omega
  have ow_2:w.heap.size≤v2:=by have:=zw hB Bz;omega
  replace hB:=zAa (zAa hB Bz) hN
  replace HX0:=zh ((zx HX0 Bz).below hN)
  replace HX1:=zh ((zx HX1 Bz).below hN)
  have HX2:=zh x2
  clear x2 hN Bz hb2
  have Bz:=Below.refl V1.heap.size V1
  clear p0_1 p0_2 p0_12
  have p0_12:=(zx HX0 Bz).cell 12 (.slice y.gA y.gn y.gc) rfl
  go_wp2_with fail
  with_reducible refine(all_groups (w0:=w) (zAa hB (zAa (b:=V1) Bz (by go_grown))) h.groups h.gok (by omega) (by omega) (HX2.out.below (zAa Bz (by go_grown))) (HX1.out.below (zAa Bz (by go_grown))) (by omega) (by omega) (by omega) false HR).mono ?_
  rintro e w2 ⟨rfl,x2,ch2⟩
  replace ch2:=(Ch.of_below (w:=V1) (by go_grown)).trans ch2
  replace hB:=(zAa hB Bz).trans (ch2.below (by omega) (by have:=zw hB Bz;omega))
  replace HX0:=zh (ch2.bx (zx HX0 Bz) (by omega))
  replace HX1:=zh (ch2.bx (zx HX1 Bz) (by omega))
  clear HX2
  clear ch2 Bz
  have Bz:=Below.refl w2.heap.size w2
  clear p0_12
  go_wp2_with fail
  go_ret3
  have hF:=zAa (c:=w2) hB Bz
  exact⟨by rw[HA.out];rfl,zAa hF (by go_grown)⟩
theorem pool_OK {w:World} {m:Nat} {y:Ly} {n:Int} (h:LyOk w m y) (hl:y.rn≤100000∧y.bn≤100000∧y.kn≤100000∧y.gn≤100000) (HP:Hid (plainB y=true)) (g1:¬0<y.rn) (g2:¬0<y.bn) (g3:((y.gn:Int)==0)=false) (HR:Hid ((y.groups.all fun v=>groupB n v)=true)) (HA:Hid (poolF y n=some ((y.gn:Int),(glens y.groups:Int)))) :
  Calls Tryd.prog 33 #[.agg #[.int .u8 y.kind,.slice y.rA y.rn y.rc,.slice y.bA y.bn y.bc,.int .i64 y.ch,.int .i64 y.high,.int .i64 y.wide,.int .i64 y.out,.int .i64 y.kh,.int .i64 y.kw,.int .i64 y.st,.int .i64 y.pad,.slice y.kA y.kn y.kc,.slice y.gA y.gn y.gc],.int .i64 n] w (TellsB w (poolF y n)):=by
  obtain⟨W,hW,x0,x1,hB⟩:=boxes2 w #[.int .u8 y.kind,.slice y.rA y.rn y.rc,.slice y.bA y.bn y.bc,.int .i64 y.ch,.int .i64 y.high,.int .i64 y.wide,.int .i64 y.out,.int .i64 y.kh,.int .i64 y.kw,.int .i64 y.st,.int .i64 y.pad,.slice y.kA y.kn y.kc,.slice y.gA y.gn y.gc] 38 #[.int .i64 n] 3
  have HX0:=zh x0
  have HX1:=zh x1
  clear x0 x1
  have Bz:=Below.refl W.heap.size W
  obtain⟨p0_0,p0_1,p0_2,p0_3,p0_4,p0_5,p0_6,p0_7,p0_8,p0_9,p0_10,p0_11,p0_12,-⟩:=(zx HX0 Bz).cz
  go_enter Tryd.func33,Tryd.ntmps33
  go_wp2_with fail
  rw[←hW]
  clear hW
  go_wp2_with fail
  with_reducible refine(plain_q (by omega) true HP).mono ?_
  rintro e w1 ⟨rfl,b1⟩
  replace b1:=zAa (a:=W) (by go_grown) b1
  replace Bz:=zAa Bz b1
  clear b1
  clear p0_0 p0_1 p0_2 p0_3 p0_4 p0_5 p0_6 p0_7 p0_8 p0_9 p0_10 p0_11 p0_12
  obtain⟨-,p0_1,p0_2,-,-,-,-,-,-,-,-,-,p0_12,-⟩:=(zx HX0 Bz).cz
  go_upto_region 4 with(fail)
  obtain⟨V1,hW,x2,hN⟩:=zAb w1 #[.int .i64 0] 3
  rw[←hW]
  clear hW
  obtain⟨v2,hb2⟩:∃b,b=w1.heap.size:=⟨_,rfl⟩
  rw[←hb2] at x2 ⊢
  have o0_2:w.heap.size<v2:=by have:=(zx HX0 Bz).lt;omega
  have o1_2:w.heap.size+1<v2:=by have:=(zx HX1 Bz).lt;omega
  have ow_2:w.heap.size≤v2:=by have:=zw hB Bz;omega
  replace hB:=zAa (zAa hB Bz) hN
  replace HX0:=zh ((zx HX0 Bz).below hN)
  replace HX1:=zh ((zx HX1 Bz).below hN)
  have HX2:=zh x2
  clear x2 hN Bz hb2
  have Bz:=Below.refl V1.heap.size V1
  clear p0_1 p0_2 p0_12
  have p0_12:=(zx HX0 Bz).cell 12 (.slice y.gA y.gn y.gc) rfl
  go_wp2_with fail
  with_reducible refine(all_groups (w0:=w) (zAa hB (zAa (b:=V1) Bz (by go_grown))) h.groups h.gok (by omega) (by omega) (HX2.out.below (zAa Bz (by go_grown))) (HX1.out.below (zAa Bz (by go_grown))) (by omega) (by omega) (by omega) true HR).mono ?_
  rintro e w2 ⟨rfl,x2,ch2⟩
  replace ch2:=(Ch.of_below (w:=V1) (by go_grown)).trans ch2
  replace hB:=(zAa hB Bz).trans (ch2.below (by omega) (by have:=zw hB Bz;omega))
  replace HX0:=zh (ch2.bx (zx HX0 Bz) (by omega))
  replace HX1:=zh (ch2.bx (zx HX1 Bz) (by omega))
  replace HX2:=zh (x2 rfl)
  clear ch2 Bz
  have Bz:=Below.refl w2.heap.size w2
  clear p0_12
  have p0_12:=(zx HX0 Bz).cell 12 (.slice y.gA y.gn y.gc) rfl
  have p2_0:=(zx HX2 Bz).cell 0 (.int .i64 (0+(glens y.groups:Int))) rfl
  go_wp2_with fail
  (try simp only[List.append_eq,List.cons_append,List.nil_append])
  refine wp_region_plan (.take 0 (.take 1 (.take 2 (.take 3 (.take 4 (.take 5 (.take 6 .done))))))) [] (fun w'=>w'.cell? ⟨w.heap.size,12,none⟩=some (.slice y.gA y.gn y.gc)∧w'.cell? ⟨v2,0,none⟩=some (.int .i64 (0+(glens y.groups:Int)))) (by kernel_rfl) (by kernel_rfl) ⟨p0_12,p2_0⟩ ?_
  iterate 7 (refine zT rfl rfl (fun w' ⟨p0_12,p2_0⟩=>by go_simp<;>with_reducible rfl) ?_;try simp only[Act.put,uX,uY,uZ])
  refine wpPlan_done ?_
  go_wp2_with fail
  go_ret3
  have hF:=zAa (c:=w2) hB Bz
  exact⟨by rw[HA.out];simp,zAa hF (by go_grown)⟩
theorem pool_q {w:World} {m:Nat} {y:Ly} {n:Int} (h:LyOk w m y) :
  Calls Tryd.prog 33 #[.agg #[.int .u8 y.kind,.slice y.rA y.rn y.rc,.slice y.bA y.bn y.bc,.int .i64 y.ch,.int .i64 y.high,.int .i64 y.wide,.int .i64 y.out,.int .i64 y.kh,.int .i64 y.kw,.int .i64 y.st,.int .i64 y.pad,.slice y.kA y.kn y.kc,.slice y.gA y.gn y.gc],.int .i64 n] w (TellsB w (poolF y n)):=by
 have hl:=h.lens
 cases h1:plainB y
 ·exact pool_W1 h hl (zh h1) (zh (by unfold poolF;rw[if_pos h1]))
 ·have e1:¬plainB y=false:=by rw[h1];simp
  by_cases h2:0<y.rn
  ·exact pool_W2 h hl (zh h1) h2 (zh (by unfold poolF;rw[if_neg e1,if_pos h2]))
  ·by_cases h3:0<y.bn
   ·exact pool_W3 h hl (zh h1) h2 h3 (zh (by unfold poolF;rw[if_neg e1,if_neg h2,if_pos h3]))
   ·by_cases h4:y.gn=0
    ·exact pool_W4 h hl (zh h1) h2 h3 (by simp;omega) (zh (by unfold poolF;rw[if_neg e1,if_neg h2,if_neg h3,if_pos h4]))
    ·cases h5:(y.groups.all fun v=>groupB n v)
     ·exact pool_W5 h hl (zh h1) h2 h3 (by simp;omega) (zh h5) (zh (by unfold poolF;rw[if_neg e1,if_neg h2,if_neg h3,if_neg h4,if_pos h5]))
     ·exact pool_OK h hl (zh h1) h2 h3 (by simp;omega) (zh h5) (zh (by unfold poolF;rw[if_neg e1,if_neg h2,if_neg h3,if_neg h4,if_neg (by rw[h5];simp)]))
open Go.RowKit Tw
structure Elt {α:Type} (f:α→List Value) (k:Nat) (t te:TypeId):Prop where
 ut:Tryd.prog.underlying t=some (.slice te)
 info:∃i z,Tryd.prog.info? te=some i∧i.zero=some z∧i.size=k∧i.bytes≤1000∧z.cells.size=k∧NoU z.cells
 len:∀x,(f x).length=k
 one:∀x,∀u∈f x,u.oneCell'=true
 nou:∀x,∀u∈f x,∀n,u≠.int .u64 n
section
variable {α:Type} {f:α→List Value} {k:Nat} {t te:TypeId}
theorem Elt.run (E:Elt f k t te) (ty:TypeId) {w:World} {base:Nat} {v:Value} {n:Nat} {L:List α} (hown:OwnR w base te k v n (flat f L)) (x:Value) (m:Nat) (M:List α) (hs:From w k x m (flat f M)) (hn:n+m≤100000000000) (hbase:base≤w.heap.size) :
  ∃H c w',(Builtin.append_ #[t,t] ty #[v,x]).run Tryd.prog w=.ok (.slice H (n+m) c) w'∧OwnR w' base te k (.slice H (n+m) c) (n+m) (flat f (L++M))∧Grew w w' v (.slice H (n+m) c):=by
 obtain⟨i,z,h1,h2,h3,h4,h5,h6⟩:=E.info
 have hmem:∀u∈flat f M,∃y∈M,u∈f y:=fun u hu=>flat_mem hu
 obtain⟨v',w',hr,ho,hg⟩:=run_append_all (P:=Tryd.prog) w base t ty te i z k i.bytes E.ut h1 h2 h3 rfl h5 h6 v n (flat f L) hown x m (flat f M) hs (fun u hu=>by obtain⟨y,_,hy⟩:=hmem u hu;exact E.one y u hy) (fun u hu=>by obtain⟨y,_,hy⟩:=hmem u hu;exact E.nou y u hy) (by unfold maxLen;omega)
  (Nat.le_trans (Nat.mul_le_mul hn h4) (by omega)) hbase
 rw[←flat_append] at ho
 obtain⟨H,c,rfl,_⟩:=ho.slice
 exact⟨H,c,w',hr,ho,hg⟩
theorem Elt.wp (E:Elt f k t te) {w:World} {o:Oper} {a:Act} {K:Act→World→Prop} {Q:Exit→Act→World→Prop} (s x:Operand) (ho:o.op=.call { callee:=.builtin .append,args:=#[s,x],argTypes:=#[t,t] })
  (base:Nat) (v:Value) (n:Nat) (L:List α) (hs:a.eval s=v) (hown:OwnR w base te k v n (flat f L)) (xv:Value) (m:Nat) (M:List α) (hx:a.eval x=xv) (hf:From w k xv m (flat f M)) (hn:n+m≤100000000000) (hbase:base≤w.heap.size)
  (h:∀H c w',OwnR w' base te k (.slice H (n+m) c) (n+m) (flat f (L++M))→Grew w w' v (.slice H (n+m) c)→K (a.put o.dst (.slice H (n+m) c)) w'):o.wp Tryd.prog a w K Q:=by
 obtain⟨H,c,w',hr,h2,h3⟩:=E.run o.type hown xv m M hf hn hbase
 unfold Oper.wp execOp
 simp only[ho,resolve,invoke,builtin,Sem.run_bind,Sem.run_pure,Result.andThen_ok,List.map_toArray,List.map_cons,List.map_nil,hs,hx,hr]
 exact h H c w' h2 h3
theorem Elt.app (E:Elt f k t te) {w:World} {ops:Array Oper} {rest:List Oper} {o:Oper} {a:Act} {Q:Exit→Act→World→Prop} (hgd:o.guard=none) (s x:Operand) (ho:o.op=.call { callee:=.builtin .append,args:=#[s,x],argTypes:=#[t,t] })
  (base:Nat) (v:Value) (n:Nat) (L:List α) (hs:a.eval s=v) (hown:OwnR w base te k v n (flat f L)) (xv:Value) (m:Nat) (M:List α) (hx:a.eval x=xv) (hf:From w k xv m (flat f M)) (hn:n+m≤100000000000) (hbase:base≤w.heap.size)
  (h:∀H c w',OwnR w' base te k (.slice H (n+m) c) (n+m) (flat f (L++M))→Grew w w' v (.slice H (n+m) c)→wpList Tryd.prog ops Q rest (a.put o.dst (.slice H (n+m) c)) w'):wpList Tryd.prog ops Q (o :: rest) a w :=
 wpList_plain hgd fun _ hK=>E.wp s x ho base v n L hs hown xv m M hx hf hn hbase fun H c w' h2 h3=>hK _ _ (h H c w' h2 h3)
theorem From.one {w:World} {b:Nat} {cs:Array Value} {te:TypeId} (h:Bx w b cs te) (x:α) (hx:cs.toList=f x) (hk:(f x).length=k):From w k (.slice (some ⟨b,0,none⟩) 1 1) 1 (flat f [x]):=by
 rw[flat_one]
 refine⟨by omega,_,_,rfl,(fun h=>(by cases h)),fun a ha j u hu=>?_⟩
 cases ha
 rw[add_off,Nat.zero_add]
 refine h.cell j u ?_
 rw[←hx] at hu
 simpa using hu
theorem OwnR.lit1 (E:Elt f k t te) {w:World} {b B:Nat} {cs:Array Value} (h:Bx w b cs te) (hB:B≤b) (x:α) (hx:cs.toList=f x):OwnR w B te k (.slice (some ⟨b,0,none⟩) 1 1) 1 (flat f [x]):=by
 have hl:cs.size=k:=by rw[←E.len x,←hx];simp
 rw[flat_one]
 refine⟨by rw[E.len];omega,.inr ⟨b,1,cs,rfl,hB,h,Nat.le_refl _,by unfold maxLen;omega,by omega,?_,fun u hu n=>E.nou x u (by rw[←hx];simpa using hu) n⟩⟩
 rw[←hx,List.take_of_length_le (by simp;omega)]
theorem OwnR.off {w:World} {B b n size:Nat} {e:TypeId} {v:Value} {xs:List Value} (ho:OwnR w B e size v n xs) (hb:b<B):some b≠v.ownBlock:=fun h=>by have:=ho.base b h.symm;omega
theorem OwnR.off' {w:World} {B b n size:Nat} {e:TypeId} {v:Value} {xs:List Value} (ho:OwnR w B e size v n xs) (hb:w.heap.size≤b):some b≠v.ownBlock:=fun h=>by have:=ho.lt b h.symm;omega
theorem OwnR.sl' (_E:Elt f k t te) {w:World} {B n:Nat} {H:Option Addr} {cap:Nat} {L:List α} (ho:OwnR w B te k (.slice H n cap) n (flat f L)) (hl:L.length=n):Sl f k w H n cap L:=⟨hl,ho.from_⟩
theorem OwnR.grown {w w':World} {B n size:Nat} {e:TypeId} {v v2 v2':Value} {xs:List Value} (ho:OwnR w B e size v n xs) (hg:Grew w w' v2 v2') (hne:v.ownBlock=none∨v.ownBlock≠v2.ownBlock):OwnR w' B e size v n xs:=ho.kept hg.by_ hne
end
theorem Elt.of {α:Type} {f:α→List Value} {k:Nat} {t te:TypeId} (z:Value) (by_:Nat) (ut:Tryd.prog.underlying t=some (.slice te)) (hi:(Tryd.prog.info? te).map (fun i=>(i.zero,i.size,i.bytes))=some (some z,k,by_)) (hb:by_≤1000) (hz:z.cells.size=k) (hn:NoU z.cells)
  (len:∀x,(f x).length=k) (one:∀x,∀u∈f x,u.oneCell'=true) (nou:∀x,∀u∈f x,∀n,u≠.int .u64 n):Elt f k t te:=by
 cases h:Tryd.prog.info? te with
 | none=>rw[h] at hi;cases hi
 | some i =>
  rw[h] at hi
  simp only[Option.map_some,Option.some.injEq,Prod.mk.injEq] at hi
  exact⟨ut,⟨i,z,h,hi.1,hi.2.1,by rw[hi.2.2];exact hb,hz,hn⟩,len,one,nou⟩
theorem nou_list {z:Array Value} (h:z.toList.all (fun u=>match u with | .int .u64 _=>false | _=>true)=true):NoU z:=fun u hu n e=>by
 have:=List.all_eq_true.1 h u (by simpa using hu)
 rw[e] at this
 cases this
open Go.RowKit Tw
theorem elt_int:Elt ics 1 39 3:=Elt.of (.int .i64 0) 8 Tryd.underlying39 (by kernel_rfl) (by omega) (by kernel_rfl) (nou_list (by kernel_rfl)) ics_len (fun x u hu=>by simp[ics] at hu;subst hu;rfl) (fun x u hu n=>by simp[ics] at hu;subst hu;simp)
theorem elt_rat:Elt Fr.cs 4 35 27:=Elt.of (.agg #[.bool false,.slice none 0 0,.bool false,.slice none 0 0]) 64 Tryd.underlying35 (by kernel_rfl) (by omega) (by kernel_rfl) (nou_list (by kernel_rfl)) Fr.cs_len
 (fun x u hu=>by simp[Fr.cs] at hu;rcases hu with rfl | rfl | rfl | rfl<;>rfl) (fun x u hu n=>by simp[Fr.cs] at hu;rcases hu with rfl | rfl | rfl | rfl<;>simp)
open Go.RowKit Tw
def SI1 (w:World) (L M:List Int) (n gk:Nat) (s:Value) (wr:World):Prop:=∃i:Nat,i≤n∧n-i=gk∧s=.int .i64 (i:Int)∧Below w.heap.size w wr∧L.take i=M.take i
theorem sameInts_q {w:World} {A A':Option Addr} {n n' c c':Nat} {L M:List Int} (h:Sl ics 1 w A n c L) (h':Sl ics 1 w A' n' c' M) (hn:n≤9223372036854775807) (hn':n'≤9223372036854775807) (r:Bool) (hr:Hid (decide (L=M)=r)) :
  Calls Tryd.prog 7 #[.slice A n c,.slice A' n' c'] w fun e w'=>e=.returned (.bool r)∧Below w.heap.size w w':=by
 have H:=zh h
 have H':=zh h'
 have HLN:=zh h.1
 have HMN:=zh h'.1
 by_cases hnn:n=n'
 ·subst hnn
  have g0:((n:Int) !=(n:Int))=false:=by simp
  have hst:SI1 w L M n n (.int .i64 ((0:Nat):Int)) w:=⟨0,Nat.zero_le _,rfl,rfl,Below.refl _ _,by simp⟩
  have HST:=zh hst
  clear h h' hst
  go_enter Tryd.func7,Tryd.ntmps7
  go_wp2_with fail
  go_loopg [5] n (fun gk s wr=>SI1 w L M n gk s wr)
  case atStart=>exact HST.out
  case round =>
   clear HST
   obtain⟨i,hi,hgk,rfl,hB,hd⟩:=hrel
   have HGK:=zh hgk
   have HD:=zh hd
   clear hgk hd
   by_cases hlt:i<n
   ·obtain⟨b,off,rfl,hel⟩:=H.out.at ics_len (by omega) (by omega)
    obtain⟨b',off',rfl,hel'⟩:=H'.out.at ics_len (by omega) (by omega)
    obtain⟨x,hx⟩:∃x,L[i]?=some x:=⟨L[i]'(by rw[HLN.out];exact hlt),List.getElem?_eq_getElem _⟩
    obtain⟨y,hy⟩:∃y,M[i]?=some y:=⟨M[i]'(by rw[HMN.out];exact hlt),List.getElem?_eq_getElem _⟩
    have hnd:ElA w b (off+i) (ics x):=by have:=hel i x hx;rwa [Nat.mul_one] at this
    have hnd':ElA w b' (off'+i) (ics y):=by have:=hel' i y hy;rwa [Nat.mul_one] at this
    have HX:=zh hx
    have HY:=zh hy
    have i1:(i:Int)<(n:Int):=by omega
    have i2:(0:Int)≤(i:Int):=by omega
    clear hx hel hy hel'
    by_cases hxy:x=y
    ·subst hxy
     have q0:(x != x)=false:=by simp
     have Bz:=Below.refl wr.heap.size wr
     have p50_0:=(hnd.below (zAa hB Bz)).c0 (u:=.int .i64 x) rfl
     have p51_0:=(hnd'.below (zAa hB Bz)).c0 (u:=.int .i64 x) rfl
     go_wp2_with fail
     (try simp only[List.append_eq,List.cons_append,List.nil_append])
     refine wp_region_plan (.take 0 (.take 1 (.take 2 (.take 3 (.take 4 (.take 5 (.take 6 (.take 7 (.take 8 .done))))))))) [] (fun w'=>w'.cell? ⟨b,off+i,none⟩=some (.int .i64 x)∧w'.cell? ⟨b',off'+i,none⟩=some (.int .i64 x)) (by kernel_rfl) (by kernel_rfl) ⟨p50_0,p51_0⟩ ?_
     iterate 9 (refine zT rfl rfl (fun w' ⟨p50_0,p51_0⟩=>by go_simp<;>with_reducible rfl) ?_;try simp only[Act.put,uX,uY,uZ])
     refine wpPlan_done ?_
     go_wp2_with fail
     go_roundg (n-(i+1))
     case measure=>have:=HGK.out;omega
     case rel=>exact⟨i+1,by omega,rfl,by go_num,zAa (zAa hB Bz) (by go_grown),by rw[take_snoc HX.out,take_snoc HY.out,HD.out]⟩
    ·have q0:(x != y)=true:=by simpa using hxy
     have HNE:=zh hxy
     clear hxy
     have Bz:=Below.refl wr.heap.size wr
     have p50_0:=(hnd.below (zAa hB Bz)).c0 (u:=.int .i64 x) rfl
     have p51_0:=(hnd'.below (zAa hB Bz)).c0 (u:=.int .i64 y) rfl
     go_wp2_with fail
     (try simp only[List.append_eq,List.cons_append,List.nil_append])
     refine wp_region_plan (.take 0 (.take 1 (.take 2 (.take 3 (.take 4 (.take 5 (.take 6 (.take 7 (.take 8 .done))))))))) [] (fun w'=>w'.cell? ⟨b,off+i,none⟩=some (.int .i64 x)∧w'.cell? ⟨b',off'+i,none⟩=some (.int .i64 y)) (by kernel_rfl) (by kernel_rfl) ⟨p50_0,p51_0⟩ ?_
     iterate 9 (refine zT rfl rfl (fun w' ⟨p50_0,p51_0⟩=>by go_simp<;>with_reducible rfl) ?_;try simp only[Act.put,uX,uY,uZ])
     refine wpPlan_done ?_
     go_wp2_with fail
     go_ret
     have hF:=zAa (c:=wr) hB Bz
     obtain rfl:r=false:=by rw[←hr.out];exact decide_eq_false (fun e=>by have h1:=HX.out;rw[e,HY.out] at h1;simp at h1;exact HNE.out h1.symm)
     exact⟨rfl,zAa (zAa hB Bz) (by go_grown)⟩
   ·obtain rfl:i=n:=by omega
    have i1:¬(i:Int)<(i:Int):=by omega
    have e:L=M:=by have:=HD.out;rwa [List.take_of_length_le (by rw[HLN.out];exact Nat.le_refl _),List.take_of_length_le (by rw[HMN.out];exact Nat.le_refl _)] at this
    obtain rfl:r=true:=by rw[←hr.out];exact decide_eq_true e
    clear e
    go_wp2_with fail
    go_ret
    exact⟨rfl,hB⟩
 ·have g0:((n:Int) !=(n':Int))=true:=by simp;omega
  obtain rfl:r=false:=by rw[←hr.out];exact decide_eq_false (fun e=>hnn (by rw[←HLN.out,←HMN.out,e]))
  clear h h' hr
  have hB:=Below.refl w.heap.size w
  have Bz:=Below.refl w.heap.size w
  go_enter Tryd.func7,Tryd.ntmps7
  go_wp2_with fail
  go_ret
  have hF:=zAa (c:=w) hB Bz
  exact⟨rfl,zAa hF (by go_grown)⟩
open Go.RowKit Tw
def setsL (xs:List Value) (base:Nat):List (Nat×Value)→List Value
 | []=>xs
 | (j,v) :: r=>setsL (xs.set (base+j) v) base r
def setsW (w:World) (g base:Nat):List (Nat×Value)→World
 | []=>w
 | (j,v) :: r=>setsW (w.setCell ⟨g,base+j,none⟩ v) g base r
def setsA (a:Array Value) (base:Nat):List (Nat×Value)→Array Value
 | []=>a
 | (j,v) :: r=>setsA (a.setIfInBounds (base+j) v) base r
theorem setsA_size (vs:List (Nat×Value)):∀(a:Array Value) (base:Nat),(setsA a base vs).size=a.size:=by
 induction vs with
 | nil=>intro a base;rfl
 | cons p r ih=>intro a base;obtain⟨j,v⟩:=p;unfold setsA;rw[ih];simp
theorem setsA_list (vs:List (Nat×Value)):∀(a:Array Value) (base m:Nat),(∀p∈vs,base+p.1<m)→(setsA a base vs).toList.take m=setsL (a.toList.take m) base vs:=by
 induction vs with
 | nil=>intro a base m _;rfl
 | cons p r ih =>
  intro a base m h
  obtain⟨j,v⟩:=p
  unfold setsA setsL
  rw[ih _ _ _ fun p hp=>h p (List.mem_cons_of_mem _ hp),Array.toList_setIfInBounds,List.take_set]
theorem setsL_mid (vs:List (Nat×Value)):∀(A B C:List Value),(∀p∈vs,p.1<B.length)→setsL (A++B++C) A.length vs=A++setsL B 0 vs++C:=by
 induction vs with
 | nil=>intro A B C _;rfl
 | cons p r ih =>
  intro A B C h
  obtain⟨j,v⟩:=p
  have hj:j<B.length:=h (j,v) List.mem_cons_self
  unfold setsL
  have e:(A++B++C).set (A.length+j) v=A++B.set (0+j) v++C:=by
   rw[List.append_assoc,List.set_append_right _ _ (by omega),Nat.add_sub_cancel_left,List.set_append_left _ _ hj,Nat.zero_add,List.append_assoc]
  rw[e]
  exact ih A (B.set (0+j) v) C fun p hp=>by rw[List.length_set];exact h p (List.mem_cons_of_mem _ hp)
theorem flat_sets {α:Type} {f:α→List Value} {k:Nat} (hk:∀x,(f x).length=k) {L:List α} {i:Nat} {x y:α} (hx:L[i]?=some x) (vs:List (Nat×Value)) (hv:∀p∈vs,p.1<k) (hy:setsL (f x) 0 vs=f y):setsL (flat f L) (i*k) vs=flat f (L.set i y):=by
 have hi:i<L.length:=(List.getElem?_eq_some_iff.1 hx).1
 have e1:L=L.take i++x :: L.drop (i+1):=by
  have h1:=List.take_append_drop i L
  rw[List.drop_eq_getElem_cons hi] at h1
  rw[(List.getElem?_eq_some_iff.1 hx).2] at h1
  exact h1.symm
 have e2:L.set i y=L.take i++y :: L.drop (i+1):=by rw[List.set_eq_take_append_cons_drop,if_pos hi]
 have hl:(flat f (L.take i)).length=i*k:=by rw[flat_len hk,List.length_take,Nat.min_eq_left (by omega)]
 have e3:∀(z:α),flat f (L.take i++z :: L.drop (i+1))=flat f (L.take i)++f z++flat f (L.drop (i+1)):=fun z=>by simp[flat]
 rw[e2,e3,←hy,←setsL_mid vs _ _ _ (by rw[hk];exact hv),hl,←e3,←e1]
theorem Bx.sets {t:TypeId} (vs:List (Nat×Value)):∀{w:World} {g:Nat} {cur:Array Value} (base:Nat),Bx w g cur t→Bx (setsW w g base vs) g (setsA cur base vs) t:=by
 induction vs with
 | nil=>intro w g cur base h;exact h
 | cons p r ih=>intro w g cur base h;obtain⟨j,v⟩:=p;exact ih base (h.set _ v)
theorem NoU.set' {arr:Array Value} {v:Value} (h:NoU arr) (i:Nat) (hv:∀n,v≠.int .u64 n):NoU (arr.setIfInBounds i v):=fun u hu n=>by
 rcases Array.mem_or_eq_of_mem_setIfInBounds hu with h1 | rfl
 ·exact h u h1 n
 ·exact hv n
theorem NoU.sets (vs:List (Nat×Value)) (hv:∀p∈vs,∀n,p.2≠.int .u64 n):∀{cur:Array Value} (base:Nat),NoU cur→NoU (setsA cur base vs):=by
 induction vs with
 | nil=>intro cur base h;exact h
 | cons p r ih=>intro cur base h;obtain⟨j,v⟩:=p;exact ih (fun p hp=>hv p (List.mem_cons_of_mem _ hp)) base (h.set' _ (hv (j,v) List.mem_cons_self))
theorem grownBy_refl' (w:World) (row:Option Nat):w.grownBy w row:=⟨rfl,rfl,rfl,Nat.le_refl _,fun _ _ _=>rfl⟩
theorem grownBy_sets (vs:List (Nat×Value)):∀{w w':World} {g:Nat} (base:Nat),w.grownBy w' (some g)→w.grownBy (setsW w' g base vs) (some g):=by
 induction vs with
 | nil=>intro w w' g base h;exact h
 | cons p r ih=>intro w w' g base h;obtain⟨j,v⟩:=p;exact ih base (grown_set h (.inl rfl) v)
theorem K64.sets {t:TypeId} (vs:List (Nat×Value)) (hv:∀p∈vs,∀n,p.2≠.int .u64 n):∀{w:World} {g:Nat} {cur:Array Value} (base:Nat),Bx w g cur t→NoU cur→(∀p∈vs,base+p.1<cur.size)→K64 w (setsW w g base vs):=by
 induction vs with
 | nil=>intro w g cur base _ _ _;exact fun p n hp=>hp
 | cons p r ih =>
  intro w g cur base h hn hl
  obtain⟨j,v⟩:=p
  have hj:base+j<cur.size:=hl (j,v) List.mem_cons_self
  refine K64.trans (K64.set (u:=cur[base+j]'hj) (h.cell _ _ (Array.getElem?_eq_getElem hj)) (fun n=>hn _ (Array.getElem_mem hj) n) v) ?_
  exact ih (fun p hp=>hv p (List.mem_cons_of_mem _ hp)) base (h.set _ v) (hn.set' _ (hv (j,v) List.mem_cons_self)) fun p hp=>by simpa using hl p (List.mem_cons_of_mem _ hp)
section
variable {α:Type} {f:α→List Value} {k:Nat} {t te:TypeId}
theorem Elt.sets (E:Elt f k t te) {w:World} {B g n cap:Nat} {L:List α} (h:OwnR w B te k (.slice (some ⟨g,0,none⟩) n cap) n (flat f L)) {i:Nat} {x y:α} (hx:L[i]?=some x) (vs:List (Nat×Value)) (hv:∀p∈vs,p.1<k∧∀m,p.2≠.int .u64 m) (hy:setsL (f x) 0 vs=f y) :
  OwnR (setsW w g (i*k) vs) B te k (.slice (some ⟨g,0,none⟩) n cap) n (flat f (L.set i y))∧Grew w (setsW w g (i*k) vs) (.slice (some ⟨g,0,none⟩) n cap) (.slice (some ⟨g,0,none⟩) n cap):=by
 obtain⟨h1,⟨h2,_⟩ | ⟨g',cap',cur,h2,h3,h4,h5,h6,h7,h8,h9⟩⟩:=h
 ·cases h2
 ·cases h2
  have hl:L.length=n∨k=0:=by
   rw[flat_len E.len] at h1
   rcases Nat.eq_zero_or_pos k with hk | hk
   ·exact .inr hk
   ·exact .inl (Nat.eq_of_mul_eq_mul_right hk h1)
  have hi:i<L.length:=(List.getElem?_eq_some_iff.1 hx).1
  have hb:∀p∈vs,i*k+p.1<n*k:=fun p hp=>by
   have hp1:=(hv p hp).1
   have hn:L.length=n:=by
    rcases hl with h | h
    ·exact h
    ·omega
   calc i*k+p.1<i*k+k:=by omega
    _=(i+1)*k:=by rw[Nat.add_mul,Nat.one_mul]
    _≤n*k:=Nat.mul_le_mul_right _ (by omega)
  have hb2:∀p∈vs,i*k+p.1<cur.size:=fun p hp=>by
   have:=hb p hp
   have h10:=Nat.mul_le_mul_right k h5
   omega
  refine⟨⟨by rw[flat_len E.len,List.length_set,←flat_len E.len];exact h1,.inr ⟨_,_,setsA cur (i*k) vs,rfl,h3,h4.sets vs _,h5,h6,by rw[setsA_size];exact h7,?_,h9.sets vs (fun p hp=>(hv p hp).2) _⟩⟩,⟨grownBy_sets vs _ (grownBy_refl' w _),K64.sets vs (fun p hp=>(hv p hp).2) _ h4 h9 hb2,.inl rfl⟩⟩
  rw[setsA_list vs _ _ _ hb,h8,flat_sets E.len hx vs (fun p hp=>(hv p hp).1) hy]
theorem Elt.cell (E:Elt f k t te) {w:World} {B g n cap:Nat} {L:List α} (h:OwnR w B te k (.slice (some ⟨g,0,none⟩) n cap) n (flat f L)) {i:Nat} {x:α} (hx:L[i]?=some x) {j:Nat} {u:Value} (hj:j<k) (hu:(f x)[j]?=some u):w.cell? ⟨g,i*k+j,none⟩=some u :=
 h.cell (by rw[flat_get E.len L i x hx j hj];exact hu)
theorem OwnR.frozen {w:World} {B g n cap k:Nat} {te:TypeId} {xs:List Value} (h:OwnR w B te k (.slice (some ⟨g,0,none⟩) n cap) n xs) (j:Nat):w.frozen? ⟨g,j,none⟩=false:=by
 obtain⟨h1,⟨h2,_⟩ | ⟨g',cap',cur,h2,h3,h4,_⟩⟩:=h
 ·cases h2
 ·cases h2;exact h4.frozen j
theorem OwnR.blk {w:World} {B g n cap k:Nat} {te:TypeId} {xs:List Value} (h:OwnR w B te k (.slice (some ⟨g,0,none⟩) n cap) n xs):g<w.heap.size∧B≤g:=⟨h.lt g rfl,h.base g rfl⟩
theorem OwnR.cap {w:World} {B n cap k:Nat} {A:Option Addr} {te:TypeId} {xs:List Value} (h:OwnR w B te k (.slice A n cap) n xs):n≤cap∧cap≤maxLen:=by
 obtain⟨H,c,e,_,_,h1,h2⟩:=h.slice
 cases e
 exact⟨h1,h2⟩
theorem Elt.take (E:Elt f k t te) {w:World} {B n cap:Nat} {A:Option Addr} {L:List α} (h:OwnR w B te k (.slice A n cap) n (flat f L)) {q:Nat} (hq:q≤n):OwnR w B te k (.slice A q cap) q (flat f (L.take q)):=by
 obtain⟨h1,⟨h2,rfl⟩ | ⟨g',cap',cur,h2,h3,h4,h5,h6,h7,h8,h9⟩⟩:=h
 ·cases h2
  obtain rfl:q=0:=by omega
  exact OwnR.nil w B te k
 ·cases h2
  rw[←flat_take E.len]
  refine⟨by rw[List.length_take,h1,Nat.min_eq_left (Nat.mul_le_mul_right _ hq)],.inr ⟨g',_,cur,rfl,h3,h4,by omega,h6,h7,?_,h9⟩⟩
  rw[←h8,List.take_take,Nat.min_eq_left (Nat.mul_le_mul_right _ hq)]
theorem OwnR.some {w:World} {B n cap k:Nat} {A:Option Addr} {te:TypeId} {xs:List Value} (h:OwnR w B te k (.slice A n cap) n xs) (hn:0<n):∃g,A=.some ⟨g,0,none⟩:=by
 obtain⟨H,c,e,h1,h2,_⟩:=h.slice
 cases e
 cases A with
 | none=>have:=(h1 rfl).1;omega
 | some a=>obtain⟨g,rfl⟩:=h2 a rfl;exact⟨g,rfl⟩
end
end Go.Proofs.YtfgbiccpecldfaaDoor
