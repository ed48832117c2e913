import Derived.Test.YteggjbgbknkoiaaGreatDoorUApp
import Derived.Test.YteggjbgbknkoiaaGreatDoorUWG
set_option maxHeartbeats 4000000
set_option maxRecDepth 100000
namespace Go.Proofs.YteggjbgbknkoiaaGreatDoor
open Go.RowKit Tw
def ElA (w:World) (b off:Nat) (cs:List Value):Prop:=∀j u,cs[j]?=some u→w.cell? ⟨b,off+j,none⟩=some u
theorem ElA.below {w w':World} {b off:Nat} {cs:List Value} (h:ElA w b off cs) (hb:Below w.heap.size w w':=by go_grown):ElA w' b off cs:=fun j u hu=>(hb.cell (World.block_lt_of_cell? w _ (h j u hu))).trans (h j u hu)
theorem ElA.at {w:World} {b off:Nat} {cs:List Value} (h:ElA w b off cs) (j:Nat) (u:Value) (hu:cs[j]?=some u):w.cell? ⟨b,off+j,none⟩=some u:=h j u hu
theorem ElA.c0 {w:World} {b off:Nat} {cs:List Value} {u:Value} (h:ElA w b off cs) (hu:cs[0]?=some u):w.cell? ⟨b,off,none⟩=some u:=h 0 u hu
def Es (w:World) (b off:Nat):List Value→Prop
 | [a]=>w.cell? ⟨b,off,none⟩=some a∧True
 | [a,c]=>w.cell? ⟨b,off,none⟩=some a∧w.cell? ⟨b,off+1,none⟩=some c∧True
 | [a,c,d]=>w.cell? ⟨b,off,none⟩=some a∧w.cell? ⟨b,off+1,none⟩=some c∧w.cell? ⟨b,off+2,none⟩=some d∧True
 | [a,c,d,e]=>w.cell? ⟨b,off,none⟩=some a∧w.cell? ⟨b,off+1,none⟩=some c∧w.cell? ⟨b,off+2,none⟩=some d∧w.cell? ⟨b,off+3,none⟩=some e∧True
 | [a,c,d,e,f]=>w.cell? ⟨b,off,none⟩=some a∧w.cell? ⟨b,off+1,none⟩=some c∧w.cell? ⟨b,off+2,none⟩=some d∧w.cell? ⟨b,off+3,none⟩=some e∧w.cell? ⟨b,off+4,none⟩=some f∧True
 | [a,c,d,e,f,g]=>w.cell? ⟨b,off,none⟩=some a∧w.cell? ⟨b,off+1,none⟩=some c∧w.cell? ⟨b,off+2,none⟩=some d∧w.cell? ⟨b,off+3,none⟩=some e∧w.cell? ⟨b,off+4,none⟩=some f∧w.cell? ⟨b,off+5,none⟩=some g∧True
 | [a,c,d,e,f,g,i]=>w.cell? ⟨b,off,none⟩=some a∧w.cell? ⟨b,off+1,none⟩=some c∧w.cell? ⟨b,off+2,none⟩=some d∧w.cell? ⟨b,off+3,none⟩=some e∧w.cell? ⟨b,off+4,none⟩=some f∧w.cell? ⟨b,off+5,none⟩=some g∧w.cell? ⟨b,off+6,none⟩=some i∧True
 | [a,c,d,e,f,g,i,j]=>w.cell? ⟨b,off,none⟩=some a∧w.cell? ⟨b,off+1,none⟩=some c∧w.cell? ⟨b,off+2,none⟩=some d∧w.cell? ⟨b,off+3,none⟩=some e∧w.cell? ⟨b,off+4,none⟩=some f∧w.cell? ⟨b,off+5,none⟩=some g∧w.cell? ⟨b,off+6,none⟩=some i∧w.cell? ⟨b,off+7,none⟩=some j∧True
 | [a,c,d,e,f,g,i,j,k]=>w.cell? ⟨b,off,none⟩=some a∧w.cell? ⟨b,off+1,none⟩=some c∧w.cell? ⟨b,off+2,none⟩=some d∧w.cell? ⟨b,off+3,none⟩=some e∧w.cell? ⟨b,off+4,none⟩=some f∧w.cell? ⟨b,off+5,none⟩=some g∧w.cell? ⟨b,off+6,none⟩=some i∧w.cell? ⟨b,off+7,none⟩=some j∧w.cell? ⟨b,off+8,none⟩=some k∧True
 | [a,c,d,e,f,g,i,j,k,l]=>w.cell? ⟨b,off,none⟩=some a∧w.cell? ⟨b,off+1,none⟩=some c∧w.cell? ⟨b,off+2,none⟩=some d∧w.cell? ⟨b,off+3,none⟩=some e∧w.cell? ⟨b,off+4,none⟩=some f∧w.cell? ⟨b,off+5,none⟩=some g∧w.cell? ⟨b,off+6,none⟩=some i∧w.cell? ⟨b,off+7,none⟩=some j∧w.cell? ⟨b,off+8,none⟩=some k∧w.cell? ⟨b,off+9,none⟩=some l∧True
 | [a,c,d,e,f,g,i,j,k,l,m]=>w.cell? ⟨b,off,none⟩=some a∧w.cell? ⟨b,off+1,none⟩=some c∧w.cell? ⟨b,off+2,none⟩=some d∧w.cell? ⟨b,off+3,none⟩=some e∧w.cell? ⟨b,off+4,none⟩=some f∧w.cell? ⟨b,off+5,none⟩=some g∧w.cell? ⟨b,off+6,none⟩=some i∧w.cell? ⟨b,off+7,none⟩=some j∧w.cell? ⟨b,off+8,none⟩=some k∧w.cell? ⟨b,off+9,none⟩=some l∧w.cell? ⟨b,off+10,none⟩=some m∧True
 | [a,c,d,e,f,g,i,j,k,l,m,n]=>w.cell? ⟨b,off,none⟩=some a∧w.cell? ⟨b,off+1,none⟩=some c∧w.cell? ⟨b,off+2,none⟩=some d∧w.cell? ⟨b,off+3,none⟩=some e∧w.cell? ⟨b,off+4,none⟩=some f∧w.cell? ⟨b,off+5,none⟩=some g∧w.cell? ⟨b,off+6,none⟩=some i∧w.cell? ⟨b,off+7,none⟩=some j∧w.cell? ⟨b,off+8,none⟩=some k∧w.cell? ⟨b,off+9,none⟩=some l∧w.cell? ⟨b,off+10,none⟩=some m∧w.cell? ⟨b,off+11,none⟩=some n∧True
 | [a,c,d,e,f,g,i,j,k,l,m,n,o]=>w.cell? ⟨b,off,none⟩=some a∧w.cell? ⟨b,off+1,none⟩=some c∧w.cell? ⟨b,off+2,none⟩=some d∧w.cell? ⟨b,off+3,none⟩=some e∧w.cell? ⟨b,off+4,none⟩=some f∧w.cell? ⟨b,off+5,none⟩=some g∧w.cell? ⟨b,off+6,none⟩=some i∧w.cell? ⟨b,off+7,none⟩=some j∧w.cell? ⟨b,off+8,none⟩=some k∧w.cell? ⟨b,off+9,none⟩=some l∧w.cell? ⟨b,off+10,none⟩=some m∧w.cell? ⟨b,off+11,none⟩=some n∧w.cell? ⟨b,off+12,none⟩=some o∧True
 | [a,c,d,e,f,g,i,j,k,l,m,n,o,p,q,r]=>w.cell? ⟨b,off,none⟩=some a∧w.cell? ⟨b,off+1,none⟩=some c∧w.cell? ⟨b,off+2,none⟩=some d∧w.cell? ⟨b,off+3,none⟩=some e∧w.cell? ⟨b,off+4,none⟩=some f∧w.cell? ⟨b,off+5,none⟩=some g∧w.cell? ⟨b,off+6,none⟩=some i∧w.cell? ⟨b,off+7,none⟩=some j∧w.cell? ⟨b,off+8,none⟩=some k∧w.cell? ⟨b,off+9,none⟩=some l∧w.cell? ⟨b,off+10,none⟩=some m∧w.cell? ⟨b,off+11,none⟩=some n∧w.cell? ⟨b,off+12,none⟩=some o∧w.cell? ⟨b,off+13,none⟩=some p∧w.cell? ⟨b,off+14,none⟩=some q∧w.cell? ⟨b,off+15,none⟩=some r∧True
 | _=>True
theorem ElA.ez {w:World} {b off:Nat} {cs:List Value} (h:ElA w b off cs):Es w b off cs:=by
 match cs with
 | []=>trivial
 | [a]=>exact⟨h 0 _ rfl,trivial⟩
 | [a,c]=>exact⟨h 0 _ rfl,h 1 _ rfl,trivial⟩
 | [a,c,d]=>exact⟨h 0 _ rfl,h 1 _ rfl,h 2 _ rfl,trivial⟩
 | [a,c,d,e]=>exact⟨h 0 _ rfl,h 1 _ rfl,h 2 _ rfl,h 3 _ rfl,trivial⟩
 | [a,c,d,e,f]=>exact⟨h 0 _ rfl,h 1 _ rfl,h 2 _ rfl,h 3 _ rfl,h 4 _ rfl,trivial⟩
 | [a,c,d,e,f,g]=>exact⟨h 0 _ rfl,h 1 _ rfl,h 2 _ rfl,h 3 _ rfl,h 4 _ rfl,h 5 _ rfl,trivial⟩
 | [a,c,d,e,f,g,i]=>exact⟨h 0 _ rfl,h 1 _ rfl,h 2 _ rfl,h 3 _ rfl,h 4 _ rfl,h 5 _ rfl,h 6 _ rfl,trivial⟩
 | [a,c,d,e,f,g,i,j]=>exact⟨h 0 _ rfl,h 1 _ rfl,h 2 _ rfl,h 3 _ rfl,h 4 _ rfl,h 5 _ rfl,h 6 _ rfl,h 7 _ rfl,trivial⟩
 | [a,c,d,e,f,g,i,j,k]=>exact⟨h 0 _ rfl,h 1 _ rfl,h 2 _ rfl,h 3 _ rfl,h 4 _ rfl,h 5 _ rfl,h 6 _ rfl,h 7 _ rfl,h 8 _ rfl,trivial⟩
 | [a,c,d,e,f,g,i,j,k,l]=>exact⟨h 0 _ rfl,h 1 _ rfl,h 2 _ rfl,h 3 _ rfl,h 4 _ rfl,h 5 _ rfl,h 6 _ rfl,h 7 _ rfl,h 8 _ rfl,h 9 _ rfl,trivial⟩
 | [a,c,d,e,f,g,i,j,k,l,m]=>exact⟨h 0 _ rfl,h 1 _ rfl,h 2 _ rfl,h 3 _ rfl,h 4 _ rfl,h 5 _ rfl,h 6 _ rfl,h 7 _ rfl,h 8 _ rfl,h 9 _ rfl,h 10 _ rfl,trivial⟩
 | [a,c,d,e,f,g,i,j,k,l,m,n]=>exact⟨h 0 _ rfl,h 1 _ rfl,h 2 _ rfl,h 3 _ rfl,h 4 _ rfl,h 5 _ rfl,h 6 _ rfl,h 7 _ rfl,h 8 _ rfl,h 9 _ rfl,h 10 _ rfl,h 11 _ rfl,trivial⟩
 | [a,c,d,e,f,g,i,j,k,l,m,n,o]=>exact⟨h 0 _ rfl,h 1 _ rfl,h 2 _ rfl,h 3 _ rfl,h 4 _ rfl,h 5 _ rfl,h 6 _ rfl,h 7 _ rfl,h 8 _ rfl,h 9 _ rfl,h 10 _ rfl,h 11 _ rfl,h 12 _ rfl,trivial⟩
 | [a,c,d,e,f,g,i,j,k,l,m,n,o,p,q,r]=>exact⟨h 0 _ rfl,h 1 _ rfl,h 2 _ rfl,h 3 _ rfl,h 4 _ rfl,h 5 _ rfl,h 6 _ rfl,h 7 _ rfl,h 8 _ rfl,h 9 _ rfl,h 10 _ rfl,h 11 _ rfl,h 12 _ rfl,h 13 _ rfl,h 14 _ rfl,h 15 _ rfl,trivial⟩
 | [_,_,_,_,_,_,_,_,_,_,_,_,_,_]=>trivial
 | [_,_,_,_,_,_,_,_,_,_,_,_,_,_,_]=>trivial
 | _ :: _ :: _ :: _ :: _ :: _ :: _ :: _ :: _ :: _ :: _ :: _ :: _ :: _ :: _ :: _ :: _ :: _=>trivial
def Sl {α:Type} (f:α→List Value) (k:Nat) (w:World) (A:Option Addr) (n c:Nat) (L:List α):Prop:=L.length=n∧From w k (.slice A n c) n (flat f L)
section
variable {α:Type} {f:α→List Value} {k:Nat} {w w':World} {A:Option Addr} {n c:Nat} {L:List α}
theorem Sl.below (h:Sl f k w A n c L) (hb:Below w.heap.size w w':=by go_grown):Sl f k w' A n c L:=⟨h.1,h.2.below hb⟩
theorem Sl.nil (w:World):Sl f k w none 0 0 []:=⟨rfl,by simp[flat],none,0,rfl,fun _=>rfl,(fun _ h=>(by cases h))⟩
theorem Sl.none_len (h:Sl f k w none n c L):n=0:=by
 obtain⟨_,_,A,c',e,h2,_⟩:=h;cases e;exact h2 rfl
theorem add_off (b off j:Nat):(⟨b,off,none⟩:Addr).add j=⟨b,off+j,none⟩:=by unfold Addr.add;split<;>simp_all
theorem Sl.at (h:Sl f k w A n c L) (hk:∀x,(f x).length=k) (h0:0<k) (hn:0<n):∃b off,A=some ⟨b,off,none⟩∧∀i x,L[i]?=some x→ElA w b (off+i*k) (f x):=by
 obtain⟨hl,hlen,A',c',e,hA,hc⟩:=h;cases e;cases A with
 | none=>have:=hA rfl;omega
 | some a =>
  obtain⟨b,off,spot⟩:=a;have hp:0<(flat f L).length:=by rw[hlen];exact Nat.mul_pos hn h0
  have hc0:=hc _ rfl 0 ((flat f L)[0]) (aA hp);have hs:spot=none:=by simpa [Addr.add] using World.cell?_spot hc0
  subst hs;refine⟨b,off,rfl,fun i x hx j u hu=>?_⟩;have hj:j<k:=by
   rcases kB j k with h1 | h1
   ·exact h1
   ·rw[bB (by rw[hk];exact h1)] at hu;cases hu
  have h1:=hc _ rfl (i*k+j) u (by rw[flat_get hk L i x hx j hj];exact hu);rw[add_off] at h1;rw[qE];exact h1
theorem Sl.len (h:Sl f k w A n c L):L.length=n:=h.1
end
theorem OwnR.sl {α:Type} {f:α→List Value} {k:Nat} {w:World} {B:Nat} {e:TypeId} {H:Option Addr} {n cap:Nat} {L:List α} (ho:OwnR w B e k (.slice H n cap) n (flat f L)) (hl:L.length=n):Sl f k w H n cap L:=⟨hl,ho.from_⟩
structure Fr where
 s:Bool
 A:Option Addr
 c:Nat
 l:Nat
 s':Bool
 A':Option Addr
 c':Nat
 l':Nat
 q:Rat
 ex:Bool
def Fr.cs (x:Fr):List Value:=[.bool x.s,.slice x.A x.l x.c,.bool x.s',.slice x.A' x.l' x.c']
theorem Fr.cs_len (x:Fr):x.cs.length=4:=rfl
def FrOk (w:World) (m:Nat) (x:Fr):Prop:=R w x.s x.A x.c x.l x.s' x.A' x.c' x.l' x.q m∧∃xs ys,Dx w x.A x.c x.l xs∧Dx w x.A' x.c' x.l' ys∧exB x.s xs x.s' ys x.q=x.ex
theorem FrOk.below {w w':World} {m:Nat} {x:Fr} (h:FrOk w m x) (hb:Below w.heap.size w w':=by go_grown):FrOk w' m x:=by
 obtain⟨h1,xs,ys,h2,h3,h4⟩:=h;exact⟨h1.below hb,xs,ys,h2.below hb,h3.below hb,h4⟩
theorem FrOk.k {w w':World} {m:Nat} {x:Fr} (h:FrOk w m x) (hb:K64 w w'):FrOk w' m x:=by
 obtain⟨h1,xs,ys,h2,h3,h4⟩:=h;exact⟨h1.k hb,xs,ys,h2.k hb,h3.k hb,h4⟩
theorem FrOk.mono {w:World} {m m':Nat} {x:Fr} (h:FrOk w m x) (hm:m≤m'):FrOk w m' x:=⟨h.1.mono hm,h.2⟩
theorem FrOk.r {w:World} {m:Nat} {x:Fr} (h:FrOk w m x):R w x.s x.A x.c x.l x.s' x.A' x.c' x.l' x.q m:=h.1
theorem FrOk.rn {w:World} {m:Nat} {x:Fr} (h:FrOk w m x):x.ex=true↔RN w x.s x.A x.c x.l x.s' x.A' x.c' x.l' x.q:=by
 obtain⟨_,xs,ys,h2,h3,h4⟩:=h;rw[←h4];exact exB_iff h2 h3
theorem RN.fr {w:World} {s s':Bool} {A A':Option Addr} {c c' l l' m:Nat} {q:Rat} (h:RN w s A c l s' A' c' l' q) (hm:sz q≤m):FrOk w m ⟨s,A,c,l,s',A',c',l',q,true⟩ :=
 ⟨h.r' hm,_,_,h.1.dx,h.2.dx,(exB_iff h.1.dx h.2.dx).2 h⟩
theorem R.fr {w:World} {s s':Bool} {A A':Option Addr} {c c' l l' m:Nat} {q:Rat} (h:R w s A c l s' A' c' l' q m):∃ex,FrOk w m ⟨s,A,c,l,s',A',c',l',q,ex⟩:=by
 obtain⟨xs,ys,h1,h2⟩:=h.dx;exact⟨exB s xs s' ys q,h,xs,ys,h1,h2,rfl⟩
structure Tm where
 at_:Int
 x:Fr
def Tm.cs (t:Tm):List Value:=[.int .i64 t.at_,.bool t.x.s,.slice t.x.A t.x.l t.x.c,.bool t.x.s',.slice t.x.A' t.x.l' t.x.c']
theorem Tm.cs_len (t:Tm):t.cs.length=5:=rfl
def rightAt (L:List Tm) (n:Int) (i:Nat):Bool :=
 match L[i]? with
 | none=>true
 | some t=>decide (0≤t.at_)&&decide (t.at_<n)&&(match i with | 0=>true | j+1=>match L[j]? with | none=>true | some p=>decide (p.at_<t.at_))&&decide (t.x.q≠0)&&t.x.ex
def rightB (L:List Tm) (n:Int):Bool:=(List.range L.length).all (rightAt L n)
theorem take_all {α:Type} {L:List α} {p:α→Bool} {i:Nat} {x:α} (h:(L.take i).all p=true) (hx:L[i]?=some x) (hp:p x=true):(L.take (i+1)).all p=true:=by
 rw[fG,List.all_append,h,hx];simp[hp]
theorem all_no {α:Type} {L:List α} {p:α→Bool} {i:Nat} {x:α} (hx:L[i]?=some x) (hp:p x=false):L.all p=false:=by
 rw[List.all_eq_false];exact⟨x,dA hx,by rw[hp];simp⟩
theorem all_yes {α:Type} {L:List α} {p:α→Bool} {n:Nat} (hl:L.length=n) (h:(L.take n).all p=true):L.all p=true:=by rwa [eA zo] at h
def ics (z:Int):List Value:=[.int .i64 z]
theorem ics_len (z:Int):(ics z).length=1:=rfl
theorem take_snoc {α:Type} {L:List α} {i:Nat} {x:α} (h:L[i]?=some x):L.take (i+1)=L.take i++[x]:=by rw[fG,h];rfl
structure Elt {α:Type} (f:α→List Value) (k:Nat) (t te:TypeId):Prop where
 ut:Tryz.prog.underlying t=some (.slice te)
 info:∃i z,Tryz.prog.info? te=some i∧i.zero=some z∧i.size=k∧i.bytes≤1000∧z.cells.size=k∧NoU z.cells
 len:∀x,(f x).length=k
 one:∀x,∀u∈f x,u.oneCell'=true
 nou:∀x,∀u∈f x,∀n,u≠.int .u64 n
section
variable {α:Type} {f:α→List Value} {k:Nat} {t te:TypeId}
theorem Elt.run (E:Elt f k t te) (ty:TypeId) {w:World} {base:Nat} {v:Value} {n:Nat} {L:List α} (hown:OwnR w base te k v n (flat f L)) (x:Value) (m:Nat) (M:List α) (hs:From w k x m (flat f M)) (hn:n+m≤100000000000) (hbase:base≤w.heap.size) :
  ∃H c w',(Builtin.append_ #[t,t] ty #[v,x]).run Tryz.prog w=.ok (.slice H (n+m) c) w'∧OwnR w' base te k (.slice H (n+m) c) (n+m) (flat f (L++M))∧Grew w w' v (.slice H (n+m) c):=by
 obtain⟨i,z,h1,h2,h3,h4,h5,h6⟩:=E.info;have hmem:∀u∈flat f M,∃y∈M,u∈f y:=fun u hu=>flat_mem hu;obtain⟨v',w',hr,ho,hg⟩:=run_append_all (P:=Tryz.prog) w base t ty te i z k i.bytes E.ut h1 h2 h3 rfl h5 h6 v n (flat f L) hown x m (flat f M) hs (fun u hu=>by obtain⟨y,_,hy⟩:=hmem u hu;exact E.one y u hy) (fun u hu=>by obtain⟨y,_,hy⟩:=hmem u hu;exact E.nou y u hy) (by unfold maxLen;omega)
  (kA (pC hn h4) zo) hbase
 rw[←flat_append] at ho;obtain⟨H,c,rfl,_⟩:=ho.slice;exact⟨H,c,w',hr,ho,hg⟩
theorem Elt.wp (E:Elt f k t te) {w:World} {o:Oper} {a:Act} {K:Act→World→Prop} {Q:Exit→Act→World→Prop} (s x:Operand) (ho:o.op=.call { callee:=.builtin .append,args:=#[s,x],argTypes:=#[t,t] })
  (base:Nat) (v:Value) (n:Nat) (L:List α) (hs:a.eval s=v) (hown:OwnR w base te k v n (flat f L)) (xv:Value) (m:Nat) (M:List α) (hx:a.eval x=xv) (hf:From w k xv m (flat f M)) (hn:n+m≤100000000000) (hbase:base≤w.heap.size)
  (h:∀H c w',OwnR w' base te k (.slice H (n+m) c) (n+m) (flat f (L++M))→Grew w w' v (.slice H (n+m) c)→K (a.put o.dst (.slice H (n+m) c)) w'):o.wp Tryz.prog a w K Q:=by
 obtain⟨H,c,w',hr,h2,h3⟩:=E.run o.type hown xv m M hf hn hbase;unfold Oper.wp execOp
 simp only[ho,resolve,invoke,builtin,Sem.run_bind,Sem.run_pure,Result.andThen_ok,List.map_toArray,List.map_cons,List.map_nil,hs,hx,hr]
 exact h H c w' h2 h3
theorem Elt.app (E:Elt f k t te) {w:World} {ops:Array Oper} {rest:List Oper} {o:Oper} {a:Act} {Q:Exit→Act→World→Prop} (hgd:o.guard=none) (s x:Operand) (ho:o.op=.call { callee:=.builtin .append,args:=#[s,x],argTypes:=#[t,t] })
  (base:Nat) (v:Value) (n:Nat) (L:List α) (hs:a.eval s=v) (hown:OwnR w base te k v n (flat f L)) (xv:Value) (m:Nat) (M:List α) (hx:a.eval x=xv) (hf:From w k xv m (flat f M)) (hn:n+m≤100000000000) (hbase:base≤w.heap.size)
  (h:∀H c w',OwnR w' base te k (.slice H (n+m) c) (n+m) (flat f (L++M))→Grew w w' v (.slice H (n+m) c)→wpList Tryz.prog ops Q rest (a.put o.dst (.slice H (n+m) c)) w'):wpList Tryz.prog ops Q (o :: rest) a w :=
 wpList_plain hgd fun _ hK=>E.wp s x ho base v n L hs hown xv m M hx hf hn hbase fun H c w' h2 h3=>hK _ _ (h H c w' h2 h3)
theorem From.one {w:World} {b:Nat} {cs:Array Value} {te:TypeId} (h:Bx w b cs te) (x:α) (hx:cs.toList=f x) (hk:(f x).length=k):From w k (.slice (some ⟨b,0,none⟩) 1 1) 1 (flat f [x]):=by
 rw[flat_one];refine⟨zo,_,_,rfl,(fun h=>(by cases h)),fun a ha j u hu=>?_⟩;cases ha;rw[add_off,xB];refine h.cell j u ?_;rw[←hx] at hu;simpa using hu
theorem OwnR.lit1 (E:Elt f k t te) {w:World} {b B:Nat} {cs:Array Value} (h:Bx w b cs te) (hB:B≤b) (x:α) (hx:cs.toList=f x):OwnR w B te k (.slice (some ⟨b,0,none⟩) 1 1) 1 (flat f [x]):=by
 have hl:cs.size=k:=by rw[←E.len x,←hx];simp
 rw[flat_one];refine⟨by rw[E.len];omega,.inr ⟨b,1,cs,rfl,hB,h,cA _,by unfold maxLen;omega,zo,?_,fun u hu n=>E.nou x u (by rw[←hx];simpa using hu) n⟩⟩;rw[←hx,eA (by simp;omega)]
theorem OwnR.off {w:World} {B b n size:Nat} {e:TypeId} {v:Value} {xs:List Value} (ho:OwnR w B e size v n xs) (hb:b<B):some b≠v.ownBlock:=fun h=>by have:=ho.base b h.symm;omega
theorem OwnR.off' {w:World} {B b n size:Nat} {e:TypeId} {v:Value} {xs:List Value} (ho:OwnR w B e size v n xs) (hb:w.heap.size≤b):some b≠v.ownBlock:=fun h=>by have:=ho.lt b h.symm;omega
theorem OwnR.sl' (_E:Elt f k t te) {w:World} {B n:Nat} {H:Option Addr} {cap:Nat} {L:List α} (ho:OwnR w B te k (.slice H n cap) n (flat f L)) (hl:L.length=n):Sl f k w H n cap L:=⟨hl,ho.from_⟩
theorem OwnR.grown {w w':World} {B n size:Nat} {e:TypeId} {v v2 v2':Value} {xs:List Value} (ho:OwnR w B e size v n xs) (hg:Grew w w' v2 v2') (hne:v.ownBlock=none∨v.ownBlock≠v2.ownBlock):OwnR w' B e size v n xs:=ho.kept hg.by_ hne
end
theorem Elt.of {α:Type} {f:α→List Value} {k:Nat} {t te:TypeId} (z:Value) (by_:Nat) (ut:Tryz.prog.underlying t=some (.slice te)) (hi:(Tryz.prog.info? te).map (fun i=>(i.zero,i.size,i.bytes))=some (some z,k,by_)) (hb:by_≤1000) (hz:z.cells.size=k) (hn:NoU z.cells)
  (len:∀x,(f x).length=k) (one:∀x,∀u∈f x,u.oneCell'=true) (nou:∀x,∀u∈f x,∀n,u≠.int .u64 n):Elt f k t te:=by
 cases h:Tryz.prog.info? te with
 | none=>rw[h] at hi;cases hi
 | some i =>
  rw[h] at hi;simp only[cE,Option.some.injEq,Prod.mk.injEq] at hi
  exact⟨ut,⟨i,z,h,hi.1,hi.2.1,by rw[hi.2.2];exact hb,hz,hn⟩,len,one,nou⟩
theorem nou_list {z:Array Value} (h:z.toList.all (fun u=>match u with | .int .u64 _=>false | _=>true)=true):NoU z:=fun u hu n e=>by
 have:=wD.1 h u (by simpa using hu);rw[e] at this;cases this
def setsL (xs:List Value) (base:Nat):List (Nat×Value)→List Value
 | []=>xs
 | (j,v) :: r=>setsL (xs.set (base+j) v) base r
def setsW (w:World) (g base:Nat):List (Nat×Value)→World
 | []=>w
 | (j,v) :: r=>setsW (w.setCell ⟨g,base+j,none⟩ v) g base r
def setsA (a:Array Value) (base:Nat):List (Nat×Value)→Array Value
 | []=>a
 | (j,v) :: r=>setsA (a.setIfInBounds (base+j) v) base r
theorem setsA_size (vs:List (Nat×Value)):∀(a:Array Value) (base:Nat),(setsA a base vs).size=a.size:=by
 induction vs with
 | nil=>intro a base;rfl
 | cons p r ih=>intro a base;obtain⟨j,v⟩:=p;unfold setsA;rw[ih];simp
theorem setsA_list (vs:List (Nat×Value)):∀(a:Array Value) (base m:Nat),(∀p∈vs,base+p.1<m)→(setsA a base vs).toList.take m=setsL (a.toList.take m) base vs:=by
 induction vs with
 | nil=>intro a base m _;rfl
 | cons p r ih =>
  intro a base m h;obtain⟨j,v⟩:=p;unfold setsA setsL
  rw[ih _ _ _ fun p hp=>h p (qA _ hp),Array.toList_setIfInBounds,List.take_set]
theorem setsL_mid (vs:List (Nat×Value)):∀(A B C:List Value),(∀p∈vs,p.1<B.length)→setsL (A++B++C) A.length vs=A++setsL B 0 vs++C:=by
 induction vs with
 | nil=>intro A B C _;rfl
 | cons p r ih =>
  intro A B C h;obtain⟨j,v⟩:=p;have hj:j<B.length:=h (j,v) pA;unfold setsL
  have e:(A++B++C).set (A.length+j) v=A++B.set (0+j) v++C:=by
   rw[dF,vF _ _ zo,Nat.add_sub_cancel_left,List.set_append_left _ _ hj,xB,dF]
  rw[e];exact ih A (B.set (0+j) v) C fun p hp=>by rw[nB];exact h p (qA _ hp)
theorem flat_sets {α:Type} {f:α→List Value} {k:Nat} (hk:∀x,(f x).length=k) {L:List α} {i:Nat} {x y:α} (hx:L[i]?=some x) (vs:List (Nat×Value)) (hv:∀p∈vs,p.1<k) (hy:setsL (f x) 0 vs=f y):setsL (flat f L) (i*k) vs=flat f (L.set i y):=by
 have hi:i<L.length:=(yA.1 hx).1;have e1:L=L.take i++x :: L.drop (i+1):=by
  have h1:=xC i L;rw[nD hi] at h1;rw[(yA.1 hx).2] at h1;exact h1.symm
 have e2:L.set i y=L.take i++y :: L.drop (i+1):=by rw[List.set_eq_take_append_cons_drop,gA hi]
 have hl:(flat f (L.take i)).length=i*k:=by rw[flat_len hk,zA,dD zo]
 have e3:∀(z:α),flat f (L.take i++z :: L.drop (i+1))=flat f (L.take i)++f z++flat f (L.drop (i+1)):=fun z=>by simp[flat]
 rw[e2,e3,←hy,←setsL_mid vs _ _ _ (by rw[hk];exact hv),hl,←e3,←e1]
theorem Bx.sets {t:TypeId} (vs:List (Nat×Value)):∀{w:World} {g:Nat} {cur:Array Value} (base:Nat),Bx w g cur t→Bx (setsW w g base vs) g (setsA cur base vs) t:=by
 induction vs with
 | nil=>intro w g cur base h;exact h
 | cons p r ih=>intro w g cur base h;obtain⟨j,v⟩:=p;exact ih base (h.set _ v)
theorem NoU.set' {arr:Array Value} {v:Value} (h:NoU arr) (i:Nat) (hv:∀n,v≠.int .u64 n):NoU (arr.setIfInBounds i v):=fun u hu n=>by
 rcases Array.mem_or_eq_of_mem_setIfInBounds hu with h1 | rfl
 ·exact h u h1 n
 ·exact hv n
theorem NoU.sets (vs:List (Nat×Value)) (hv:∀p∈vs,∀n,p.2≠.int .u64 n):∀{cur:Array Value} (base:Nat),NoU cur→NoU (setsA cur base vs):=by
 induction vs with
 | nil=>intro cur base h;exact h
 | cons p r ih=>intro cur base h;obtain⟨j,v⟩:=p;exact ih (fun p hp=>hv p (qA _ hp)) base (h.set' _ (hv (j,v) pA))
theorem grownBy_refl' (w:World) (row:Option Nat):w.grownBy w row:=⟨rfl,rfl,rfl,cA _,fun _ _ _=>rfl⟩
theorem grownBy_sets (vs:List (Nat×Value)):∀{w w':World} {g:Nat} (base:Nat),w.grownBy w' (some g)→w.grownBy (setsW w' g base vs) (some g):=by
 induction vs with
 | nil=>intro w w' g base h;exact h
 | cons p r ih=>intro w w' g base h;obtain⟨j,v⟩:=p;exact ih base (grown_set h (.inl rfl) v)
theorem K64.sets {t:TypeId} (vs:List (Nat×Value)) (hv:∀p∈vs,∀n,p.2≠.int .u64 n):∀{w:World} {g:Nat} {cur:Array Value} (base:Nat),Bx w g cur t→NoU cur→(∀p∈vs,base+p.1<cur.size)→K64 w (setsW w g base vs):=by
 induction vs with
 | nil=>intro w g cur base _ _ _;exact fun p n hp=>hp
 | cons p r ih =>
  intro w g cur base h hn hl;obtain⟨j,v⟩:=p;have hj:base+j<cur.size:=hl (j,v) pA;refine K64.trans (K64.set (u:=cur[base+j]'hj) (h.cell _ _ (jE hj)) (fun n=>hn _ (Array.getElem_mem hj) n) v) ?_;exact ih (fun p hp=>hv p (qA _ hp)) base (h.set _ v) (hn.set' _ (hv (j,v) pA)) fun p hp=>by simpa using hl p (qA _ hp)
section
variable {α:Type} {f:α→List Value} {k:Nat} {t te:TypeId}
theorem Elt.sets (E:Elt f k t te) {w:World} {B g n cap:Nat} {L:List α} (h:OwnR w B te k (.slice (some ⟨g,0,none⟩) n cap) n (flat f L)) {i:Nat} {x y:α} (hx:L[i]?=some x) (vs:List (Nat×Value)) (hv:∀p∈vs,p.1<k∧∀m,p.2≠.int .u64 m) (hy:setsL (f x) 0 vs=f y) :
  OwnR (setsW w g (i*k) vs) B te k (.slice (some ⟨g,0,none⟩) n cap) n (flat f (L.set i y))∧Grew w (setsW w g (i*k) vs) (.slice (some ⟨g,0,none⟩) n cap) (.slice (some ⟨g,0,none⟩) n cap):=by
 obtain⟨h1,⟨h2,_⟩ | ⟨g',cap',cur,h2,h3,h4,h5,h6,h7,h8,h9⟩⟩:=h
 ·cases h2
 ·cases h2;have hl:L.length=n∨k=0:=by
   rw[flat_len E.len] at h1;rcases mB k with hk | hk
   ·exact .inr hk
   ·exact .inl (Nat.eq_of_mul_eq_mul_right hk h1)
  have hi:i<L.length:=(yA.1 hx).1;have hb:∀p∈vs,i*k+p.1<n*k:=fun p hp=>by
   have hp1:=(hv p hp).1;have hn:L.length=n:=by
    rcases hl with h | h
    ·exact h
    ·omega
   calc i*k+p.1<i*k+k:=zo
    _=(i+1)*k:=by rw[aC,dE]
    _≤n*k:=rB _ zo
  have hb2:∀p∈vs,i*k+p.1<cur.size:=fun p hp=>by
   have:=hb p hp;have h10:=rB k h5;omega
  refine⟨⟨by rw[flat_len E.len,nB,←flat_len E.len];exact h1,.inr ⟨_,_,setsA cur (i*k) vs,rfl,h3,h4.sets vs _,h5,h6,by rw[setsA_size];exact h7,?_,h9.sets vs (fun p hp=>(hv p hp).2) _⟩⟩,⟨grownBy_sets vs _ (grownBy_refl' w _),K64.sets vs (fun p hp=>(hv p hp).2) _ h4 h9 hb2,.inl rfl⟩⟩;rw[setsA_list vs _ _ _ hb,h8,flat_sets E.len hx vs (fun p hp=>(hv p hp).1) hy]
theorem Elt.cell (E:Elt f k t te) {w:World} {B g n cap:Nat} {L:List α} (h:OwnR w B te k (.slice (some ⟨g,0,none⟩) n cap) n (flat f L)) {i:Nat} {x:α} (hx:L[i]?=some x) {j:Nat} {u:Value} (hj:j<k) (hu:(f x)[j]?=some u):w.cell? ⟨g,i*k+j,none⟩=some u :=
 h.cell (by rw[flat_get E.len L i x hx j hj];exact hu)
theorem OwnR.frozen {w:World} {B g n cap k:Nat} {te:TypeId} {xs:List Value} (h:OwnR w B te k (.slice (some ⟨g,0,none⟩) n cap) n xs) (j:Nat):w.frozen? ⟨g,j,none⟩=false:=by
 obtain⟨h1,⟨h2,_⟩ | ⟨g',cap',cur,h2,h3,h4,_⟩⟩:=h
 ·cases h2
 ·cases h2;exact h4.frozen j
theorem OwnR.blk {w:World} {B g n cap k:Nat} {te:TypeId} {xs:List Value} (h:OwnR w B te k (.slice (some ⟨g,0,none⟩) n cap) n xs):g<w.heap.size∧B≤g:=⟨h.lt g rfl,h.base g rfl⟩
theorem OwnR.cap {w:World} {B n cap k:Nat} {A:Option Addr} {te:TypeId} {xs:List Value} (h:OwnR w B te k (.slice A n cap) n xs):n≤cap∧cap≤maxLen:=by
 obtain⟨H,c,e,_,_,h1,h2⟩:=h.slice;cases e;exact⟨h1,h2⟩
theorem Elt.take (E:Elt f k t te) {w:World} {B n cap:Nat} {A:Option Addr} {L:List α} (h:OwnR w B te k (.slice A n cap) n (flat f L)) {q:Nat} (hq:q≤n):OwnR w B te k (.slice A q cap) q (flat f (L.take q)):=by
 obtain⟨h1,⟨h2,rfl⟩ | ⟨g',cap',cur,h2,h3,h4,h5,h6,h7,h8,h9⟩⟩:=h
 ·cases h2;obtain rfl:q=0:=zo;exact OwnR.nil w B te k
 ·cases h2;rw[←flat_take E.len];refine⟨by rw[zA,h1,dD (rB _ hq)],.inr ⟨g',_,cur,rfl,h3,h4,zo,h6,h7,?_,h9⟩⟩;rw[←h8,List.take_take,dD (rB _ hq)]
theorem OwnR.eltn (E:Elt f k t te) (h0:0<k) {w:World} {B n:Nat} {v:Value} {L:List α} (h:OwnR w B te k v n (flat f L)):L.length=n:=by
 have:=h.1;rw[flat_len E.len] at this;exact Nat.eq_of_mul_eq_mul_right h0 this
theorem OwnR.some {w:World} {B n cap k:Nat} {A:Option Addr} {te:TypeId} {xs:List Value} (h:OwnR w B te k (.slice A n cap) n xs) (hn:0<n):∃g,A=.some ⟨g,0,none⟩:=by
 obtain⟨H,c,e,h1,h2,_⟩:=h.slice;cases e;cases A with
 | none=>have:=(h1 rfl).1;omega
 | some a=>obtain⟨g,rfl⟩:=h2 a rfl;exact⟨g,rfl⟩
end
def AL1 {α:Type} (w:World) (L:List α) (p:α→Bool) (n gk:Nat) (s:Value) (wr:World):Prop:=∃i:Nat,i≤n∧n-i=gk∧s=.int .i64 (i:Int)∧Below w.heap.size w wr∧(L.take i).all p=true
structure Vc where
 A:Option Addr
 n:Nat
 c:Nat
 L:List Tm
def Vc.cs (v:Vc):List Value:=[.slice v.A v.n v.c]
theorem Vc.cs_len (v:Vc):v.cs.length=1:=rfl
theorem sz_one {n d:Int} (hn:n.natAbs<18446744073709551616) (hd:0<d) (hd':d.natAbs<18446744073709551616):sz (qof n d)≤1:=by
 have:=sz_qof (n:=n) (d:=d) (a:=1) (b:=1) hd (nl_le_of_lt (by rw[Nat.pow_one];exact hn)) (nl_le_of_lt (by rw[Nat.pow_one];exact hd'));omega
def zFr:Fr:=⟨false,none,0,0,false,none,0,0,0,true⟩
theorem RN.zero (w:World):RN w false none 0 0 false none 0 0 0:=⟨J.zero w,J.zero w⟩
theorem sz_zero:sz 0≤1:=by
 show max (nl 0) (nl 1)≤1
 rw[nl_zero,nl_one];decide
theorem zFr_ok (w:World) {m:Nat} (hm:1≤m):FrOk w m zFr:=(RN.zero w).fr (kA sz_zero hm)
theorem sameWords_any {w:World} {A A':Option Addr} {c c':Nat} {xs ys:List Nat} (h:Nums w A c xs) (h':Nums w A' c' ys) (hl:xs.length≤800000000000) (hl':ys.length≤800000000000) (t:Bool) (ht:decide (xs=ys)=t) :
  Calls Tryz.prog 126 #[.slice A xs.length c,.slice A' ys.length c'] w fun e w'=>e=.returned (.bool t)∧Below w.heap.size w w':=by
 by_cases hn:xs.length=ys.length
 ·obtain⟨n,hn1⟩:∃n,n=xs.length:=⟨_,rfl⟩;rw[←hn,←hn1];rw[←hn1] at hl;have g0:((n:Int) !=(n:Int))=false:=by simp
  have H:=zh h;have H':=zh h';have HN:=zh hn;have HN1:=zh hn1;have HT:=zh ht;have hst:EQ1 w xs ys n n (.int .i64 ((0:Nat):Int)) w:=⟨0,nA _,rfl,rfl,Below.refl _ _,fun j hj=>by omega⟩;have HST:=zh hst;clear h h' hn hn1 ht hst hl';go_enter Tryz.func126,Tryz.ntmps126
  go_wp2_with fail
  go_loopg [5] n (fun gk s wr=>EQ1 w xs ys n gk s wr)
  case atStart=>exact HST.out
  case round =>
   clear HST;obtain⟨i,hi,hgk,rfl,hB,hd⟩:=hrel;have HGK:=zh hgk;have HD:=zh hd;clear hgk hd;by_cases hlt:i<n
   ·obtain⟨b1,o1,rfl,e1⟩:=H.out.cells (by rw[←HN1.out];omega);obtain⟨b2,o2,rfl,e2⟩:=H'.out.cells (by rw[←HN.out,←HN1.out];omega);replace e1:=e1 i (by rw[←HN1.out];exact hlt);replace e2:=e2 i (by rw[←HN.out,←HN1.out];exact hlt);obtain⟨d1,h1⟩:∃d,d=dg xs i:=⟨_,rfl⟩;obtain⟨d2,h2⟩:∃d,d=dg ys i:=⟨_,rfl⟩;rw[←h1] at e1;rw[←h2] at e2;have D1:=zh h1;have D2:=zh h2;replace e1:=(hB.cell (World.block_lt_of_cell? w _ e1)).trans e1;replace e2:=(hB.cell (World.block_lt_of_cell? w _ e2)).trans e2;have i1:(i:Int)<(n:Int):=zo;have i2:(0:Int)≤(i:Int):=zo;clear h1 h2;by_cases he:d1=d2
    ·have g1:((d1:Int) !=(d2:Int))=false:=by simp[he]
     have HE:=zh he;clear he;have Bz:=zr wr;have pB0:=(Bz.cell (World.block_lt_of_cell? wr _ e1)).trans e1;have pC0:=(Bz.cell (World.block_lt_of_cell? wr _ e2)).trans e2;go_wp2_with fail
     (try simp only[vAa,vBa,vC])
     refine zl (zz [0,1,2,3,4,5,6,7,8] .done) [] (zsa pB0 (zIa pC0)) ?_;iterate 9 (refine zUa ?_;try simp only[Act.put,uX,uY,uZ])
     refine zAa ?_;go_wp2_with fail
     go_roundg (n-(i+1))
     case measure=>have:=HGK.out;omega
     case rel=>exact⟨i+1,zo,rfl,by go_num,bT (bT hB Bz),fun j hj=>by
      rcases kB j i with h1 | h1
      ·exact HD.out j h1
      ·obtain rfl:j=i:=zo;rw[←D1.out,←D2.out];exact HE.out⟩
    ·have g1:((d1:Int) !=(d2:Int))=true:=by simp;omega
     have HE:=zh he;clear he;have Bz:=zr wr;have pB0:=(Bz.cell (World.block_lt_of_cell? wr _ e1)).trans e1;have pC0:=(Bz.cell (World.block_lt_of_cell? wr _ e2)).trans e2;go_wp2_with fail
     (try simp only[vAa,vBa,vC])
     refine zl (zz [0,1,2,3,4,5,6,7,8] .done) [] (zsa pB0 (zIa pC0)) ?_;iterate 9 (refine zUa ?_;try simp only[Act.put,uX,uY,uZ])
     refine zAa ?_;go_wp2_with fail
     go_ret
     have hF:=bT (c:=wr) hB Bz;obtain rfl:t=false:=by rw[←HT.out];simp;intro e;apply HE.out;rw[D1.out,D2.out,e]
     exact⟨rfl,bT (bT hB Bz)⟩
   ·obtain rfl:i=n:=zo;have i1:¬(i:Int)<(i:Int):=zo;obtain rfl:t=true:=by rw[←HT.out];simp;exact dg_ext HN.out (by rw[←HN1.out];exact HD.out)
    go_wp2_with fail
    go_ret
    exact⟨rfl,hB⟩
 ·obtain rfl:t=false:=by rw[←ht];simp;rintro rfl;exact hn rfl
  have g1:((xs.length:Int) !=(ys.length:Int))=true:=by simp;omega
  clear ht h h' hn;go_enter Tryz.func126,Tryz.ntmps126
  go_wp2_with fail
  go_ret
  exact⟨rfl,Below.refl _ _⟩
theorem sameWords_j {w:World} {b b':Bool} {A A':Option Addr} {c c' l l':Nat} {z z':Int} (h:J w b A c l z) (h':J w b' A' c' l' z') (hl:l≤800000000000) (hl':l'≤800000000000) (t:Bool) (ht:Hid (decide (z.natAbs=z'.natAbs)=t)) :
  Calls Tryz.prog 126 #[.slice A l c,.slice A' l' c'] w fun e w'=>e=.returned (.bool t)∧Below w.heap.size w w':=by
 obtain⟨h1,rfl⟩:=h.dx;obtain⟨h2,rfl⟩:=h'.dx;refine sameWords_any h1 h2 hl hl' t ?_;rw[←ht.out];by_cases e:z.natAbs=z'.natAbs
 ·rw[fC e,e,fC rfl]
 ·rw[jB e,jB (fun e2=>e (limbs_inj e2))]
theorem J.sg2 {w:World} {b:Bool} {A:Option Addr} {c l:Nat} {z:Int} (h:J w b A c l z):b=decide (z<0):=h.2
theorem sameInt_j {w:World} {b b':Bool} {A A':Option Addr} {c c' l l':Nat} {z z':Int} (h:J w b A c l z) (h':J w b' A' c' l' z') (hl:l≤800000000000) (hl':l'≤800000000000) (t:Bool) (ht:Hid (decide (z=z')=t)) :
  Calls Tryz.prog 89 #[.agg #[.bool b,.slice A l c],.agg #[.bool b',.slice A' l' c']] w fun e w'=>e=.returned (.bool t)∧Below w.heap.size w w':=by
 have e1:=h.sg2;have e2:=h'.sg2;by_cases hs:b=b'
 ·subst hs;have hs2:decide (z<0)=decide (z'<0):=e1.symm.trans e2;replace ht:Hid (decide (z.natAbs=z'.natAbs)=t):=zh (by
   rw[←ht.out];by_cases e:z=z'
   ·subst e;simp
   ·rw[jB e,jB];intro e3;by_cases hz:z<0
    ·rw[fC hz] at hs2;have:=of_decide_eq_true hs2.symm;omega
    ·rw[jB hz] at hs2;have:=of_decide_eq_false hs2.symm;omega)
  have g1:(b==b)=true:=by simp
  clear e1 e2 hs2;have HX:=h;have HY:=h';clear h h';obtain⟨W,hW,x0,x1,hB⟩:=boxes2 w #[.bool b,.slice A l c] 28 #[.bool b,.slice A' l' c'] 28;replace HX:=HX.below hB;replace HY:=HY.below hB;have HX0:=zh x0;have HX1:=zh x1;clear x0 x1;have Bz:=zr W;obtain⟨pa0,pa1,-⟩:=(zxb HX0 Bz).cz;obtain⟨pb0,pb1,-⟩:=(zxb HX1 Bz).cz;go_enter Tryz.func89,Tryz.ntmps89
  go_wp2_with fail
  rw[←hW];clear hW;go_wp2_with fail
  with_reducible refine(sameWords_j (J.below HX) (J.below HY) hl hl' t ht).mono ?_
  rintro e w1 ⟨rfl,q⟩;replace q:=zq (a:=W) q;replace Bz:=bT Bz q;clear q;clear pa0 pa1 pb0 pb1;go_wp2_with fail
  go_ret
  have hF:=bT (c:=w1) hB Bz;exact⟨rfl,bT hF⟩
 ·obtain rfl:t=false:=by
   rw[←ht.out];refine jB fun e=>hs ?_;subst e;rw[e1,e2]
  have g1:(b==b')=false:=by simpa using hs
  clear e1 e2 hs ht hl hl';have HX:=h;have HY:=h';clear h h';obtain⟨W,hW,x0,x1,hB⟩:=boxes2 w #[.bool b,.slice A l c] 28 #[.bool b',.slice A' l' c'] 28;have HX0:=zh x0;have HX1:=zh x1;clear x0 x1;have Bz:=zr W;have pa0:=(zxb HX0 Bz).cell 0 (.bool b) rfl;have pb0:=(zxb HX1 Bz).cell 0 (.bool b') rfl;go_enter Tryz.func89,Tryz.ntmps89
  go_wp2_with fail
  rw[←hW];clear hW;go_wp2_with fail
  go_ret
  have hF:=bT (c:=W) hB Bz;exact⟨rfl,bT hF⟩
theorem dn_inj {p q:Rat} (h:dn p=dn q):p.den=q.den:=by
 unfold dn at h
 have h1:=p.den_nz;have h2:=q.den_nz;split at h<;>split at h<;>omega
theorem sameRat_rn {w:World} {s s' t t':Bool} {A A' B B':Option Addr} {c l c' l' e k e' k':Nat} {p q:Rat} (h:RN w s A c l s' A' c' l' p) (h':RN w t B e k t' B' e' k' q) (hl:l≤800000000000∧l'≤800000000000) (hk:k≤800000000000∧k'≤800000000000) (r:Bool) (hr:Hid (decide (p=q)=r)) :
  Calls Tryz.prog 50 #[.agg #[.bool s,.slice A l c,.bool s',.slice A' l' c'],.agg #[.bool t,.slice B k e,.bool t',.slice B' k' e']] w fun e w'=>e=.returned (.bool r)∧Below w.heap.size w w':=by
 obtain⟨hl1,hl2⟩:=hl;obtain⟨hk1,hk2⟩:=hk;by_cases g1:p.num=q.num
 ·have h1:Hid (decide (p.num=q.num)=true):=zh (fC g1);by_cases g2:dn p=dn q
  ·have h2:Hid (decide (dn p=dn q)=true):=zh (fC g2);obtain rfl:r=true:=by rw[←hr.out];exact fC (Rat.ext g1 (dn_inj g2))
   clear g1 g2 hr;have HX:=h.n;have HY:=h'.n;have HXD:=h.d;have HYD:=h'.d;clear h h';obtain⟨W,hW,x0,x1,hB⟩:=boxes2 w #[.bool s,.slice A l c,.bool s',.slice A' l' c'] 30 #[.bool t,.slice B k e,.bool t',.slice B' k' e'] 30;replace HX:=HX.below hB;replace HXD:=HXD.below hB;replace HY:=HY.below hB;replace HYD:=HYD.below hB;have HX0:=zh x0;have HX1:=zh x1;clear x0 x1;have Bz:=zr W;obtain⟨pa0,pa1,-⟩:=(zxb HX0 Bz).cz;obtain⟨pb0,pb1,-⟩:=(zxb HX1 Bz).cz;go_enter Tryz.func50,Tryz.ntmps50
   go_wp2_with fail
   rw[←hW];clear hW;go_wp2_with fail
   with_reducible refine(sameInt_j (J.below HX) (J.below HY) zo zo true h1).mono ?_
   rintro e w1 ⟨rfl,b⟩;replace b:=zq (a:=W) b;replace HXD:=HXD.below b;replace HYD:=HYD.below b;replace Bz:=bT Bz b;clear b;clear pa0 pa1 pb0 pb1;obtain⟨-,-,pa2,pa3,-⟩:=(zxb HX0 Bz).cz;obtain⟨-,-,pb2,pb3,-⟩:=(zxb HX1 Bz).cz;go_wp2_with fail
   with_reducible refine(sameInt_j (J.below HXD) (J.below HYD) zo zo true h2).mono ?_
   rintro e w2 ⟨rfl,b⟩;replace b:=zq (a:=w1) b;replace Bz:=bT Bz b;clear b;clear pa2 pa3 pb2 pb3;go_wp2_with fail
   go_ret
   have hF:=bT (c:=w2) hB Bz;exact⟨rfl,bT hF⟩
  ·have h2:Hid (decide (dn p=dn q)=false):=zh (jB g2);obtain rfl:r=false:=by rw[←hr.out];exact jB (fun e=>g2 (by rw[e]))
   clear g1 g2 hr;have HX:=h.n;have HY:=h'.n;have HXD:=h.d;have HYD:=h'.d;clear h h';obtain⟨W,hW,x0,x1,hB⟩:=boxes2 w #[.bool s,.slice A l c,.bool s',.slice A' l' c'] 30 #[.bool t,.slice B k e,.bool t',.slice B' k' e'] 30;replace HX:=HX.below hB;replace HXD:=HXD.below hB;replace HY:=HY.below hB;replace HYD:=HYD.below hB;have HX0:=zh x0;have HX1:=zh x1;clear x0 x1;have Bz:=zr W;obtain⟨pa0,pa1,-⟩:=(zxb HX0 Bz).cz;obtain⟨pb0,pb1,-⟩:=(zxb HX1 Bz).cz;go_enter Tryz.func50,Tryz.ntmps50
   go_wp2_with fail
   rw[←hW];clear hW;go_wp2_with fail
   with_reducible refine(sameInt_j (J.below HX) (J.below HY) zo zo true h1).mono ?_
   rintro e w1 ⟨rfl,b⟩;replace b:=zq (a:=W) b;replace HXD:=HXD.below b;replace HYD:=HYD.below b;replace Bz:=bT Bz b;clear b;clear pa0 pa1 pb0 pb1;obtain⟨-,-,pa2,pa3,-⟩:=(zxb HX0 Bz).cz;obtain⟨-,-,pb2,pb3,-⟩:=(zxb HX1 Bz).cz;go_wp2_with fail
   with_reducible refine(sameInt_j (J.below HXD) (J.below HYD) zo zo false h2).mono ?_
   rintro e w2 ⟨rfl,b⟩;replace b:=zq (a:=w1) b;replace Bz:=bT Bz b;clear b;clear pa2 pa3 pb2 pb3;go_wp2_with fail
   go_ret
   have hF:=bT (c:=w2) hB Bz;exact⟨rfl,bT hF⟩
 ·have h1:Hid (decide (p.num=q.num)=false):=zh (jB g1);obtain rfl:r=false:=by rw[←hr.out];exact jB (fun e=>g1 (by rw[e]))
  clear g1 hr;have HX:=h.n;have HY:=h'.n;have HXD:=h.d;have HYD:=h'.d;clear h h';obtain⟨W,hW,x0,x1,hB⟩:=boxes2 w #[.bool s,.slice A l c,.bool s',.slice A' l' c'] 30 #[.bool t,.slice B k e,.bool t',.slice B' k' e'] 30;replace HX:=HX.below hB;replace HY:=HY.below hB;have HX0:=zh x0;have HX1:=zh x1;clear x0 x1;have Bz:=zr W;obtain⟨pa0,pa1,-⟩:=(zxb HX0 Bz).cz;obtain⟨pb0,pb1,-⟩:=(zxb HX1 Bz).cz;go_enter Tryz.func50,Tryz.ntmps50
  go_wp2_with fail
  rw[←hW];clear hW;go_wp2_with fail
  with_reducible refine(sameInt_j (J.below HX) (J.below HY) zo zo false h1).mono ?_
  rintro e w1 ⟨rfl,b⟩;replace b:=zq (a:=W) b;replace Bz:=bT Bz b;clear b;clear pa0 pa1 pb0 pb1;go_wp2_with fail
  go_ret
  have hF:=bT (c:=w1) hB Bz;exact⟨rfl,bT hF⟩
def Ones (w:World) (L:List Fr):Prop:=∀x∈L,RN w x.s x.A x.c x.l x.s' x.A' x.c' x.l' x.q∧x.l≤800000000000∧x.l'≤800000000000
theorem Ones.below {w w':World} {L:List Fr} (h:Ones w L) (hb:Below w.heap.size w w':=by go_grown):Ones w' L:=fun x hx=>⟨(h x hx).1.below hb,(h x hx).2⟩
def SI1 (w:World) (L M:List Int) (n gk:Nat) (s:Value) (wr:World):Prop:=∃i:Nat,i≤n∧n-i=gk∧s=.int .i64 (i:Int)∧Below w.heap.size w wr∧L.take i=M.take i
theorem sameInts_q {w:World} {A A':Option Addr} {n n' c c':Nat} {L M:List Int} (h:Sl ics 1 w A n c L) (h':Sl ics 1 w A' n' c' M) (hn:n≤9223372036854775807) (hn':n'≤9223372036854775807) (r:Bool) (hr:Hid (decide (L=M)=r)) :
  Calls Tryz.prog 13 #[.slice A n c,.slice A' n' c'] w fun e w'=>e=.returned (.bool r)∧Below w.heap.size w w':=by
 have H:=zh h;have H':=zh h';have HLN:=zh h.1;have HMN:=zh h'.1;by_cases hnn:n=n'
 ·subst hnn;have g0:((n:Int) !=(n:Int))=false:=by simp
  have hst:SI1 w L M n n (.int .i64 ((0:Nat):Int)) w:=⟨0,nA _,rfl,rfl,Below.refl _ _,by simp⟩;have HST:=zh hst;clear h h' hst;go_enter Tryz.func13,Tryz.ntmps13
  go_wp2_with fail
  go_loopg [5] n (fun gk s wr=>SI1 w L M n gk s wr)
  case atStart=>exact HST.out
  case round =>
   clear HST;obtain⟨i,hi,hgk,rfl,hB,hd⟩:=hrel;have HGK:=zh hgk;have HD:=zh hd;clear hgk hd;by_cases hlt:i<n
   ·obtain⟨b,off,rfl,hel⟩:=H.out.at ics_len zo zo;obtain⟨b',off',rfl,hel'⟩:=H'.out.at ics_len zo zo;obtain⟨x,hx⟩:∃x,L[i]?=some x:=⟨L[i]'(by rw[HLN.out];exact hlt),aA _⟩;obtain⟨y,hy⟩:∃y,M[i]?=some y:=⟨M[i]'(by rw[HMN.out];exact hlt),aA _⟩;have hnd:ElA w b (off+i) (ics x):=by have:=hel i x hx;rwa [wC] at this
    have hnd':ElA w b' (off'+i) (ics y):=by have:=hel' i y hy;rwa [wC] at this
    have HX:=zh hx;have HY:=zh hy;have i1:(i:Int)<(n:Int):=zo;have i2:(0:Int)≤(i:Int):=zo;clear hx hel hy hel';by_cases hxy:x=y
    ·subst hxy;have q0:(x != x)=false:=by simp
     have Bz:=zr wr;have pA0:=(hnd.below (bT hB Bz)).c0 (u:=.int .i64 x) rfl;have pB0:=(hnd'.below (bT hB Bz)).c0 (u:=.int .i64 x) rfl;go_wp2_with fail
     (try simp only[vAa,vBa,vC])
     refine zl (zz [0,1,2,3,4,5,6,7,8] .done) [] (zsa pA0 (zIa pB0)) ?_;iterate 9 (refine zUa ?_;try simp only[Act.put,uX,uY,uZ])
     refine zAa ?_;go_wp2_with fail
     go_roundg (n-(i+1))
     case measure=>have:=HGK.out;omega
     case rel=>exact⟨i+1,zo,rfl,by go_num,bT (bT hB Bz),by rw[take_snoc HX.out,take_snoc HY.out,HD.out]⟩
    ·have q0:(x != y)=true:=by simpa using hxy
     have HNE:=zh hxy;clear hxy;have Bz:=zr wr;have pA0:=(hnd.below (bT hB Bz)).c0 (u:=.int .i64 x) rfl;have pB0:=(hnd'.below (bT hB Bz)).c0 (u:=.int .i64 y) rfl;go_wp2_with fail
     (try simp only[vAa,vBa,vC])
     refine zl (zz [0,1,2,3,4,5,6,7,8] .done) [] (zsa pA0 (zIa pB0)) ?_;iterate 9 (refine zUa ?_;try simp only[Act.put,uX,uY,uZ])
     refine zAa ?_;go_wp2_with fail
     go_ret
     have hF:=bT (c:=wr) hB Bz;obtain rfl:r=false:=by rw[←hr.out];exact jB (fun e=>by have h1:=HX.out;rw[e,HY.out] at h1;simp at h1;exact HNE.out h1.symm)
     exact⟨rfl,bT (bT hB Bz)⟩
   ·obtain rfl:i=n:=zo;have i1:¬(i:Int)<(i:Int):=zo;have e:L=M:=by have:=HD.out;rwa [eA (by rw[HLN.out];exact cA _),eA (by rw[HMN.out];exact cA _)] at this
    obtain rfl:r=true:=by rw[←hr.out];exact fC e
    clear e;go_wp2_with fail
    go_ret
    exact⟨rfl,hB⟩
 ·have g0:((n:Int) !=(n':Int))=true:=by simp;omega
  obtain rfl:r=false:=by rw[←hr.out];exact jB (fun e=>hnn (by rw[←HLN.out,←HMN.out,e]))
  clear h h' hr;have hB:=Below.refl w.heap.size w;have Bz:=zr w;go_enter Tryz.func13,Tryz.ntmps13
  go_wp2_with fail
  go_ret
  have hF:=bT (c:=w) hB Bz;exact⟨rfl,bT hF⟩
end Go.Proofs.YteggjbgbknkoiaaGreatDoor
