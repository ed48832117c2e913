import Derived.Test.YtiondclbdgijbaaGreatDoorYZWa
import Derived.Test.YtiondclbdgijbaaGreatDoorYZSched
namespace Go.Proofs.YtiondclbdgijbaaGreatDoor
open Go.RowKit Tw
theorem store4 {w:World} {b:Nat} {t:TypeId} {u0 u1 u2 u3:Value} (v0 v1 v2 v3:Value) (h0:Bx w b #[u0,u1,u2,u3] t) (n0:∀n,u0≠.int .u64 n) (n1:∀n,u1≠.int .u64 n) (n2:∀n,u2≠.int .u64 n) (n3:∀n,u3≠.int .u64 n) :
  ∃W,W=(((w.setCell ⟨b,0,none⟩ v0).setCell ⟨b,1,none⟩ v1).setCell ⟨b,2,none⟩ v2).setCell ⟨b,3,none⟩ v3∧Bx W b #[v0,v1,v2,v3] t∧K64 w W∧(∀b' cs t',b'≠b→Bx w b' cs t'→Bx W b' cs t')∧(∀B w0,B≤b→Below B w0 w→Below B w0 W):=by
 have h1:Bx (w.setCell ⟨b,0,none⟩ v0) b #[v0,u1,u2,u3] t:=h0.set 0 v0;have h2:Bx ((w.setCell ⟨b,0,none⟩ v0).setCell ⟨b,1,none⟩ v1) b #[v0,v1,u2,u3] t:=h1.set 1 v1;have h3:Bx (((w.setCell ⟨b,0,none⟩ v0).setCell ⟨b,1,none⟩ v1).setCell ⟨b,2,none⟩ v2) b #[v0,v1,v2,u3] t:=h2.set 2 v2;have h4:Bx ((((w.setCell ⟨b,0,none⟩ v0).setCell ⟨b,1,none⟩ v1).setCell ⟨b,2,none⟩ v2).setCell ⟨b,3,none⟩ v3) b #[v0,v1,v2,v3] t:=h3.set 3 v3;have k0:K64 (w) (w.setCell ⟨b,0,none⟩ v0):=K64.box h0 (i:=0) rfl n0 v0;have k1:K64 (w.setCell ⟨b,0,none⟩ v0) ((w.setCell ⟨b,0,none⟩ v0).setCell ⟨b,1,none⟩ v1):=K64.box h1 (i:=1) rfl n1 v1;have k2:K64 ((w.setCell ⟨b,0,none⟩ v0).setCell ⟨b,1,none⟩ v1) (((w.setCell ⟨b,0,none⟩ v0).setCell ⟨b,1,none⟩ v1).setCell ⟨b,2,none⟩ v2):=K64.box h2 (i:=2) rfl n2 v2;have k3:K64 (((w.setCell ⟨b,0,none⟩ v0).setCell ⟨b,1,none⟩ v1).setCell ⟨b,2,none⟩ v2) ((((w.setCell ⟨b,0,none⟩ v0).setCell ⟨b,1,none⟩ v1).setCell ⟨b,2,none⟩ v2).setCell ⟨b,3,none⟩ v3):=K64.box h3 (i:=3) rfl n3 v3;exact⟨_,rfl,h4,(((k0.trans k1).trans k2).trans k3),fun b' cs t' hb hx=>((((hx.far hb v0).far hb v1).far hb v2).far hb v3),fun B w0 hB hb=>((((hb.setCell hB v0).setCell hB v1).setCell hB v2).setCell hB v3)⟩
theorem cell_off4 {w:World} {b b' j:Nat} {u0 u1 u2 u3:Value} (h:b≠b'):((((w.setCell ⟨b,0,none⟩ u0).setCell ⟨b,1,none⟩ u1).setCell ⟨b,2,none⟩ u2).setCell ⟨b,3,none⟩ u3).cell? ⟨b',j,none⟩=w.cell? ⟨b',j,none⟩:=by
 rw[World.cell?_setCell_other _ _ _ _ (by intro e;cases e;exact h rfl),World.cell?_setCell_other _ _ _ _ (by intro e;cases e;exact h rfl),World.cell?_setCell_other _ _ _ _ (by intro e;cases e;exact h rfl),World.cell?_setCell_other _ _ _ _ (by intro e;cases e;exact h rfl)]
def NoU (cs:Array Value):Prop:=∀u∈cs,∀n,u≠.int .u64 n
theorem NoU.append {a b:Array Value} (h:NoU a) (k:NoU b):NoU (a++b):=fun u hu n=>by
 rcases Array.mem_append.1 hu with h1 | h1
 ·exact h u h1 n
 ·exact k u h1 n
theorem NoU.toList {xs:List Value} (h:∀u∈xs,∀n,u≠.int .u64 n):NoU xs.toArray:=fun u hu n=>h u (by simpa using hu) n
theorem NoU.zeros {z:Array Value} (h:NoU z) (n:Nat):NoU (Builtin.zeroCells z n):=fun u hu k=>by
 unfold Builtin.zeroCells at hu
 obtain⟨i,_,rfl⟩:=Array.mem_map.1 hu;rcases eB (i % z.size) z.size with h1 | h1
 ·rw[getElem!_pos z _ h1];exact h _ (Array.getElem_mem h1) k
 ·rw[getElem!_neg z _ zo];intro e;cases e
def OwnR (w : World) (base : Nat) (e : TypeId) (size : Nat) (v : Value) (n : Nat) (xs : List Value) : Prop :=
  xs.length = n * size ∧ ((v = .slice none 0 0 ∧ n = 0) ∨
   ∃ g cap cur, v = .slice (some ⟨g, 0, none⟩) n cap ∧ base ≤ g ∧ Bx w g cur e ∧ n ≤ cap ∧ cap ≤ maxLen ∧ cur.size = cap * size ∧ cur.toList.take (n * size) = xs ∧ NoU cur)
section
variable {w w':World} {base:Nat} {e:TypeId} {size:Nat} {v:Value} {n:Nat} {xs:List Value}
theorem OwnR.nil (w:World) (base:Nat) (e:TypeId) (size:Nat):OwnR w base e size (.slice none 0 0) 0 []:=⟨by simp,.inl ⟨rfl,rfl⟩⟩
theorem OwnR.owns (h:OwnR w base e size v n xs):w.ownsRow base e size v n xs:=by
 obtain⟨h1,h2 | ⟨g,cap,cur,a1,a2,a3,a4,a5,a6,a7,_⟩⟩:=h
 ·exact⟨h1,.inl h2⟩
 ·exact⟨h1,.inr ⟨g,cap,cur,a1,a2,a3,a4,a5,a6,a7⟩⟩
theorem OwnR.kept {row:Option Nat} (h:OwnR w base e size v n xs) (hg:w.grownBy w' row) (hne:v.ownBlock=none∨v.ownBlock≠row):OwnR w' base e size v n xs:=by
 obtain⟨h1,h2 | ⟨g,cap,cur,rfl,a2,a3,a4⟩⟩:=h
 ·exact⟨h1,.inl h2⟩
 ·refine⟨h1,.inr ⟨g,cap,cur,rfl,a2,?_,a4⟩⟩;refine(hg.block g a3.lt ?_).trans a3;rcases hne with h | h
  ·simp[Value.ownBlock] at h
  ·simpa [Value.ownBlock] using h
theorem OwnR.below (h:OwnR w base e size v n xs) (hb:Below w.heap.size w w':=by go_grown):OwnR w' base e size v n xs:=by
 obtain⟨h1,h2 | ⟨g,cap,cur,rfl,a2,a3,a4⟩⟩:=h
 ·exact⟨h1,.inl h2⟩
 ·exact⟨h1,.inr ⟨g,cap,cur,rfl,a2,a3.below hb,a4⟩⟩
theorem K64.row {g:Nat} {cur cs:Array Value} {t:TypeId} (h:Bx w g cur t) (hn:NoU cur):K64 w (w.setRow g cs):=fun p k hp=>by
 by_cases e:p.block=g
 ·exfalso
  subst e;obtain⟨b,o,m⟩:=p;unfold World.cell? at hp
  have h':w.heap[b]?=some (.cells cur t (0,0)):=h;simp only[h'] at hp
  cases m with
  | none=>exact hn _ (Array.mem_of_getElem? hp) k rfl
  | some m=>simp at hp
 ·rw[cell_setRow_other w g cs p e];exact hp
theorem run_append_or {P:Program} (w:World) (base:Nat) (t ty e:TypeId) (i:TypeInfo) (z:Value) (size bytes:Nat) (ht:P.underlying t=some (.slice e)) (hi:P.info? e=some i) (hz:i.zero=some z)
  (hsize:i.size=size) (hby:i.bytes=bytes) (hzs:z.cells.size=size) (hzu:NoU z.cells)
  (v:Value) (n:Nat) (xs:List Value) (hown:OwnR w base e size v n xs)
  (a:Addr) (m c:Nat) (news:List Value) (hl:news.length=m*size) (hnews:∀j u,news[j]?=some u→w.cell? (a.add j)=some u) (h1:∀u∈news,u.oneCell'=true) (hnu:∀u∈news,∀n,u≠.int .u64 n) (hm:0<m)
  (h63:n+m≤maxLen) (hbytes:(n+m)*bytes≤140737488355328) (hbase:base≤w.heap.size) :
  ∃v' w',(Builtin.append_ #[t,t] ty #[v,.slice (some a) m c]).run P w=.ok v' w'∧OwnR w' base e size v' (n+m) (xs++news)∧w.grownBy w' v.ownBlock∧K64 w w':=by
 subst hsize;subst hby;have hsmall:n+m≤9223372036854775807:=by simp only[maxLen] at h63;omega
 have hlen:(xs++news).length=(n+m)*i.size:=by rw[eD,hown.1,hl,xB]
 have grown:∀(old:Nat),old<n+m→(∀u∈xs,∀n,u≠.int .u64 n)→∀(row:Option Nat),
   OwnR (w.drew.alloc (.cells (xs.toArray++news.toArray++Builtin.zeroCells z.cells (grownCap w (n+m) old e-(n+m))) e)) base e i.size
    (.slice (some ⟨w.heap.size,0,none⟩) (n+m) (grownCap w (n+m) old e)) (n+m) (xs++news)∧
   w.grownBy (w.drew.alloc (.cells (xs.toArray++news.toArray++Builtin.zeroCells z.cells (grownCap w (n+m) old e-(n+m))) e)) row:=by
  intro old ho hxu row;have hge:=grownCap_ge w (n+m) old e;have hcm:grownCap w (n+m) old e≤maxLen:=grownCap_le_maxLen w (n+m) old e h63;refine⟨⟨hlen,.inr ⟨w.heap.size,_,_,rfl,hbase,heap_alloc_new w.drew _,hge,hcm,?_,?_,((NoU.toList hxu).append (NoU.toList hnu)).append (hzu.zeros _)⟩⟩,⟨rfl,rfl,rfl,by simp,fun k hk _=>Below.heap_alloc w.drew _ k hk⟩⟩
  ·simp only[Array.size_append,List.size_toArray,size_zeroCells,hzs,hown.1,hl,←xB]
   congr 1
   omega
  ·simp only[Array.toList_append,rE]
   rw[←rE,←hlen];exact List.take_left
 have kg:∀cs,K64 w (w.drew.alloc (.cells cs e)):=fun cs=>K64.below (bT (b:=w.drew) (Below.drew (Below.refl _ _)) (zAe _ _));rcases hown.2 with⟨rfl,rfl⟩ | ⟨g,cap,cur,rfl,hbg,hg,hnc,hcm,hcs,htake,hu⟩
 ·have hx:xs=[]:=rC (by simpa using hown.1);subst hx;have hr:=run_append_nil (P:=P) w t ty e i z ht hi hz a m c news hl hnews zo zo (by have hb:=hbytes;simp only[mC] at hb;omega);have hgr:=grown 0 zo (fun _ h=>by cases h) (Value.ownBlock (.slice none 0 0));simp only[mC,uE,Array.empty_append] at hgr ⊢
  exact⟨_,_,hr,hgr.1,hgr.2,kg _⟩
 ·by_cases hroom:n+m≤cap
  ·have hfit:n*i.size+news.length≤cur.size:=by rw[hl,hcs,←xB];exact fB _ hroom
   have hr:=run_append_room (P:=P) w t ty e i ht hi g n cap cur hg a m c news hl hnews h1 hroom hfit;refine⟨_,_,hr,⟨hlen,.inr ⟨g,cap,_,rfl,hbg,setRow_heap w g cur _ e _ hg,hroom,hcm,?_,?_,?_⟩⟩,⟨rfl,rfl,rfl,by simp,fun k _ hk=>setRow_other w g k _ (fun e=>hk (by simp[Value.ownBlock,e]))⟩,K64.row hg hu⟩
   ·simp only[List.size_toArray,eD,mB,List.length_drop,Array.length_toList]
    omega
   ·rw[htake,←hlen];exact List.take_left
   ·refine NoU.toList fun u hx n=>?_;simp only[uD] at hx
    rcases hx with(hx | hx) | hx
    ·exact hu u (by simpa using xF hx) n
    ·exact hnu u hx n
    ·exact hu u (by simpa using List.mem_of_mem_drop hx) n
  ·have holds:∀j u,xs[j]?=some u→w.cell? ((⟨g,0,none⟩:Addr).add j)=some u:=hown.owns.cells (g:=g) rfl;have hr:=run_append_grow (P:=P) w t ty e i z ht hi hz ⟨g,0,none⟩ n cap xs hown.1 holds a m c news hl hnews zo zo (growslice_fits zo hbytes);have hgr:=grown cap zo (fun u hx n=>hu u (by rw[←htake] at hx;simpa using xF hx) n) (Value.ownBlock (.slice (some ⟨g,0,none⟩) n cap));exact⟨_,_,hr,hgr.1,hgr.2,kg _⟩
end
end Go.Proofs.YtiondclbdgijbaaGreatDoor
