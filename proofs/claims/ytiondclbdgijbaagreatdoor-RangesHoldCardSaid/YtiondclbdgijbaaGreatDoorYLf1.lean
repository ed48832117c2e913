import Derived.Test.YtiondclbdgijbaaGreatDoorYMx2
import Derived.Test.YtiondclbdgijbaaGreatDoorYSo5
import Derived.Test.YtiondclbdgijbaaGreatDoorYHdL
import Derived.Test.YtiondclbdgijbaaGreatDoorYReg
set_option maxHeartbeats 16000000
set_option maxRecDepth 100000
namespace Go.Proofs.YtiondclbdgijbaaGreatDoor
open Go.RowKit Tw
theorem elt_frs:Elt Fr.cs 4 25 47:=Elt.of (.agg #[.bool false,.slice none 0 0,.bool false,.slice none 0 0]) 64 Tryz.underlying25 (by kernel_rfl) zo (by kernel_rfl) (nou_list (by kernel_rfl)) Fr.cs_len
 (fun x u hu=>by simp[Fr.cs] at hu;rcases hu with rfl | rfl | rfl | rfl<;>rfl) (fun x u hu n=>by simp[Fr.cs] at hu;rcases hu with rfl | rfl | rfl | rfl<;>simp)
theorem fr_zero {i:TypeInfo} {z:Value} (h:Tryz.prog.info? 47=some i) (hz:i.zero=some z):z.cells.toList=Fr.cs zFr:=by
 have h1:(Tryz.prog.info? 47).map (fun i=>i.zero)=some (some (.agg #[.bool false,.slice none 0 0,.bool false,.slice none 0 0])):=by kernel_rfl
 rw[h,vE,hz] at h1;obtain rfl:z=.agg #[.bool false,.slice none 0 0,.bool false,.slice none 0 0]:=by simpa using h1
 rfl
theorem fr_store {w:World} {B g n cap i:Nat} {L:List Fr} (h:OwnR w B 47 4 (.slice (some ⟨g,0,none⟩) n cap) n (flat Fr.cs L)) {y:Fr} (hy:L[i]?=some y) (x:Fr) :
  ∃V,V=(((w.setCell ⟨g,i*4,none⟩ (.bool x.s)).setCell ⟨g,i*4+1,none⟩ (.slice x.A x.l x.c)).setCell ⟨g,i*4+2,none⟩ (.bool x.s')).setCell ⟨g,i*4+3,none⟩ (.slice x.A' x.l' x.c')∧
   OwnR V B 47 4 (.slice (some ⟨g,0,none⟩) n cap) n (flat Fr.cs (L.set i x))∧Grew w V (.slice (some ⟨g,0,none⟩) n cap) (.slice (some ⟨g,0,none⟩) n cap):=by
 have:=elt_frs.sets h hy (y:=x) [(0,.bool x.s),(1,.slice x.A x.l x.c),(2,.bool x.s'),(3,.slice x.A' x.l' x.c')] (fun p hp=>by simp at hp;rcases hp with rfl | rfl | rfl | rfl<;>exact⟨by simp,by simp⟩) rfl;exact⟨_,rfl,this⟩
theorem fr_0 {w:World} {B g n cap i:Nat} {L:List Fr} (h:OwnR w B 47 4 (.slice (some ⟨g,0,none⟩) n cap) n (flat Fr.cs L)) {y:Fr} (hy:L[i]?=some y):w.cell? ⟨g,i*4,none⟩=some (.bool y.s) :=
 elt_frs.cell h hy (j:=0) (u:=.bool y.s) zo rfl
def AllFr (w:World) (K:Nat) (L:List Fr):Prop:=∀x∈L,FrOk w K x
theorem AllFr.below {w w':World} {K:Nat} {L:List Fr} (h:AllFr w K L) (hb:Below w.heap.size w w':=by go_grown):AllFr w' K L:=fun x hx=>(h x hx).below hb
theorem AllFr.k {w w':World} {K:Nat} {L:List Fr} (h:AllFr w K L) (hb:K64 w w'):AllFr w' K L:=fun x hx=>(h x hx).k hb
theorem AllFr.set {w:World} {K:Nat} {L:List Fr} (h:AllFr w K L) (i:Nat) {x:Fr} (hx:FrOk w K x):AllFr w K (L.set i x):=fun y hy=>by
 rcases tF hy with hy | rfl
 ·exact h y hy
 ·exact hx
theorem dotG {w:World} {X Y:Option Addr} {n cx m cy M M' K:Nat} {P Q:List (Int×Rat)} (h:GV w X n cx P M) (h':GV w Y m cy Q M') (hM0:n*(M+M'+3)≤15000000000) (hM:M≤15000000000) (hM':M'≤15000000000) (hn:n≤1000000) (hm:m≤1000000) (hs:sz (pdot P Q)≤K) (hT:Hid (Tab w)) :
  Calls Tryz.prog 90 #[.slice X n cx,.slice Y m cy] w (TellsNum w (pdot P Q) K):=(dotV_q h h' hM0 hM hM' hn hm hT).mono fun _ _ k=>k.num hs
def AllRn (w:World) (K:Nat) (L:List Fr):Prop:=∀x∈L,RN w x.s x.A x.c x.l x.s' x.A' x.c' x.l' x.q∧x.ex=true∧sz x.q+1≤K
theorem AllRn.below {w w':World} {K:Nat} {L:List Fr} (h:AllRn w K L) (hb:Below w.heap.size w w':=by go_grown):AllRn w' K L:=fun x hx=>⟨(h x hx).1.below hb,(h x hx).2⟩
theorem AllRn.k {w w':World} {K:Nat} {L:List Fr} (h:AllRn w K L) (hb:K64 w w'):AllRn w' K L:=fun x hx=>⟨(h x hx).1.k hb,(h x hx).2⟩
theorem AllRn.set {w:World} {K:Nat} {L:List Fr} (h:AllRn w K L) (i:Nat) {x:Fr} (hx:RN w x.s x.A x.c x.l x.s' x.A' x.c' x.l' x.q∧x.ex=true∧sz x.q+1≤K):AllRn w K (L.set i x):=fun y hy=>by
 rcases tF hy with hy | rfl
 ·exact h y hy
 ·exact hx
theorem AllRn.put {w:World} {K:Nat} {s s':Bool} {A A':Option Addr} {c l c' l':Nat} {q:Rat} (h:RN w s A c l s' A' c' l' q) (hs:sz q+1≤K):RN w s A c l s' A' c' l' q∧true=true∧sz q+1≤K:=⟨h,rfl,hs⟩
theorem AllRn.zeros (w:World) (m:Nat) {K:Nat} (hK:2≤K):AllRn w K (List.replicate m zFr):=fun x hx=>by
 rw[List.eq_of_mem_replicate hx];refine⟨(zFr_ok w (m:=1) zo).rn.1 rfl,rfl,?_⟩;have:=sz_zero;show sz 0+1≤K
 omega
def denseF (P:List (Int×Rat)) (m:Nat):List Rat:=(List.range m).map fun(i:Nat)=>pget P (i:Int)
def DnsE (D:List Fr) (T:List Tm):Prop:=∀(i:Nat) y,D[i]?=some y→y.q=pget (prs T) (i:Int)
theorem dns_get {T:List Tm} {j:Nat} {x:Tm} (hx:T[j]?=some x) (a:Int):pget (prs (T.take (j+1))) a=pget (prs (T.take j)) a+if x.at_=a then x.x.q else 0:=by
 rw[zAi hx,prs_append,pget_append];congr 1
 exact pget_one (x.at_,x.x.q) a
theorem DnsE.skip {D:List Fr} {T:List Tm} {j:Nat} {x:Tm} (h:DnsE D (T.take j)) (hx:T[j]?=some x) (ho:x.at_<0∨(D.length:Int)≤x.at_):DnsE D (T.take (j+1)):=fun i y hy=>by
 have hi:=(dC.1 hy).1;rw[dns_get hx,dA zo,sE];exact h i y hy
theorem DnsE.step {D:List Fr} {T:List Tm} {j a:Nat} {x:Tm} {y:Fr} (h:DnsE D (T.take j)) (hr:Rise (prs T)) (hx:T[j]?=some x) (ha:x.at_=(a:Int)) (hy:D[a]?=some y) (r:Fr) (hq:r.q=x.x.q):DnsE (D.set a r) (T.take (j+1)):=fun i z hz=>by
 have hal:=(dC.1 hy).1;by_cases e:i=a
 ·subst e;rw[qF hal,Option.some.injEq] at hz;subst hz;have h2:Rise (prs (T.take (j+1))):=by rw[←prs_take];exact List.Pairwise.sublist (List.take_sublist _ _) hr
  have h3:(x.at_,x.x.q)∈prs (T.take (j+1)):=by rw[zAi hx,prs_append];exact List.mem_append_right _ (uC.2 rfl)
  rw[←ha,h2.get h3,hq]
 ·rw[List.getElem?_set_ne (fun e2=>e e2.symm)] at hz;rw[dns_get hx,dA zo,sE];exact h i z hz
theorem DnsE.done {D:List Fr} {T:List Tm} {m:Nat} (h:DnsE D T) (hl:D.length=m):D.map (fun x=>x.q)=denseF (prs T) m:=by
 apply jF
 intro i;unfold denseF
 rw[mA,mA];by_cases hi:i<m
 ·rw[List.getElem?_range hi,cA zo];simp only[vE]
  rw[h i _ (cA zo)]
 ·rw[cB zo,cB (by rw[List.length_range];omega)];rfl
def TellsFs (w:World) (l:List Rat) (K:Nat) (e:Ending) (w':World):Prop:=∃A n c L,e=.returned (.slice A n c)∧Sl Fr.cs 4 w' A n c L∧AllRn w' K L∧L.map (fun x=>x.q)=l∧Below w.heap.size w w'
def TellsFsO (w:World) (m:Nat) (l:List Rat) (K:Nat) (e:Ending) (w':World):Prop:=∃g L,e=.returned (.slice (some ⟨g,0,none⟩) m m)∧OwnR w' w.heap.size 47 4 (.slice (some ⟨g,0,none⟩) m m) m (flat Fr.cs L)∧AllRn w' K L∧L.map (fun x=>x.q)=l∧Below w.heap.size w w'
theorem TellsFsO.s {w w':World} {m K:Nat} {l:List Rat} {e:Ending} (h:TellsFsO w m l K e w'):TellsFs w l K e w':=by
 obtain⟨g,L,h1,h2,h3⟩:=h;exact⟨_,_,_,L,h1,h2.sl' elt_frs (h2.eltn elt_frs zo),h3⟩
theorem elt_vcl:Elt Vc.cs 1 52 57:=Elt.of (.slice none 0 0) 24 Tryz.underlying52 (by kernel_rfl) zo (by kernel_rfl) (nou_list (by kernel_rfl)) Vc.cs_len
 (fun x u hu=>by simp[Vc.cs] at hu;subst hu;rfl) (fun x u hu n=>by simp[Vc.cs] at hu;subst hu;simp)
theorem elt_gpl:Elt Gp.cs 1 53 27:=Elt.of (.slice none 0 0) 24 Tryz.underlying53 (by kernel_rfl) zo (by kernel_rfl) (nou_list (by kernel_rfl)) Gp.cs_len
 (fun x u hu=>by simp[Gp.cs] at hu;subst hu;rfl) (fun x u hu n=>by simp[Gp.cs] at hu;subst hu;simp)
theorem elt_lyl:Elt Ly.cs 13 22 55:=Elt.of (.agg #[.int .u8 0,.slice none 0 0,.slice none 0 0,.int .i64 0,.int .i64 0,.int .i64 0,.int .i64 0,.int .i64 0,.int .i64 0,.int .i64 0,.int .i64 0,.slice none 0 0,.slice none 0 0]) 168 Tryz.underlying22 (by kernel_rfl) zo (by kernel_rfl) (nou_list (by kernel_rfl)) Ly.cs_len
 (fun x u hu=>sB.1 (show(Ly.cs x).all (fun u=>u.oneCell')=true from rfl) u hu)
 (fun x u hu n e=>by have h:=sB.1 (show(Ly.cs x).all (fun u=>match u with | .int .u64 _=>false | _=>true)=true from rfl) u hu;rw[e] at h;cases h)
def FsN (u:World) (A:Option Addr) (n c:Nat) (K:Nat) (Q:List Rat):Prop:=∃L:List Fr,Sl Fr.cs 4 u A n c L∧AllRn u K L∧(L.map fun x=>x.q)=Q
theorem FsN.below {w w':World} {A:Option Addr} {n c K:Nat} {Q:List Rat} (h:FsN w A n c K Q) (hb:Below w.heap.size w w':=by go_grown):FsN w' A n c K Q:=by
 obtain⟨L,h1,h2,h3⟩:=h;exact⟨L,h1.below hb,h2.below hb,h3⟩
def VnU (M:Nat) (u:World) (v:Vc) (P:List (Int×Rat)):Prop:=Sl Tm.cs 5 u v.A v.n v.c v.L∧OnT u v.L (fun _=>M)∧prs v.L=P∧(v.A=none→v.c=0)
theorem VnU.below {w w':World} {M:Nat} {v:Vc} {P:List (Int×Rat)} (h:VnU M w v P) (hb:Below w.heap.size w w':=by go_grown):VnU M w' v P:=⟨h.1.below hb,h.2.1.below hb,h.2.2⟩
theorem OwnR.vnu {w w':World} {H:Option Addr} {n c M:Nat} {L:List Tm} {P:List (Int×Rat)} (h1:OwnR w' w.heap.size 60 5 (.slice H n c) n (flat Tm.cs L)) (h2:OnT w' L (fun _=>M)) (h3:prs L=P) (_hz:w.heap.size≤w'.heap.size) :
  Rob w' w.heap.size w'.heap.size (fun u=>VnU M u ⟨H,n,c,L⟩ P):=by
 have h4:=h1.eltn elt_vec zo;have h5:=h1.rob elt_vec h4;have h6:H=none→c=0:=fun hn=>by
  obtain⟨_,_,e9,h9,_⟩:=h1.slice;cases e9;exact(h9 hn).2
 exact⟨aA _,fun v hk hc=>⟨h5.on v hk hc,h2.k hk,h3,h6⟩⟩
def GsU (u:World) (v:Gp) (D:List Int):Prop:=Sl ics 1 u v.A v.n v.c v.L∧v.L=D∧v.n≤v.c
structure LwU (u:World) (y' y:Ly):Prop where
 ok:LyOk u 160 y'
 low:LowOf y y'
 vec:∀v∈y'.rows,OnT u v.L (fun _=>161)∧(v.A=none→v.c=0)
 grp:∀v∈y'.groups,v.n≤v.c
theorem All2.map_eq {α β γ:Type} {f:α→γ} {g:β→γ} {L:List α} {D:List β} {R:α→β→Prop} (h:All2 R L D) (hi:∀x d,R x d→f x=g d):L.map f=D.map g:=by
 refine jF fun i=>?_;rw[mA,mA];rcases eB i L.length with hl | hl
 ·obtain⟨x,d,hx,hd,hr⟩:=h.has hl;rw[hx,hd,vE,vE,hi x d hr]
 ·rw[cB hl,cB (by rw[←h.1];exact hl)];rfl
theorem All2.mem {α β:Type} {L:List α} {D:List β} {R:α→β→Prop} (h:All2 R L D) {x:α} (hx:x∈L):∃d∈D,R x d:=by
 obtain⟨i,hi,rfl⟩:=List.getElem_of_mem hx;obtain⟨y,d,hy,hd,hr⟩:=h.has hi;rw[cA hi] at hy;cases hy;exact⟨d,eA hd,hr⟩
theorem AllRn.snoc1 {w:World} {K:Nat} {L:List Fr} (h:AllRn w K L) {x:Fr} (hx:RN w x.s x.A x.c x.l x.s' x.A' x.c' x.l' x.q∧x.ex=true∧sz x.q+1≤K):AllRn w K (L++[x]):=fun y hy=>by
 rcases uD.1 hy with h1 | h1
 ·exact h y h1
 ·obtain rfl:=uC.1 h1;exact hx
theorem AllRn.frok {w:World} {K m:Nat} {L:List Fr} (h:AllRn w K L) (hm:K≤m+1):∀x∈L,FrOk w m x:=fun x hx=>by
 have h1:=h x hx;have h2:=h1.1.fr (m:=m) zo;obtain⟨s,A,c,l,s',A',c',l',q,ex⟩:=x;obtain rfl:ex=true:=h1.2.1;exact h2
theorem OnT.frok {w:World} {K m:Nat} {L:List Tm} (h:OnT w L fun _=>K) (hm:K≤m+1):∀t∈L,FrOk w m t.x:=fun t ht=>by
 have h1:=h t ht;have h2:=h1.1.fr (m:=m) (by have h9:sz t.x.q+1≤K:=h1.2.2;omega);obtain⟨a,s,A,c,l,s',A',c',l',q,ex⟩:=t;obtain rfl:ex=true:=h1.2.1;exact h2
theorem LowsOf.of2:∀{L' L:List Ly} {u:World},All2 (LwU u) L' L→LowsOf L L'
 | [],[],_,_=>trivial
 | y' :: L',y :: L,u,h=>⟨(h.2 0 y' y rfl rfl).low,LowsOf.of2 (u:=u) ⟨Nat.succ.inj h.1,fun i x d hx hd=>h.2 (i+1) x d hx hd⟩⟩
 | [],_ :: _,_,h=>by cases h.1
 | _ :: _,[],_,h=>by cases h.1
def gatR_0 : Oper := { dst := some 7, op := Op.fieldAddr 60 (Operand.tmp 4) 1, type := 0, pos := "ranges.go:27", after := #[], guard := none }
def gatR_1 : Oper := { dst := some 8, op := Op.load 47 (Operand.tmp 7), type := 47, pos := "ranges.go:27", after := #[{ on := 0, ground := Ground.data }], guard := none }
def gatR_2 : Oper := { dst := some 9, op := Op.fieldAddr 42 (Operand.tmp 1) 0, type := 0, pos := "ranges.go:27", after := #[], guard := none }
def gatR_3 : Oper := { dst := some 10, op := Op.load 25 (Operand.tmp 9), type := 25, pos := "ranges.go:27", after := #[{ on := 2, ground := Ground.data }], guard := none }
def gatR_4 : Oper := { dst := some 11, op := Op.fieldAddr 60 (Operand.tmp 4) 0, type := 0, pos := "ranges.go:27", after := #[], guard := none }
def gatR_5 : Oper := { dst := some 12, op := Op.load 3 (Operand.tmp 11), type := 3, pos := "ranges.go:27", after := #[{ on := 4, ground := Ground.data }], guard := none }
def gatR_6 : Oper := { dst := some 13, op := Op.indexAddr 25 (Operand.tmp 10) (Operand.tmp 12), type := 0, pos := "ranges.go:27", after := #[{ on := 3, ground := Ground.data }, { on := 5, ground := Ground.data }], guard := none }
def gatR_7 : Oper := { dst := some 14, op := Op.load 47 (Operand.tmp 13), type := 47, pos := "ranges.go:27", after := #[{ on := 6, ground := Ground.data }], guard := none }
def gatR_8 : Oper := { dst := some 15, op := Op.call { callee := Callee.value (Operand.func 23), args := #[Operand.tmp 8, Operand.tmp 14], argTypes := #[47, 47] }, type := 47, pos := "ranges.go:27", after := #[{ on := 1, ground := Ground.data }, { on := 7, ground := Ground.data }], guard := none }
def gatR_9 : Oper := { dst := some 16, op := Op.fieldAddr 60 (Operand.tmp 4) 1, type := 0, pos := "ranges.go:27", after := #[], guard := none }
def gatR_10 : Oper := { dst := some 17, op := Op.load 47 (Operand.tmp 16), type := 47, pos := "ranges.go:27", after := #[{ on := 9, ground := Ground.data }], guard := none }
def gatR_11 : Oper := { dst := some 18, op := Op.fieldAddr 42 (Operand.tmp 1) 1, type := 0, pos := "ranges.go:27", after := #[], guard := none }
def gatR_12 : Oper := { dst := some 19, op := Op.load 25 (Operand.tmp 18), type := 25, pos := "ranges.go:27", after := #[{ on := 11, ground := Ground.data }], guard := none }
def gatR_13 : Oper := { dst := some 20, op := Op.fieldAddr 60 (Operand.tmp 4) 0, type := 0, pos := "ranges.go:27", after := #[], guard := none }
def gatR_14 : Oper := { dst := some 21, op := Op.load 3 (Operand.tmp 20), type := 3, pos := "ranges.go:27", after := #[{ on := 13, ground := Ground.data }], guard := none }
def gatR_15 : Oper := { dst := some 22, op := Op.indexAddr 25 (Operand.tmp 19) (Operand.tmp 21), type := 0, pos := "ranges.go:27", after := #[{ on := 12, ground := Ground.data }, { on := 14, ground := Ground.data }], guard := none }
def gatR_16 : Oper := { dst := some 23, op := Op.load 47 (Operand.tmp 22), type := 47, pos := "ranges.go:27", after := #[{ on := 15, ground := Ground.data }], guard := none }
def gatR_17 : Oper := { dst := some 24, op := Op.call { callee := Callee.value (Operand.func 23), args := #[Operand.tmp 17, Operand.tmp 23], argTypes := #[47, 47] }, type := 47, pos := "ranges.go:27", after := #[{ on := 10, ground := Ground.data }, { on := 16, ground := Ground.data }, { on := 8, ground := Ground.chain }], guard := none }
def gatR_18 : Oper := { dst := some 5, op := Op.alloc 47, type := 0, pos := "ranges.go:27", after := #[], guard := none }
def gatR_19 : Oper := { dst := some 6, op := Op.alloc 47, type := 0, pos := "ranges.go:27", after := #[], guard := none }
def gatR_20 : Oper := { dst := none, op := Op.store 47 (Operand.tmp 5) (Operand.tmp 15), type := 0, pos := "ranges.go:27", after := #[{ on := 18, ground := Ground.data }, { on := 8, ground := Ground.data }, { on := 17, ground := Ground.chain }, { on := 0, ground := Ground.phase }, { on := 1, ground := Ground.phase }, { on := 2, ground := Ground.phase }, { on := 3, ground := Ground.phase }, { on := 4, ground := Ground.phase }, { on := 5, ground := Ground.phase }, { on := 6, ground := Ground.phase }, { on := 7, ground := Ground.phase }, { on := 8, ground := Ground.phase }, { on := 9, ground := Ground.textOnly Departure.lateStores }, { on := 10, ground := Ground.textOnly Departure.lateStores }, { on := 11, ground := Ground.textOnly Departure.lateStores }, { on := 12, ground := Ground.textOnly Departure.lateStores }, { on := 13, ground := Ground.textOnly Departure.lateStores }, { on := 14, ground := Ground.textOnly Departure.lateStores }, { on := 15, ground := Ground.textOnly Departure.lateStores }, { on := 16, ground := Ground.textOnly Departure.lateStores }, { on := 17, ground := Ground.textOnly Departure.lateStoresUnsure }, { on := 18, ground := Ground.phase }, { on := 19, ground := Ground.phase }], guard := none }
def gatR_21 : Oper := { dst := none, op := Op.store 47 (Operand.tmp 6) (Operand.tmp 24), type := 0, pos := "ranges.go:27", after := #[{ on := 19, ground := Ground.data }, { on := 17, ground := Ground.data }, { on := 20, ground := Ground.chain }, { on := 0, ground := Ground.phase }, { on := 1, ground := Ground.phase }, { on := 2, ground := Ground.phase }, { on := 3, ground := Ground.phase }, { on := 4, ground := Ground.phase }, { on := 5, ground := Ground.phase }, { on := 6, ground := Ground.phase }, { on := 7, ground := Ground.phase }, { on := 8, ground := Ground.phase }, { on := 9, ground := Ground.phase }, { on := 10, ground := Ground.phase }, { on := 11, ground := Ground.phase }, { on := 12, ground := Ground.phase }, { on := 13, ground := Ground.phase }, { on := 14, ground := Ground.phase }, { on := 15, ground := Ground.phase }, { on := 16, ground := Ground.phase }, { on := 17, ground := Ground.phase }, { on := 18, ground := Ground.phase }, { on := 19, ground := Ground.phase }, { on := 20, ground := Ground.phase }], guard := none }
def gatR:List Oper:=[gatR_0,gatR_1,gatR_2,gatR_3,gatR_4,gatR_5,gatR_6,gatR_7,gatR_8,gatR_9,gatR_10,gatR_11,gatR_12,gatR_13,gatR_14,gatR_15,gatR_16,gatR_17,gatR_18,gatR_19,gatR_20,gatR_21]
def gatX (b1 b4 lb lo lc ub uo uc n:Nat) (x:Tm) (y z:Fr):Nat→Value→World→Prop
 | 0,v,_=>v=.pointer (some ⟨b4,1,none⟩)
 | 1,v,_=>v=.agg #[.bool x.x.s,.slice x.x.A x.x.l x.x.c,.bool x.x.s',.slice x.x.A' x.x.l' x.x.c']
 | 2,v,_=>v=.pointer (some ⟨b1,0,none⟩)
 | 3,v,_=>v=.slice (some ⟨lb,lo,none⟩) n lc
 | 4,v,_=>v=.pointer (some ⟨b4,0,none⟩)
 | 5,v,_=>v=.int .i64 x.at_
 | 6,v,_=>v=.pointer (some ⟨lb,lo+x.at_.toNat*4,none⟩)
 | 7,v,_=>v=.agg #[.bool y.s,.slice y.A y.l y.c,.bool y.s',.slice y.A' y.l' y.c']
 | 8,v,w=>∃s A c l s' A' c' l',v=.agg #[.bool s,.slice A l c,.bool s',.slice A' l' c']∧RN w s A c l s' A' c' l' (x.x.q*y.q)
 | 9,v,_=>v=.pointer (some ⟨b4,1,none⟩)
 | 10,v,_=>v=.agg #[.bool x.x.s,.slice x.x.A x.x.l x.x.c,.bool x.x.s',.slice x.x.A' x.x.l' x.x.c']
 | 11,v,_=>v=.pointer (some ⟨b1,1,none⟩)
 | 12,v,_=>v=.slice (some ⟨ub,uo,none⟩) n uc
 | 13,v,_=>v=.pointer (some ⟨b4,0,none⟩)
 | 14,v,_=>v=.int .i64 x.at_
 | 15,v,_=>v=.pointer (some ⟨ub,uo+x.at_.toNat*4,none⟩)
 | 16,v,_=>v=.agg #[.bool z.s,.slice z.A z.l z.c,.bool z.s',.slice z.A' z.l' z.c']
 | 17,v,w=>∃s A c l s' A' c' l',v=.agg #[.bool s,.slice A l c,.bool s',.slice A' l' c']∧RN w s A c l s' A' c' l' (x.x.q*z.q)
 | 18,v,w=>∃b,v=.pointer (some ⟨b,0,none⟩)∧Bx w b #[.bool false,.slice none 0 0,.bool false,.slice none 0 0] 47
 | 19,v,w=>∃b,v=.pointer (some ⟨b,0,none⟩)∧Bx w b #[.bool false,.slice none 0 0,.bool false,.slice none 0 0] 47
 | _,_,_=>True
theorem gatX_stays {b1 b4 lb lo lc ub uo uc n:Nat} {x:Tm} {y z:Fr}:∀i v w w',gatX b1 b4 lb lo lc ub uo uc n x y z i v w→Below w.heap.size w w'→gatX b1 b4 lb lo lc ub uo uc n x y z i v w'
 | 0,_,_,_,h,_=>h
 | 1,_,_,_,h,_=>h
 | 2,_,_,_,h,_=>h
 | 3,_,_,_,h,_=>h
 | 4,_,_,_,h,_=>h
 | 5,_,_,_,h,_=>h
 | 6,_,_,_,h,_=>h
 | 7,_,_,_,h,_=>h
 | 8,_,_,_,⟨s,A,c,l,s',A',c',l',h1,h2⟩,hb=>⟨s,A,c,l,s',A',c',l',h1,h2.below hb⟩
 | 9,_,_,_,h,_=>h
 | 10,_,_,_,h,_=>h
 | 11,_,_,_,h,_=>h
 | 12,_,_,_,h,_=>h
 | 13,_,_,_,h,_=>h
 | 14,_,_,_,h,_=>h
 | 15,_,_,_,h,_=>h
 | 16,_,_,_,h,_=>h
 | 17,_,_,_,⟨s,A,c,l,s',A',c',l',h1,h2⟩,hb=>⟨s,A,c,l,s',A',c',l',h1,h2.below hb⟩
 | 18,_,_,_,⟨b,h1,h2⟩,hb=>⟨b,h1,h2.below hb⟩
 | 19,_,_,_,⟨b,h1,h2⟩,hb=>⟨b,h1,h2.below hb⟩
 | _+20,_,_,_,_,_=>trivial
theorem gat1 {w:World} {a:Act} {Q:Exit→Act→World→Prop} {b1 b4 lb lo lc ub uo uc n m D:Nat} {x:Tm} {y z:Fr} (hs:25≤a.tmps.size) (h4:a.eval (.tmp 4)=.pointer (some ⟨b4,0,none⟩)) (h1:a.eval (.tmp 1)=.pointer (some ⟨b1,0,none⟩))
  (x4:Bx w b4 #[.int .i64 x.at_,.bool x.x.s,.slice x.x.A x.x.l x.x.c,.bool x.x.s',.slice x.x.A' x.x.l' x.x.c'] 60) (x1:Bx w b1 #[.slice (some ⟨lb,lo,none⟩) n lc,.slice (some ⟨ub,uo,none⟩) n uc] 42) (fx:R w x.x.s x.x.A x.x.c x.x.l x.x.s' x.x.A' x.x.c' x.x.l' x.x.q m) (ey:ElA w lb (lo+x.at_.toNat*4) (Fr.cs y)) (ez:ElA w ub (uo+x.at_.toNat*4) (Fr.cs z)) (fy:R w y.s y.A y.c y.l y.s' y.A' y.c' y.l' y.q D) (fz:R w z.s z.A z.c z.l z.s' z.A' z.c' z.l' z.q D) (i1:(0:Int)≤x.at_) (i2:x.at_<(n:Int)) (hm:m+D≤40000000000) (hT:Hid (Tab w))
  (hQ:∀(x7 x8 x9 x10 x11 x12 x13 x14 x15 x16 x17 x18 x19 x20 x21 x22 x23 x24:Value) (b5 b6:Nat) (W:World) s A c l s' A' c' l' t B k e t' B' k' e',w.heap.size≤b5→w.heap.size≤b6→b5≠b6→Bx W b5 #[.bool s,.slice A l c,.bool s',.slice A' l' c'] 47→RN W s A c l s' A' c' l' (x.x.q*y.q)→
   Bx W b6 #[.bool t,.slice B e k,.bool t',.slice B' e' k'] 47→RN W t B k e t' B' k' e' (x.x.q*z.q)→Below w.heap.size w W→Q .normal ((((((((((((((((((((a.put (some 7) x7).put (some 8) x8).put (some 9) x9).put (some 10) x10).put (some 11) x11).put (some 12) x12).put (some 13) x13).put (some 14) x14).put (some 15) x15).put (some 16) x16).put (some 17) x17).put (some 18) x18).put (some 19) x19).put (some 20) x20).put (some 21) x21).put (some 22) x22).put (some 23) x23).put (some 24) x24).put (some 5) (.pointer (some ⟨b5,0,none⟩))).put (some 6) (.pointer (some ⟨b6,0,none⟩))) W) :
  (Code.region 1 gatR.toArray true).wp Tryz.prog Q a w:=by
 have z0:Below w.heap.size w w.drew:=by go_grown
 have H4:=x4.below z0;have H1:=x1.below z0;replace ey:=ey.below z0;replace ez:=ez.below z0;have hx:=fx.below z0;have hy:=fy.below z0;have hz:=fz.below z0;refine Reg.wp_region_inv 20 25 (gatX b1 b4 lb lo lc ub uo uc n x y z) [18,19] (.only 20 (.only 21 .done)) [20,21] (fun _=>True) rfl (by decide +kernel) hs gatX_stays ?_ ?_
 ·intro i o a' w' hi ho hI;match i,hi,ho with
  | 0,_,ho =>
   obtain rfl:gatR_0=o:=Option.some.inj ho;have e:=(hI.at 4 (by decide +kernel)).trans h4;refine Reg.op_val (v:=.pointer (some ⟨b4,1,none⟩)) (W:=w') ?_ ⟨_,rfl,rfl,Below.refl _ _,fun h=>absurd h zd⟩;simp only[gatR_0,execOp,e]
   go_simp<;>with_reducible rfl
  | 1,_,ho =>
   obtain rfl:gatR_1=o:=Option.some.inj ho;have d0:=hI.done 0 gatR_0 7 zo rfl rfl (Reg.dep (by decide +kernel));change Act.eval a' (.tmp 7)=_ at d0
   have p0:=(H4.below hI.below).cell 1 (.bool x.x.s) rfl;have p1:=(H4.below hI.below).cell 2 (.slice x.x.A x.x.l x.x.c) rfl;have p2:=(H4.below hI.below).cell 3 (.bool x.x.s') rfl;have p3:=(H4.below hI.below).cell 4 (.slice x.x.A' x.x.l' x.x.c') rfl;refine Reg.op_val (v:=.agg #[.bool x.x.s,.slice x.x.A x.x.l x.x.c,.bool x.x.s',.slice x.x.A' x.x.l' x.x.c']) (W:=w') ?_ ⟨_,rfl,rfl,Below.refl _ _,fun h=>absurd h zd⟩;simp only[gatR_1,execOp,d0]
   go_simp<;>with_reducible rfl
  | 2,_,ho =>
   obtain rfl:gatR_2=o:=Option.some.inj ho;have e:=(hI.at 1 (by decide +kernel)).trans h1;refine Reg.op_val (v:=.pointer (some ⟨b1,0,none⟩)) (W:=w') ?_ ⟨_,rfl,rfl,Below.refl _ _,fun h=>absurd h zd⟩;simp only[gatR_2,execOp,e]
   go_simp<;>with_reducible rfl
  | 3,_,ho =>
   obtain rfl:gatR_3=o:=Option.some.inj ho;have d2:=hI.done 2 gatR_2 9 zo rfl rfl (Reg.dep (by decide +kernel));change Act.eval a' (.tmp 9)=_ at d2
   have p0:=(H1.below hI.below).cell 0 (.slice (some ⟨lb,lo,none⟩) n lc) rfl;refine Reg.op_val (v:=.slice (some ⟨lb,lo,none⟩) n lc) (W:=w') ?_ ⟨_,rfl,rfl,Below.refl _ _,fun h=>absurd h zd⟩;simp only[gatR_3,execOp,d2]
   go_simp<;>with_reducible rfl
  | 4,_,ho =>
   obtain rfl:gatR_4=o:=Option.some.inj ho;have e:=(hI.at 4 (by decide +kernel)).trans h4;refine Reg.op_val (v:=.pointer (some ⟨b4,0,none⟩)) (W:=w') ?_ ⟨_,rfl,rfl,Below.refl _ _,fun h=>absurd h zd⟩;simp only[gatR_4,execOp,e]
   go_simp<;>with_reducible rfl
  | 5,_,ho =>
   obtain rfl:gatR_5=o:=Option.some.inj ho;have d4:=hI.done 4 gatR_4 11 zo rfl rfl (Reg.dep (by decide +kernel));change Act.eval a' (.tmp 11)=_ at d4
   have p0:=(H4.below hI.below).cell 0 (.int .i64 x.at_) rfl;refine Reg.op_val (v:=.int .i64 x.at_) (W:=w') ?_ ⟨_,rfl,rfl,Below.refl _ _,fun h=>absurd h zd⟩;simp only[gatR_5,execOp,d4]
   go_simp<;>with_reducible rfl
  | 6,_,ho =>
   obtain rfl:gatR_6=o:=Option.some.inj ho;have d3:=hI.done 3 gatR_3 10 zo rfl rfl (Reg.dep (by decide +kernel));change Act.eval a' (.tmp 10)=_ at d3
   have d5:=hI.done 5 gatR_5 12 zo rfl rfl (Reg.dep (by decide +kernel));change Act.eval a' (.tmp 12)=_ at d5
   refine Reg.op_val (v:=.pointer (some ⟨lb,lo+x.at_.toNat*4,none⟩)) (W:=w') ?_ ⟨_,rfl,rfl,Below.refl _ _,fun h=>absurd h zd⟩;simp only[gatR_6,execOp,d3,d5]
   go_simp<;>with_reducible rfl
  | 7,_,ho =>
   obtain rfl:gatR_7=o:=Option.some.inj ho;have d6:=hI.done 6 gatR_6 13 zo rfl rfl (Reg.dep (by decide +kernel));change Act.eval a' (.tmp 13)=_ at d6
   have p0:=(ey.below hI.below).c0 (u:=.bool y.s) rfl;have p1:=(ey.below hI.below).at 1 (.slice y.A y.l y.c) rfl;have p2:=(ey.below hI.below).at 2 (.bool y.s') rfl;have p3:=(ey.below hI.below).at 3 (.slice y.A' y.l' y.c') rfl;refine Reg.op_val (v:=.agg #[.bool y.s,.slice y.A y.l y.c,.bool y.s',.slice y.A' y.l' y.c']) (W:=w') ?_ ⟨_,rfl,rfl,Below.refl _ _,fun h=>absurd h zd⟩;simp only[gatR_7,execOp,d6]
   go_simp<;>with_reducible rfl
  | 8,_,ho =>
   obtain rfl:gatR_8=o:=Option.some.inj ho;have d1:=hI.done 1 gatR_1 8 zo rfl rfl (Reg.dep (by decide +kernel));change Act.eval a' (.tmp 8)=_ at d1
   have d7:=hI.done 7 gatR_7 14 zo rfl rfl (Reg.dep (by decide +kernel));change Act.eval a' (.tmp 14)=_ at d7
   refine Reg.op_call (f:=23) (args:=#[a'.eval (.tmp 8),a'.eval (.tmp 14)]) ?_ (by rw[d1,d7];exact mul_q (hx.below hI.below) (hy.below hI.below) zo (zh (hT.out.below (bT z0 hI.below)))) ?_
   ·simp only[gatR_8,execOp]
    go_simp<;>with_reducible rfl
   ·intro e w2 h;obtain⟨s,A,c,l,s',A',c',l',rfl,hr,hb⟩:=h;exact⟨_,rfl,_,rfl,⟨s,A,c,l,s',A',c',l',rfl,hr⟩,hb,fun h=>absurd h zd⟩
  | 9,_,ho =>
   obtain rfl:gatR_9=o:=Option.some.inj ho;have e:=(hI.at 4 (by decide +kernel)).trans h4;refine Reg.op_val (v:=.pointer (some ⟨b4,1,none⟩)) (W:=w') ?_ ⟨_,rfl,rfl,Below.refl _ _,fun h=>absurd h zd⟩;simp only[gatR_9,execOp,e]
   go_simp<;>with_reducible rfl
  | 10,_,ho =>
   obtain rfl:gatR_10=o:=Option.some.inj ho;have d9:=hI.done 9 gatR_9 16 zo rfl rfl (Reg.dep (by decide +kernel));change Act.eval a' (.tmp 16)=_ at d9
   have p0:=(H4.below hI.below).cell 1 (.bool x.x.s) rfl;have p1:=(H4.below hI.below).cell 2 (.slice x.x.A x.x.l x.x.c) rfl;have p2:=(H4.below hI.below).cell 3 (.bool x.x.s') rfl;have p3:=(H4.below hI.below).cell 4 (.slice x.x.A' x.x.l' x.x.c') rfl;refine Reg.op_val (v:=.agg #[.bool x.x.s,.slice x.x.A x.x.l x.x.c,.bool x.x.s',.slice x.x.A' x.x.l' x.x.c']) (W:=w') ?_ ⟨_,rfl,rfl,Below.refl _ _,fun h=>absurd h zd⟩;simp only[gatR_10,execOp,d9]
   go_simp<;>with_reducible rfl
  | 11,_,ho =>
   obtain rfl:gatR_11=o:=Option.some.inj ho;have e:=(hI.at 1 (by decide +kernel)).trans h1;refine Reg.op_val (v:=.pointer (some ⟨b1,1,none⟩)) (W:=w') ?_ ⟨_,rfl,rfl,Below.refl _ _,fun h=>absurd h zd⟩;simp only[gatR_11,execOp,e]
   go_simp<;>with_reducible rfl
  | 12,_,ho =>
   obtain rfl:gatR_12=o:=Option.some.inj ho;have d11:=hI.done 11 gatR_11 18 zo rfl rfl (Reg.dep (by decide +kernel));change Act.eval a' (.tmp 18)=_ at d11
   have p0:=(H1.below hI.below).cell 1 (.slice (some ⟨ub,uo,none⟩) n uc) rfl;refine Reg.op_val (v:=.slice (some ⟨ub,uo,none⟩) n uc) (W:=w') ?_ ⟨_,rfl,rfl,Below.refl _ _,fun h=>absurd h zd⟩;simp only[gatR_12,execOp,d11]
   go_simp<;>with_reducible rfl
  | 13,_,ho =>
   obtain rfl:gatR_13=o:=Option.some.inj ho;have e:=(hI.at 4 (by decide +kernel)).trans h4;refine Reg.op_val (v:=.pointer (some ⟨b4,0,none⟩)) (W:=w') ?_ ⟨_,rfl,rfl,Below.refl _ _,fun h=>absurd h zd⟩;simp only[gatR_13,execOp,e]
   go_simp<;>with_reducible rfl
  | 14,_,ho =>
   obtain rfl:gatR_14=o:=Option.some.inj ho;have d13:=hI.done 13 gatR_13 20 zo rfl rfl (Reg.dep (by decide +kernel));change Act.eval a' (.tmp 20)=_ at d13
   have p0:=(H4.below hI.below).cell 0 (.int .i64 x.at_) rfl;refine Reg.op_val (v:=.int .i64 x.at_) (W:=w') ?_ ⟨_,rfl,rfl,Below.refl _ _,fun h=>absurd h zd⟩;simp only[gatR_14,execOp,d13]
   go_simp<;>with_reducible rfl
  | 15,_,ho =>
   obtain rfl:gatR_15=o:=Option.some.inj ho;have d12:=hI.done 12 gatR_12 19 zo rfl rfl (Reg.dep (by decide +kernel));change Act.eval a' (.tmp 19)=_ at d12
   have d14:=hI.done 14 gatR_14 21 zo rfl rfl (Reg.dep (by decide +kernel));change Act.eval a' (.tmp 21)=_ at d14
   refine Reg.op_val (v:=.pointer (some ⟨ub,uo+x.at_.toNat*4,none⟩)) (W:=w') ?_ ⟨_,rfl,rfl,Below.refl _ _,fun h=>absurd h zd⟩;simp only[gatR_15,execOp,d12,d14]
   go_simp<;>with_reducible rfl
  | 16,_,ho =>
   obtain rfl:gatR_16=o:=Option.some.inj ho;have d15:=hI.done 15 gatR_15 22 zo rfl rfl (Reg.dep (by decide +kernel));change Act.eval a' (.tmp 22)=_ at d15
   have p0:=(ez.below hI.below).c0 (u:=.bool z.s) rfl;have p1:=(ez.below hI.below).at 1 (.slice z.A z.l z.c) rfl;have p2:=(ez.below hI.below).at 2 (.bool z.s') rfl;have p3:=(ez.below hI.below).at 3 (.slice z.A' z.l' z.c') rfl;refine Reg.op_val (v:=.agg #[.bool z.s,.slice z.A z.l z.c,.bool z.s',.slice z.A' z.l' z.c']) (W:=w') ?_ ⟨_,rfl,rfl,Below.refl _ _,fun h=>absurd h zd⟩;simp only[gatR_16,execOp,d15]
   go_simp<;>with_reducible rfl
  | 17,_,ho =>
   obtain rfl:gatR_17=o:=Option.some.inj ho;have d10:=hI.done 10 gatR_10 17 zo rfl rfl (Reg.dep (by decide +kernel));change Act.eval a' (.tmp 17)=_ at d10
   have d16:=hI.done 16 gatR_16 23 zo rfl rfl (Reg.dep (by decide +kernel));change Act.eval a' (.tmp 23)=_ at d16
   refine Reg.op_call (f:=23) (args:=#[a'.eval (.tmp 17),a'.eval (.tmp 23)]) ?_ (by rw[d10,d16];exact mul_q (hx.below hI.below) (hz.below hI.below) zo (zh (hT.out.below (bT z0 hI.below)))) ?_
   ·simp only[gatR_17,execOp]
    go_simp<;>with_reducible rfl
   ·intro e w2 h;obtain⟨s,A,c,l,s',A',c',l',rfl,hr,hb⟩:=h;exact⟨_,rfl,_,rfl,⟨s,A,c,l,s',A',c',l',rfl,hr⟩,hb,fun h=>absurd h zd⟩
  | 18,_,ho =>
   obtain rfl:gatR_18=o:=Option.some.inj ho;obtain⟨W,hW,x,hN⟩:=zAb w' #[.bool false,.slice none 0 0,.bool false,.slice none 0 0] 47;refine Reg.op_val (v:=.pointer (some ⟨w'.heap.size,0,none⟩)) (W:=W) ?_ ⟨_,rfl,⟨_,rfl,x⟩,hN,fun _=>⟨aA _,x.lt⟩⟩;rw[hW];simp only[gatR_18,execOp]
   go_simp<;>with_reducible rfl
  | 19,_,ho =>
   obtain rfl:gatR_19=o:=Option.some.inj ho;obtain⟨W,hW,x,hN⟩:=zAb w' #[.bool false,.slice none 0 0,.bool false,.slice none 0 0] 47;refine Reg.op_val (v:=.pointer (some ⟨w'.heap.size,0,none⟩)) (W:=W) ?_ ⟨_,rfl,⟨_,rfl,x⟩,hN,fun _=>⟨aA _,x.lt⟩⟩;rw[hW];simp only[gatR_19,execOp]
   go_simp<;>with_reducible rfl
  | k+20,hi,_=>exact absurd hi zo
 ·intro a' w' hI;refine⟨trivial,?_⟩;have d8:=hI.done 8 gatR_8 15 zo rfl rfl trivial;have d17:=hI.done 17 gatR_17 24 zo rfl rfl trivial;have d18:=hI.done 18 gatR_18 5 zo rfl rfl trivial;have d19:=hI.done 19 gatR_19 6 zo rfl rfl trivial;obtain⟨s,A,c,l,s',A',c',l',e8,r8⟩:=d8;obtain⟨t,B,k,e,t',B',k',e',e17,r17⟩:=d17;obtain⟨b5,e18,y5⟩:=d18;obtain⟨b6,e19,y6⟩:=d19;have l5:=hI.lt 18 gatR_18 5 zo rfl rfl trivial zd;have l6:=hI.lt 19 gatR_19 6 zo rfl rfl trivial zd;have ap:=hI.apart 18 19 gatR_18 gatR_19 5 6 zo zo rfl rfl rfl rfl trivial trivial zd zd zd;rw[e18] at l5;rw[e19] at l6;rw[e18,e19] at ap;change w.drew.heap.size≤b5∧b5<w'.heap.size at l5
  change w.drew.heap.size≤b6∧b6<w'.heap.size at l6
  change b5≠b6 at ap
  have zs:=z0.size;have hp:=hI.puts [7,8,9,10,11,12,13,14,15,16,17,18,19,20,21,22,23,24,5,6] (by decide +kernel);obtain⟨W1,hW1,x1,k1,f1,g1⟩:=store4 (.bool s) (.slice A l c) (.bool s') (.slice A' l' c') y5 nofun nofun nofun nofun;have y6':=f1 _ _ _ (fun e=>ap e.symm) y6;obtain⟨W2,hW2,x2,k2,f2,g2⟩:=store4 (.bool t) (.slice B e k) (.bool t') (.slice B' e' k') y6' nofun nofun nofun nofun;refine P3.wpPlan_late (o:=gatR_20) rfl rfl zd ?_;intro K hK;refine Reg.op_skip (W:=W1) ?_ (hK.out _ _ ?_)
  ·simp only[gatR_20,execOp,e18,e8]
   rw[hW1];have p0:=y5.cell 0 (.bool false) rfl;have p1:=y5.cell 1 (.slice none 0 0) rfl;have p2:=y5.cell 2 (.bool false) rfl;have p3:=y5.cell 3 (.slice none 0 0) rfl;have q0:=y5.frozen 0;have q1:=y5.frozen 1;have q2:=y5.frozen 2;have q3:=y5.frozen 3;have yl:=y5.lt;go_simp<;>with_reducible rfl
  clear hK K hW1;change P3.wpPlan _ _ _ _ _ _ a' W1
  refine P3.wpPlan_late (o:=gatR_21) rfl rfl zd ?_;intro K hK;refine Reg.op_skip (W:=W2) ?_ (hK.out _ _ ?_)
  ·simp only[gatR_21,execOp,e19,e17]
   rw[hW2];have p0:=y6'.cell 0 (.bool false) rfl;have p1:=y6'.cell 1 (.slice none 0 0) rfl;have p2:=y6'.cell 2 (.bool false) rfl;have p3:=y6'.cell 3 (.slice none 0 0) rfl;have q0:=y6'.frozen 0;have q1:=y6'.frozen 1;have q2:=y6'.frozen 2;have q3:=y6'.frozen 3;have yl:=y6'.lt;go_simp<;>with_reducible rfl
  clear hK K hW2;change P3.wpPlan _ _ _ _ _ _ a' W2
  refine P3.wpPlan_done ?_;rw[hp];simp only[List.foldl]
  rw[e18,e19];have hB:=bT z0 hI.below;exact hQ _ _ _ _ _ _ _ _ _ _ _ _ _ _ _ _ _ _ b5 b6 W2 _ _ _ _ _ _ _ _ _ _ _ _ _ _ _ _ zo zo ap (f2 _ _ _ ap x1) ((r8.k k1).k k2) x2 ((r17.k k1).k k2) (g2 _ _ zo (g1 _ _ zo hB))
def CpI (w:World) (L:List Int) (n gk:Nat) (s5 s10:Value) (wr:World):Prop :=
 ∃(i:Nat) (H:Option Addr) (hc:Nat),s5=.slice H i hc∧s10=.int .i64 (i:Int)∧i≤n∧n-i=gk∧OwnR wr w.heap.size 3 1 (.slice H i hc) i (flat ics (L.take i))∧Below w.heap.size w wr
def CpG (w:World) (E:List (List Int)) (n gk:Nat) (s5 s10:Value) (wr:World):Prop :=
 ∃(i:Nat) (H:Option Addr) (hc:Nat) (O:List Gp),s5=.slice H i hc∧s10=.int .i64 (i:Int)∧i≤n∧n-i=gk∧OwnR wr w.heap.size 27 1 (.slice H i hc) i (flat Gp.cs O)∧LR GsU wr (.slice H i hc) w.heap.size O (E.take i)∧Below w.heap.size w wr
def CpR (w:World) (K:Nat) (Q:List Rat) (n gk:Nat) (s5 s10:Value) (wr:World):Prop :=
 ∃(i:Nat) (H:Option Addr) (hc:Nat) (O:List Fr),s5=.slice H i hc∧s10=.int .i64 (i:Int)∧i≤n∧n-i=gk∧OwnR wr w.heap.size 47 4 (.slice H i hc) i (flat Fr.cs O)∧AllRn wr K O∧(O.map fun x=>x.q)=Q.take i∧Below w.heap.size w wr
def CpV (w:World) (M:Nat) (E:List (List (Int×Rat))) (n gk:Nat) (s5 s10:Value) (wr:World):Prop :=
 ∃(i:Nat) (H:Option Addr) (hc:Nat) (O:List Vc),s5=.slice H i hc∧s10=.int .i64 (i:Int)∧i≤n∧n-i=gk∧OwnR wr w.heap.size 57 1 (.slice H i hc) i (flat Vc.cs O)∧LR (VnU M) wr (.slice H i hc) w.heap.size O (E.take i)∧Below w.heap.size w wr
def OutG (w:World) (n:Nat) (E:List (List Int)) (e:Ending) (w':World):Prop:=∃H hc O,e=.returned (.slice H n hc)∧Rob w' w.heap.size w'.heap.size (fun u=>Sl Gp.cs 1 u H n hc O∧All2 (GsU u) O E)∧Below w.heap.size w w'
def OutR (w:World) (n K:Nat) (Q:List Rat) (e:Ending) (w':World):Prop:=∃H hc O,e=.returned (.slice H n hc)∧Rob w' w.heap.size w'.heap.size (fun u=>Sl Fr.cs 4 u H n hc O∧AllRn u K O)∧(O.map fun x=>x.q)=Q∧Below w.heap.size w w'
def OutV (w:World) (n M:Nat) (E:List (List (Int×Rat))) (e:Ending) (w':World):Prop:=∃H hc O,e=.returned (.slice H n hc)∧Rob w' w.heap.size w'.heap.size (fun u=>Sl Vc.cs 1 u H n hc O∧All2 (VnU M u) O E)∧Below w.heap.size w w'
theorem map_take_snoc {α:Type} {O:List Fr} {L:List α} {f:α→Rat} {Q:List Rat} {i:Nat} {x:α} {y:Fr} (h:(O.map fun x=>x.q)=Q.take i) (hQ:L.map f=Q) (hx:L[i]?=some x) (hy:y.q=f x):((O++[y]).map fun x=>x.q)=Q.take (i+1):=by
 have h1:Q[i]?=some (f x):=by rw[←hQ,mA,hx];rfl
 rw[cF,h,zAi h1,←hy];rfl
theorem same21_q {w:World} (z:Int):Calls Tryz.prog 57 #[.int .i64 z] w fun e w'=>e=.returned (.int .i64 z)∧Below w.heap.size w w':=by
 go_enter Tryz.func57,Tryz.ntmps57
 go_wp2_with fail
 go_ret
 exact⟨rfl,by go_grown⟩
theorem copiedI_q {w:World} {A:Option Addr} {n c:Nat} {L:List Int} (h:Sl ics 1 w A n c L) (hn:n≤1000000) :
  Calls Tryz.prog 56 #[.slice A n c,.func (.func 57) #[] #[]] w fun e w'=>∃H hc,e=.returned (.slice H n hc)∧Rob w' w.heap.size w'.heap.size (fun u=>Sl ics 1 u H n hc L)∧n≤hc∧Below w.heap.size w w':=by
 have HS:=zh h;have HLN:=zh h.1;clear h;go_enter Tryz.func56,Tryz.ntmps56
 go_wp2_with fail
 go_loopg [5,10] n (fun gk s5 s10 wr=>CpI w L n gk s5 s10 wr)
 case atStart=>exact⟨0,none,0,rfl,rfl,uA _,rfl,OwnR.nil _ _ _ _,Below.refl _ _⟩
 case round =>
  obtain⟨i,H,hc,rfl,rfl,hi,hgk,ho,hB⟩:=hrel;have HGK:=zh hgk;clear hgk;by_cases hlt:i<n
  ·obtain⟨b,off,rfl,hel⟩:=HS.out.at ics_len zo zo;obtain⟨x,hx⟩:∃x,L[i]?=some x:=⟨L[i]'(by rw[HLN.out];exact hlt),cA _⟩;have hnd:ElA w b (off+i) (ics x):=by have:=hel i x hx;rwa [kC] at this
   have HX:=zh hx;have i1:(i:Int)<(n:Int):=zo;have i2:(0:Int)≤(i:Int):=zo;clear hel hx;have Bz:=zr wr;have pA0:=(hnd.below (bT hB Bz)).c0 (u:=.int .i64 x) rfl;go_wp2_with fail
   with_reducible refine(same21_q x).mono ?_
   rintro e w11 ⟨rfl,q⟩;replace q:=zq (a:=wr) q;replace ho:=ho.below q;replace Bz:=bT Bz q;clear q;clear pA0;go_wp2_with (at_builtin;refine And.left (b:=True) ?_)
   refine⟨?_,trivial⟩;obtain⟨V11,hW,x0,hN⟩:=zAb w11 #[.int .i64 x] 3;rw[←hW];clear hW;obtain⟨v0,hb0⟩:=ze w11.heap.size;rw[←hb0] at x0 ⊢;have ow_0:w.heap.size≤v0:=zi (zw hB Bz);have nv0_own:=OwnR.off' (b:=v0) ho zo;replace ho:=ho.below hN;replace hB:=bT (bT hB Bz) hN;have HX0:=zh x0;clear x0 hN Bz hb0;have Bz:=zr V11;have hdr:V11.drew.heap.size=V11.heap.size:=rfl;have hdr2:V11.drew.drew.heap.size=V11.heap.size:=rfl;refine Elt.app elt_int rfl (.tmp 14) (.tmp 18) rfl (w.heap.size) (.slice H i hc) (i) ((L.take i)) rfl ho (.slice (some ⟨v0,0,none⟩) 1 1) (1) ([x]) rfl (From.one (HX0.out.below (bT Bz)) (x) rfl (elt_int.len _)) zo (zi (zw hB Bz)) ?_;intro H12 c12 w12 ho12 hg12;replace hB:=(bT (bT hB Bz)).trans (hg12.below (zi (zw hB Bz)) (fun g hg=>by have:=ho.base g hg;omega));clear HX0;clear hdr hdr2;clear hg12 Bz;have Bz:=zr w12;go_wp2_with fail
   go_roundg (n-(i+1))
   case measure=>have:=HGK.out;omega
   case rel=>exact⟨i+1,_,_,rfl,by go_num,zo,rfl,by rw[zAi HX.out];exact OwnR.below ho12,bT (bT hB Bz)⟩
  ·obtain rfl:i=n:=zo;have i1:¬(i:Int)<(i:Int):=zo;have HR:Hid (Rob wr w.heap.size wr.heap.size (fun u=>Sl ics 1 u H i hc L)):=zh (by
    rw[fA (by rw[HLN.out];exact aA _)] at ho;exact ho.rob elt_int HLN.out)
   have hcap:i≤hc:=by obtain⟨_,_,e9,_,_,h9,_⟩:=ho.slice;cases e9;exact h9
   clear ho;go_wp2_with fail
   go_ret
   exact⟨H,hc,rfl,HR.out,hcap,hB⟩
theorem same2_q {w:World} {A:Option Addr} {n c:Nat} {L:List Int} (h:Sl ics 1 w A n c L) (hn:n≤1000000) :
  Calls Tryz.prog 55 #[.slice A n c] w fun e w'=>∃H hc,e=.returned (.slice H n hc)∧Rob w' w.heap.size w'.heap.size (fun u=>Sl ics 1 u H n hc L)∧n≤hc∧Below w.heap.size w w':=by
 go_enter Tryz.func55,Tryz.ntmps55
 go_wp2_with fail
 with_reducible refine(copiedI_q h hn).mono ?_
 rintro e w1 ⟨H,hc,rfl,h1,h2,b1⟩;go_wp2_with fail
 go_ret
 exact⟨H,hc,rfl,h1,h2,b1⟩
theorem copiedG_q {w:World} {A:Option Addr} {n c:Nat} {G:List Gp} (h:Sl Gp.cs 1 w A n c G) (hg:Hid (∀v∈G,GpOk w v)) (hn:n≤1000000) :
  Calls Tryz.prog 54 #[.slice A n c,.func (.func 55) #[] #[]] w (OutG w n (G.map fun v=>v.L)):=by
 have HS:=zh h;have HLN:=zh h.1;obtain⟨E,hE⟩:∃E,E=G.map fun v=>v.L:=⟨_,rfl⟩;rw[←hE];have HE:=zh hE;clear h hE;go_enter Tryz.func54,Tryz.ntmps54
 go_wp2_with fail
 go_loopg [5,10] n (fun gk s5 s10 wr=>CpG w E n gk s5 s10 wr)
 case atStart=>exact⟨0,none,0,[],rfl,rfl,uA _,rfl,OwnR.nil _ _ _ _,LR.nil,Below.refl _ _⟩
 case round =>
  obtain⟨i,H,hc,O,rfl,rfl,hi,hgk,ho,hvs,hB⟩:=hrel;have HGK:=zh hgk;clear hgk;by_cases hlt:i<n
  ·obtain⟨b,off,rfl,hel⟩:=HS.out.at Gp.cs_len zo zo;obtain⟨x,hx⟩:∃x,G[i]?=some x:=⟨G[i]'(by rw[HLN.out];exact hlt),cA _⟩;have hnd:ElA w b (off+i) (Gp.cs x):=by have:=hel i x hx;rwa [kC] at this
   have hgx:=hg.out x (eA hx);have hxn:x.n≤1000000:=hgx.2;have hsl:Sl ics 1 wr x.A x.n x.c x.L:=hgx.1.below hB;have HD:Hid (E[i]?=some x.L):=zh (by rw[HE.out,mA,hx];rfl);have i1:(i:Int)<(n:Int):=zo;have i2:(0:Int)≤(i:Int):=zo;clear hel hx hgx;have Bz:=zr wr;have pA0:=(hnd.below (bT hB Bz)).c0 (u:=.slice x.A x.n x.c) rfl;go_wp2_with fail
   have hoff:=OwnR.lt ho;have hsz:w.heap.size≤wr.heap.size:=zi (zw hB Bz);with_reducible refine(same2_q (Sl.below hsl) hxn).mono ?_
   rintro e w11 ⟨A11,c11,rfl,h11,hcap11,q⟩;replace q:=zq (a:=wr) q;replace hvs:=hvs.below q;replace ho:=ho.below q;replace Bz:=bT Bz q;clear q;have hx11:LR1 GsU w11 (.slice H i hc) w.heap.size ⟨A11,x.n,c11,x.L⟩ x.L:=⟨_,_,hsz,fun g hg=>.inl (hoff g hg),h11.imp fun _ k=>⟨k,rfl,hcap11⟩⟩;clear hoff hsz h11 hcap11;clear pA0;go_wp2_with (at_builtin;refine And.left (b:=True) ?_)
   refine⟨?_,trivial⟩;obtain⟨V11,hW,x0,hN⟩:=zAb w11 #[.slice A11 x.n c11] 27;rw[←hW];clear hW;obtain⟨v0,hb0⟩:=ze w11.heap.size;rw[←hb0] at x0 ⊢;have ow_0:w.heap.size≤v0:=zi (zw hB Bz);have nv0_own:=OwnR.off' (b:=v0) ho zo;replace hvs:=hvs.below hN;replace hx11:=hx11.below hN;replace ho:=ho.below hN;replace hB:=bT (bT hB Bz) hN;have HX0:=zh x0;clear x0 hN Bz hb0;have Bz:=zr V11;have hdr:V11.drew.heap.size=V11.heap.size:=rfl;have hdr2:V11.drew.drew.heap.size=V11.heap.size:=rfl;refine Elt.app elt_gpl rfl (.tmp 14) (.tmp 18) rfl (w.heap.size) (.slice H i hc) (i) (O) rfl ho (.slice (some ⟨v0,0,none⟩) 1 1) (1) ([⟨A11,x.n,c11,x.L⟩]) rfl (From.one (HX0.out.below (bT Bz)) (⟨A11,x.n,c11,x.L⟩) rfl (elt_gpl.len _)) zo (zi (zw hB Bz)) ?_;intro H12 c12 w12 ho12 hg12;replace hB:=(bT (bT hB Bz)).trans (hg12.below (zi (zw hB Bz)) (fun g hg=>by have:=ho.base g hg;omega));clear HX0;clear hdr hdr2;replace hvs:=hvs.grow hg12;replace hx11:=hx11.grow hg12;clear hg12 Bz;have Bz:=zr w12;go_wp2_with fail
   go_roundg (n-(i+1))
   case measure=>have:=HGK.out;omega
   case rel=>exact⟨i+1,_,_,_,rfl,by go_num,zo,rfl,OwnR.below ho12,All2.take (LR.below hvs) HD.out (LR1.below hx11),bT (bT hB Bz)⟩
  ·obtain rfl:i=n:=zo;have i1:¬(i:Int)<(i:Int):=zo;have HR:Hid (Rob wr w.heap.size wr.heap.size (fun u=>Sl Gp.cs 1 u H i hc O∧All2 (GsU u) O E)):=zh (by
    have hel:E.length≤i:=by rw[HE.out,nA,HLN.out];exact aA _
    have h9:=hvs;rw[fA hel] at h9;exact((ho.rob elt_gpl (ho.eltn elt_gpl zo)).and h9.rob))
   clear ho hvs;go_wp2_with fail
   go_ret
   exact⟨H,hc,O,rfl,HR.out,hB⟩
theorem numbers1_q {w:World} {x:Fr} {m:Nat} (h:R w x.s x.A x.c x.l x.s' x.A' x.c' x.l' x.q m) (hm:m≤40000000000) (hT:Hid (Tab w)) :
  Calls Tryz.prog 88 #[.agg #[.bool x.s,.slice x.A x.l x.c,.bool x.s',.slice x.A' x.l' x.c']] w (TellsR w x.q):=by
 obtain⟨W,hW,x0,x1,hB⟩:=zAh w #[.bool x.s,.slice x.A x.l x.c,.bool x.s',.slice x.A' x.l' x.c'] 47 #[.bool false,.slice none 0 0,.bool false,.slice none 0 0] 47;replace h:=h.below hB;have HX0:=zh x0;have HX1:=zh x1;clear x0 x1;have Bz:=zr W;obtain⟨pa0,pa1,pa2,pa3,-⟩:=(zx HX0 Bz).cz;go_enter Tryz.func88,Tryz.ntmps88
 go_wp2_with fail
 rw[←hW];clear hW;go_wp2_with fail
 with_reducible refine(norm_q (R.below h) hm (zt hT hB Bz)).mono ?_
 rintro e w1 ⟨s1,A1,c1,l1,s1r,A1r,c1r,l1r,rfl,h1,b⟩;replace b:=zq (a:=W) b;replace Bz:=bT Bz b;clear b;clear pa0 pa1 pa2 pa3;obtain⟨pb0,pb1,pb2,pb3,-⟩:=(zx HX1 Bz).cz;obtain⟨y1,f1_0,fb1,fb2,fb3,-⟩:=(zx HX1 Bz).fz;go_wp2_with fail
 (try simp only[Exit.inBlock,Exit.then])
 refine bodyPost_ret (by simp[results,Tryz.results88,go_sem,pb0,pb1,pb2,pb3];try rfl) rfl ?_;obtain⟨V1,hW,x,kk,far,bel⟩:=store4 (.bool s1) (.slice A1 l1 c1) (.bool s1r) (.slice A1r l1r c1r) (zx HX1 Bz) nofun nofun nofun nofun;rw[←hW];clear hW;replace h1:=h1.k kk;replace hB:=bel w.heap.size w zo (bT hB Bz);replace HX0:=zf far HX0 Bz;replace HX1:=zh x;clear x kk far bel Bz;have Bz:=zr V1;have hF:=bT (c:=V1) hB Bz;exact⟨_,_,_,_,_,_,_,_,rfl,RN.below h1,bT hF⟩
theorem copiedR_q {w:World} {A:Option Addr} {n c m:Nat} {L:List Fr} (h:Sl Fr.cs 4 w A n c L) (hf:Hid (∀x∈L,FrOk w m x)) (hn:n≤1000000) (hm:m≤20000) (hT:Hid (Tab w)) :
  Calls Tryz.prog 87 #[.slice A n c,.func (.func 88) #[] #[]] w (OutR w n (m+2) (L.map fun x=>x.q)):=by
 have HS:=zh h;have HLN:=zh h.1;obtain⟨Q,hQ⟩:∃Q,Q=L.map fun x=>x.q:=⟨_,rfl⟩;rw[←hQ];have HQ:=zh hQ.symm;clear h hQ;go_enter Tryz.func87,Tryz.ntmps87
 go_wp2_with fail
 go_loopg [5,10] n (fun gk s5 s10 wr=>CpR w (m+2) Q n gk s5 s10 wr)
 case atStart=>exact⟨0,none,0,[],rfl,rfl,uA _,rfl,OwnR.nil _ _ _ _,(fun _ h=>by cases h),rfl,Below.refl _ _⟩
 case round =>
  obtain⟨i,H,hc,O,rfl,rfl,hi,hgk,ho,hrn,hqs,hB⟩:=hrel;have HGK:=zh hgk;have HQS:=zh hqs;clear hgk hqs;by_cases hlt:i<n
  ·obtain⟨b,off,rfl,hel⟩:=HS.out.at Fr.cs_len zo zo;obtain⟨x,hx⟩:∃x,L[i]?=some x:=⟨L[i]'(by rw[HLN.out];exact hlt),cA _⟩;have hnd:=hel i x hx;have hfx:=(hf.out x (eA hx));have hsq:sz x.q+1≤m+2:=zi hfx.1.sz;have hxr:=hfx.r.below hB;have HX:=zh hx;have i1:(i:Int)<(n:Int):=zo;have i2:(0:Int)≤(i:Int):=zo;clear hel hx hfx;have Bz:=zr wr;obtain⟨pA0,pA1,pA2,pA3,-⟩:=(hnd.below (bT hB Bz)).ez;go_upto_region 5 with(fail)
   obtain⟨V11,hW,x0,hN⟩:=zAb wr #[.bool x.s,.slice x.A x.l x.c,.bool x.s',.slice x.A' x.l' x.c'] 47;rw[←hW];clear hW;obtain⟨v0,hb0⟩:=ze wr.heap.size;rw[←hb0] at x0 ⊢;have ow_0:w.heap.size≤v0:=zi (zw hB Bz);have nv0_own:=OwnR.off' (b:=v0) ho zo;replace hxr:=hxr.below hN;replace ho:=ho.below hN;replace hrn:=hrn.below hN;replace hB:=bT (bT hB Bz) hN;have HX0:=zh x0;clear x0 hN Bz hb0;have Bz:=zr V11;clear pA0 pA1 pA2 pA3;obtain⟨pa0,pa1,pa2,pa3,-⟩:=(zx HX0 Bz).cz;go_wp2_with fail
   with_reducible refine(numbers1_q (R.below hxr) zo (zt hT hB Bz)).mono ?_
   rintro e w11 ⟨s11,A11,c11,l11,s11r,A11r,c11r,l11r,rfl,h11,z⟩;replace z:=zq (a:=V11) z;replace ho:=ho.below z;replace hrn:=hrn.below z;replace Bz:=bT Bz z;clear z;clear pa0 pa1 pa2 pa3;go_wp2_with (at_builtin;refine And.left (b:=True) ?_)
   refine⟨?_,trivial⟩;obtain⟨V12,hW,x1,hN⟩:=zAb w11 #[.bool s11,.slice A11 l11 c11,.bool s11r,.slice A11r l11r c11r] 47;rw[←hW];clear hW;obtain⟨v1,hb1⟩:=ze w11.heap.size;rw[←hb1] at x1 ⊢;have ow_1:w.heap.size≤v1:=zi (zw hB Bz);have nv1_own:=OwnR.off' (b:=v1) ho zo;replace h11:=h11.below hN;replace ho:=ho.below hN;replace hrn:=hrn.below hN;replace hB:=bT (bT hB Bz) hN;replace HX0:=zba HX0 Bz hN;have HX1:=zh x1;clear x1 hN Bz hb1;have Bz:=zr V12;have hdr:V12.drew.heap.size=V12.heap.size:=rfl;have hdr2:V12.drew.drew.heap.size=V12.heap.size:=rfl;refine Elt.app elt_rat rfl (.tmp 14) (.tmp 18) rfl (w.heap.size) (.slice H i hc) (i) (O) rfl ho (.slice (some ⟨v1,0,none⟩) 1 1) (1) ([⟨s11,A11,c11,l11,s11r,A11r,c11r,l11r,x.q,true⟩]) rfl (From.one (HX1.out.below (bT Bz)) (⟨s11,A11,c11,l11,s11r,A11r,c11r,l11r,x.q,true⟩) rfl (elt_rat.len _)) zo (zi (zw hB Bz)) ?_;intro H12 c12 w12 ho12 hg12;replace hB:=(bT (bT hB Bz)).trans (hg12.below (zi (zw hB Bz)) (fun g hg=>by have:=ho.base g hg;omega));clear HX0;clear HX1;clear hdr hdr2;replace h11:=h11.k hg12.k;replace hrn:=hrn.k hg12.k;clear hg12 Bz;have Bz:=zr w12;go_wp2_with fail
   go_roundg (n-(i+1))
   case measure=>have:=HGK.out;omega
   case rel=>exact⟨i+1,_,_,_,rfl,by go_num,zo,rfl,OwnR.below ho12,AllRn.snoc1 (AllRn.below hrn) (AllRn.put (RN.below h11) hsq),map_take_snoc HQS.out HQ.out HX.out rfl,bT (bT hB Bz)⟩
  ·obtain rfl:i=n:=zo;have i1:¬(i:Int)<(i:Int):=zo;have HR:Hid (Rob wr w.heap.size wr.heap.size (fun u=>Sl Fr.cs 4 u H i hc O∧AllRn u (m+2) O)∧(O.map fun x=>x.q)=Q):=zh (by
    have hel:Q.length≤i:=by rw[←HQ.out,nA,HLN.out];exact aA _
    have h9:=HQS.out;rw[fA hel] at h9;have h8:=ho.rob elt_rat (ho.eltn elt_rat zo);exact⟨⟨aA _,fun v hk hc=>⟨h8.on v hk hc,hrn.k hk⟩⟩,h9⟩)
   clear ho hrn;go_wp2_with fail
   go_ret
   exact⟨H,hc,O,rfl,HR.out.1,HR.out.2,hB⟩
theorem numbers_l {w:World} {A:Option Addr} {n c m:Nat} {L:List Fr} (h:Sl Fr.cs 4 w A n c L) (hf:Hid (∀x∈L,FrOk w m x)) (hn:n≤1000000) (hm:m≤20000) (hT:Hid (Tab w)) :
  Calls Tryz.prog 53 #[.slice A n c] w (OutR w n (m+2) (L.map fun x=>x.q)):=by
 go_enter Tryz.func53,Tryz.ntmps53
 go_wp2_with fail
 with_reducible refine(copiedR_q h hf hn hm hT).mono ?_
 rintro e w1 ⟨H,hc,O,rfl,h1,h2,b1⟩;go_wp2_with fail
 go_ret
 exact⟨H,hc,O,rfl,h1,h2,b1⟩
theorem lsame1_q {w:World} {A:Option Addr} {n c M:Nat} {P:List (Int×Rat)} (h:GV w A n c P M) (hM:M≤19000000000) (hn:n≤1000000) (hT:Hid (Tab w)) :
  Calls Tryz.prog 51 #[.slice A n c] w fun e w'=>∃H n' hc L,e=.returned (.slice H n' hc)∧Rob w' w.heap.size w'.heap.size (fun u=>VnU M u ⟨H,n',hc,L⟩ (nrm P))∧Below w.heap.size w w':=by
 go_enter Tryz.func51,Tryz.ntmps51
 go_wp2_with fail
 with_reducible refine(normO_q h hM hn hT).mono ?_
 rintro e w1 ⟨H,n',hc,L,rfl,h1,h2,h3,b1⟩;go_wp2_with fail
 go_ret
 exact⟨H,n',hc,L,rfl,h1.vnu h2 h3 b1.size,b1⟩
theorem copiedV_q {w:World} {A:Option Addr} {n c M:Nat} {R:List Vc} (h:Sl Vc.cs 1 w A n c R) (hv:Hid (∀v∈R,GV w v.A v.n v.c (prs v.L) M∧v.n≤1000000)) (hn:n≤1000000) (hM:M≤19000000000) (hT:Hid (Tab w)) :
  Calls Tryz.prog 50 #[.slice A n c,.func (.func 51) #[] #[]] w (OutV w n M (R.map fun v=>nrm (prs v.L))):=by
 have HS:=zh h;have HLN:=zh h.1;obtain⟨E,hE⟩:∃E,E=R.map fun v=>nrm (prs v.L):=⟨_,rfl⟩;rw[←hE];have HE:=zh hE;clear h hE;go_enter Tryz.func50,Tryz.ntmps50
 go_wp2_with fail
 go_loopg [5,10] n (fun gk s5 s10 wr=>CpV w M E n gk s5 s10 wr)
 case atStart=>exact⟨0,none,0,[],rfl,rfl,uA _,rfl,OwnR.nil _ _ _ _,LR.nil,Below.refl _ _⟩
 case round =>
  obtain⟨i,H,hc,O,rfl,rfl,hi,hgk,ho,hvs,hB⟩:=hrel;have HGK:=zh hgk;clear hgk;by_cases hlt:i<n
  ·obtain⟨b,off,rfl,hel⟩:=HS.out.at Vc.cs_len zo zo;obtain⟨x,hx⟩:∃x,R[i]?=some x:=⟨R[i]'(by rw[HLN.out];exact hlt),cA _⟩;have hnd:ElA w b (off+i) (Vc.cs x):=by have:=hel i x hx;rwa [kC] at this
   have hgx:=hv.out x (eA hx);have hxn:x.n≤1000000:=hgx.2;have hgv:=hgx.1.below hB;have HD:Hid (E[i]?=some (nrm (prs x.L))):=zh (by rw[HE.out,mA,hx];rfl);have i1:(i:Int)<(n:Int):=zo;have i2:(0:Int)≤(i:Int):=zo;clear hel hx hgx;have Bz:=zr wr;have pA0:=(hnd.below (bT hB Bz)).c0 (u:=.slice x.A x.n x.c) rfl;go_wp2_with fail
   have hoff:=OwnR.lt ho;have hsz:w.heap.size≤wr.heap.size:=zi (zw hB Bz);with_reducible refine(lsame1_q (GV.below hgv) hM hxn (zt hT hB Bz)).mono ?_
   rintro e w11 ⟨A11,n11,c11,L11,rfl,h11,q⟩;replace q:=zq (a:=wr) q;replace hvs:=hvs.below q;replace ho:=ho.below q;replace Bz:=bT Bz q;clear q;have hx11:LR1 (VnU M) w11 (.slice H i hc) w.heap.size ⟨A11,n11,c11,L11⟩ (nrm (prs x.L)):=⟨_,_,hsz,fun g hg=>.inl (hoff g hg),h11⟩;clear hoff hsz h11;clear pA0;go_wp2_with (at_builtin;refine And.left (b:=True) ?_)
   refine⟨?_,trivial⟩;obtain⟨V11,hW,x0,hN⟩:=zAb w11 #[.slice A11 n11 c11] 57;rw[←hW];clear hW;obtain⟨v0,hb0⟩:=ze w11.heap.size;rw[←hb0] at x0 ⊢;have ow_0:w.heap.size≤v0:=zi (zw hB Bz);have nv0_own:=OwnR.off' (b:=v0) ho zo;replace hvs:=hvs.below hN;replace hx11:=hx11.below hN;replace ho:=ho.below hN;replace hB:=bT (bT hB Bz) hN;have HX0:=zh x0;clear x0 hN Bz hb0;have Bz:=zr V11;have hdr:V11.drew.heap.size=V11.heap.size:=rfl;have hdr2:V11.drew.drew.heap.size=V11.heap.size:=rfl;refine Elt.app elt_vcl rfl (.tmp 14) (.tmp 18) rfl (w.heap.size) (.slice H i hc) (i) (O) rfl ho (.slice (some ⟨v0,0,none⟩) 1 1) (1) ([⟨A11,n11,c11,L11⟩]) rfl (From.one (HX0.out.below (bT Bz)) (⟨A11,n11,c11,L11⟩) rfl (elt_vcl.len _)) zo (zi (zw hB Bz)) ?_;intro H12 c12 w12 ho12 hg12;replace hB:=(bT (bT hB Bz)).trans (hg12.below (zi (zw hB Bz)) (fun g hg=>by have:=ho.base g hg;omega));clear HX0;clear hdr hdr2;replace hvs:=hvs.grow hg12;replace hx11:=hx11.grow hg12;clear hg12 Bz;have Bz:=zr w12;go_wp2_with fail
   go_roundg (n-(i+1))
   case measure=>have:=HGK.out;omega
   case rel=>exact⟨i+1,_,_,_,rfl,by go_num,zo,rfl,OwnR.below ho12,All2.take (LR.below hvs) HD.out (LR1.below hx11),bT (bT hB Bz)⟩
  ·obtain rfl:i=n:=zo;have i1:¬(i:Int)<(i:Int):=zo;have HR:Hid (Rob wr w.heap.size wr.heap.size (fun u=>Sl Vc.cs 1 u H i hc O∧All2 (VnU M u) O E)):=zh (by
    have hel:E.length≤i:=by rw[HE.out,nA,HLN.out];exact aA _
    have h9:=hvs;rw[fA hel] at h9;exact((ho.rob elt_vcl (ho.eltn elt_vcl zo)).and h9.rob))
   clear ho hvs;go_wp2_with fail
   go_ret
   exact⟨H,hc,O,rfl,HR.out,hB⟩
def FL8 (w W:World) (g n K:Nat) (Q:List Rat) (gk:Nat) (s:Value) (wr:World):Prop:=∃(i:Nat) (D:List Fr),i≤n∧n-i=gk∧s=.int .i64 (i:Int)∧OwnR wr W.heap.size 47 4 (.slice (some ⟨g,0,none⟩) n n) n (flat Fr.cs D)∧AllRn wr K D∧
 (D.take i).map (fun x=>x.q)=Q.take i∧Below w.heap.size w wr∧Below W.heap.size W wr
theorem fill_snoc {D:List Fr} {Q:List Rat} {i n:Nat} {q:Rat} (h:(D.take i).map (fun x=>x.q)=Q.take i) (hl:D.length=n) (hi:i<n) (hq:Q[i]?=some q) (r:Fr) (hr:r.q=q):((D.set i r).take (i+1)).map (fun x=>x.q)=Q.take (i+1):=by
 rw[zAi (x:=r) (by rw[qF zo]),bG (aA i),zAi hq,cF,h,←hr];rfl
theorem relu_q {w:World} {y:Ly} {xA:Option Addr} {n xc K:Nat} {L:List Fr} (h:Sl Fr.cs 4 w xA n xc L) (hf:Hid (AllRn w K L)) (hn:n≤1000) (hK:2≤K∧K≤10000000000) (hT:Hid (Tab w)) :
  Calls Tryz.prog 58 #[.agg #[.int .u8 y.kind,.slice y.rA y.rn y.rc,.slice y.bA y.bn y.bc,.int .i64 y.ch,.int .i64 y.high,.int .i64 y.wide,.int .i64 y.out,.int .i64 y.kh,.int .i64 y.kw,.int .i64 y.st,.int .i64 y.pad,.slice y.kA y.kn y.kc,.slice y.gA y.gn y.gc,.slice xA n xc]] w (OutR w n K (L.map fun x=>maxQ x.q 0)):=by
 have HS:=zh h;have HL:=zh h.1;obtain⟨Q,hQ⟩:∃Q,Q=L.map fun x=>maxQ x.q 0:=⟨_,rfl⟩;rw[←hQ];have HQ:=zh hQ;clear h hQ;obtain⟨W,hW,x0,hB⟩:=zAb w #[.int .u8 y.kind,.slice y.rA y.rn y.rc,.slice y.bA y.bn y.bc,.int .i64 y.ch,.int .i64 y.high,.int .i64 y.wide,.int .i64 y.out,.int .i64 y.kh,.int .i64 y.kw,.int .i64 y.st,.int .i64 y.pad,.slice y.kA y.kn y.kc,.slice y.gA y.gn y.gc,.slice xA n xc] 99;have HX0:=zh x0;clear x0;have Bz:=zr W;go_enter Tryz.func58,Tryz.ntmps58
 go_upto_region 1 with(fail)
 rw[←hW];clear hW;have p0_13:=(zx HX0 Bz).cell 13 (.slice xA n xc) rfl;go_wp2_with (at_make;refine And.left (b:=True) ?_)
 refine⟨?_,trivial⟩;refine Elt.makeN elt_frs zFr (fun i z h1 h2=>fr_zero h1 h2) rfl _ _ rfl .i64 .i64 n rfl rfl zo W.heap.size (aA _) ?_;intro g w2 ho2 b2;have HO2:=zh ho2;have HBW:=zh b2;have HB2:=zh (bT hB b2);have hWs:=hB.size;have qad:=((zx HX0 Bz).below b2).cell 13 (.slice xA n xc) rfl;clear p0_13 ho2 b2 HX0 hB Bz;go_wp2_with fail
 clear qad;go_loopg [13] n (fun gk s wr=>FL8 w W g n K Q gk s wr)
 case atStart=>exact⟨0,_,uA _,rfl,rfl,HO2.out.below (by go_grown),AllRn.zeros _ _ hK.1,rfl,bT HB2.out,bT HBW.out⟩
 case round =>
  clear HO2 HBW HB2;obtain⟨i,D,hi,hgk,rfl,ho,hrn,hdq,hB,hBW⟩:=hrel;have HGK:=zh hgk;have HDL:=zh (ho.eltn elt_frs zo);clear hgk;by_cases hlt:i<n
  ·obtain⟨b,off,rfl,hel⟩:=HS.out.at Fr.cs_len zo zo;obtain⟨x,hx⟩:∃x,L[i]?=some x:=⟨L[i]'(by rw[HL.out];exact hlt),cA _⟩;have hnd:=hel i x hx;have hfx:=hf.out x (eA hx);have hxr:R wr x.s x.A x.c x.l x.s' x.A' x.c' x.l' x.q K:=((hfx.1.r' (m:=K) (zi hfx.2.2)).below hB);have hz0:R wr false none 0 0 false none 0 0 0 1:=(zFr_ok wr (aA 1)).r;have hsq:sz (maxQ x.q 0)+1≤K:=by
    have h1:=hfx.2.2;have h2:=sz_zero;unfold maxQ
    split<;>omega
   obtain⟨z,hz⟩:∃z,D[i]?=some z:=⟨D[i]'(by rw[HDL.out];exact hlt),cA _⟩;have HZ:=zh hz;have HDQ:Hid (∀r:Fr,r.q=maxQ x.q 0→((D.set i r).take (i+1)).map (fun x=>x.q)=Q.take (i+1)):=zh (fill_snoc hdq HDL.out hlt (by rw[HQ.out,mA,hx];rfl));have i1:(i:Int)<(n:Int):=zo;have i2:(0:Int)≤(i:Int):=zo;clear hel hx hz hdq hfx;have Bz:=zr wr;obtain⟨pA0,pA1,pA2,pA3,-⟩:=(hnd.below (bT hB Bz)).ez;go_upto_region 5 with(fail)
   obtain⟨V11,hW,x0,hN⟩:=zAb wr #[.bool x.s,.slice x.A x.l x.c,.bool x.s',.slice x.A' x.l' x.c'] 47;rw[←hW];clear hW;obtain⟨v0,hb0⟩:=ze wr.heap.size;rw[←hb0] at x0 ⊢;have ow_0:w.heap.size≤v0:=zi (zw hB Bz);replace hxr:=hxr.below hN;replace ho:=ho.below hN;replace hrn:=hrn.below hN;replace hz0:=hz0.below hN;replace hB:=bT (bT hB Bz) hN;replace hBW:=bT (bT hBW Bz) hN;have HX0:=zh x0;clear x0 hN Bz hb0;have Bz:=zr V11;clear pA0 pA1 pA2 pA3;obtain⟨pa0,pa1,pa2,pa3,-⟩:=(zx HX0 Bz).cz;go_wp2_with fail
   with_reducible refine(max_q (R.below hxr) (R.below hz0) zo (zt hT hB Bz)).mono ?_
   rintro e w11 ⟨s11,A11,c11,l11,s11r,A11r,c11r,l11r,rfl,h11,J⟩;replace J:=zq (a:=V11) J;replace ho:=ho.below J;replace hrn:=hrn.below J;replace Bz:=bT Bz J;clear J;clear pa0 pa1 pa2 pa3;have pB0:=fr_0 ho HZ.out;have pB1:=elt_frs.cell ho HZ.out (j:=1) (u:=.slice z.A z.l z.c) zo rfl;have pB2:=elt_frs.cell ho HZ.out (j:=2) (u:=.bool z.s') zo rfl;have pB3:=elt_frs.cell ho HZ.out (j:=3) (u:=.slice z.A' z.l' z.c') zo rfl;have fB0:=ho.frozen (i*4);have fB1:=ho.frozen (i*4+1);have fB2:=ho.frozen (i*4+2);have fB3:=ho.frozen (i*4+3);have y51:=ho.blk.1;go_upto_region 6 with(fail)
   obtain⟨V12,hV,ho2,hg2⟩:=fr_store ho HZ.out ⟨s11,A11,c11,l11,s11r,A11r,c11r,l11r,maxQ x.q 0,true⟩;rw[←hV];clear hV;replace hB:=(bT hB Bz).trans (hg2.below (zi (zw hB Bz)) (fun g' hg'=>by have:=ho.base g' hg';omega));replace hBW:=(bT hBW Bz).trans (hg2.below (zj hBW.size Bz.size) (fun g' hg'=>ho.base g' hg'));replace h11:=h11.k hg2.k;replace hrn:=hrn.k hg2.k;clear ho;have ho:=ho2;clear ho2 hg2 Bz;have Bz:=zr V12;clear pB0 pB1 pB2 pB3 fB0 fB1 fB2 fB3 y51;go_wp2_with fail
   go_roundg (n-(i+1))
   case measure=>have:=HGK.out;omega
   case rel=>exact⟨i+1,_,zo,rfl,by go_num,OwnR.below ho,(AllRn.below hrn).set i (AllRn.put (RN.below h11) hsq),HDQ.out _ rfl,bT (bT hB Bz),bT (bT hBW Bz)⟩
  ·obtain rfl:i=n:=zo;have i1:¬(i:Int)<(i:Int):=zo;have HR:Hid (Rob wr w.heap.size wr.heap.size (fun u=>Sl Fr.cs 4 u (some ⟨g,0,none⟩) i i D∧AllRn u K D)∧(D.map fun x=>x.q)=Q):=zh (by
    have h8:=ho.rob elt_frs HDL.out;rw[fA (by rw[HDL.out];exact aA _),fA (by rw[HQ.out,nA,HL.out];exact aA _)] at hdq;have h9:=h8.wide (s':=w.heap.size) hWs (aA _) (aA _);exact⟨⟨aA _,fun v hk hc=>⟨h9.on v hk hc,hrn.k hk⟩⟩,hdq⟩)
   clear ho hrn hdq;go_wp2_with fail
   go_ret
   exact⟨_,_,D,rfl,HR.out.1,HR.out.2,hB⟩
theorem idxP_nth {X:List Rat} {a:Int} (h0:0≤a) (h1:a<(X.length:Int)):pget (idxP X) a=nth X a:=by
 rw[idxP_get,bB ⟨h0,h1⟩,qA];rfl
theorem affT_dot {X:List Rat}:∀{row:List (Int×Rat)} {b:Rat},(∀t∈row,0≤t.1∧t.1<(X.length:Int))→row.foldl (fun s t=>s+t.2*nth X t.1) b=pdot row (nrm (idxP X))+b
 | [],b,_=>by rw[pdot_nil,zF];rfl
 | t :: row,b,h=>by
  have h1:=h t (kB ..);rw[dF,affT_dot fun s hs=>h s (jB _ hs),pdot_cons,nrm_get,idxP_nth h1.1 h1.2];grind
theorem affineN_q {w:World} {y:Ly} {xA:Option Addr} {n xc u D:Nat} {t:Int} {L:List Fr} (hy:LyOk w 160 y) (hk:y.kind=1) (hb:Hid (zAg y (n:Int)=some ((u:Int),t))) (hv:Hid (∀v∈y.rows,OnT w v.L (fun _=>161)∧(v.A=none→v.c=0))) (h:Sl Fr.cs 4 w xA n xc L) (hf:Hid (AllRn w (D+1) L)) (hn:1≤n∧n≤60) (hD:20≤D∧dgs n D≤5000000000) (hT:Hid (Tab w)) :
  Calls Tryz.prog 59 #[.agg #[.int .u8 y.kind,.slice y.rA y.rn y.rc,.slice y.bA y.bn y.bc,.int .i64 y.ch,.int .i64 y.high,.int .i64 y.wide,.int .i64 y.out,.int .i64 y.kh,.int .i64 y.kw,.int .i64 y.st,.int .i64 y.pad,.slice y.kA y.kn y.kc,.slice y.gA y.gn y.gc,.slice xA n xc]] w (OutR w u (dgs n D+1) (layT (valL y) (L.map fun x=>x.q))):=by
 have HS:=zh h;have HL:=zh h.1;obtain⟨X,hX⟩:∃X,X=L.map fun x=>x.q:=⟨_,rfl⟩;rw[←hX];have HX:=zh hX;obtain⟨Q,hQ⟩:∃Q,Q=layT (valL y) X:=⟨_,rfl⟩;rw[←hQ];obtain⟨a1,a2,a3,a4,a5,a6,a7,a8⟩:=aff_some hb.out;obtain rfl:u=y.rn:=zo;have hXL:X.length=n:=by rw[hX,nA,HL.out]
 have HRW:=zh hy.rows;have HBI:=zh hy.bias;have HBK:=zh hy.bok;have HRO:=zh hy.rok;have HRR:=zh (sB.1 a5);have HQ:Hid (Q=(y.rows.zip y.bias).map fun p=>affT (prs p.1.L) p.2.q X):=zh (by
  have e:valL y=⟨y.kind,y.rows.map fun v=>prs v.L,y.bias.map fun x=>x.q,y.groups.map fun g=>g.L⟩:=by unfold valL;rw[dA zo]
  rw[hQ,e];unfold layT;rw[bB hk,List.zip_map,List.map_map];rfl)
 have hrn1:y.rn≤100000:=hy.lens.1;have hdd:n*(D+161)+162≤5000000000:=hD.2;have hDn:D+161≤n*(D+161):=Nat.le_mul_of_pos_left _ zo;have hds:dgs n D=n*(D+161)+162:=rfl;have HA4:=zh a4;have HDS:=zh hds;have HXL:=zh hXL;clear h hX hQ a1 a2 a3 a4 a5 a6 a7 a8 hy hb hk hds hXL;obtain⟨W,hW,x0,hB⟩:=zAb w #[.int .u8 y.kind,.slice y.rA y.rn y.rc,.slice y.bA y.bn y.bc,.int .i64 y.ch,.int .i64 y.high,.int .i64 y.wide,.int .i64 y.out,.int .i64 y.kh,.int .i64 y.kw,.int .i64 y.st,.int .i64 y.pad,.slice y.kA y.kn y.kc,.slice y.gA y.gn y.gc,.slice xA n xc] 99;have HX0:=zh x0;clear x0;have Bz:=zr W;go_enter Tryz.func59,Tryz.ntmps59
 go_upto_region 1 with(fail)
 rw[←hW];clear hW;have p0_13:=(zx HX0 Bz).cell 13 (.slice xA n xc) rfl;go_wp2_with fail
 with_reducible refine(ofV_q (m:=D) (HS.out.below (bT hB (bT Bz))) (zh fun x hx=>(hf.out.frok (aA _) x hx).below (bT hB (bT Bz))) zo zo (zh (hT.out.below (bT hB (bT Bz))))).mono ?_
 rintro e w1 ⟨xo,xm,xoc,rfl,h1,b1⟩;rw[←HX.out] at h1;have H1:=zh h1;have hxm:xm≤1000000:=by
  have h2:=h1.len;have h3:=nrm_len (idxP X);have h4:(idxP X).length=X.length:=by unfold idxP;simp
  have h5:=HXL.out;omega
 replace b1:=zq (a:=W) b1;have pa1:=((zx HX0 Bz).below b1).cell 1 (.slice y.rA y.rn y.rc) rfl;clear p0_13 h1;go_wp2_with (at_make;refine And.left (b:=True) ?_)
 refine⟨?_,trivial⟩;refine Elt.makeN elt_frs zFr (fun i z h1 h2=>fr_zero h1 h2) rfl _ _ rfl .i64 .i64 y.rn rfl rfl zo w1.heap.size (aA _) ?_;intro g w2 ho2 b2;have HO2:=zh ho2;have HBW:=zh b2;have HB2:=zh (bT (bT hB b1) b2);have hWs:=(bT hB b1).size;have XX0:=zh ((zx HX0 Bz).below b1);have qa1:=(XX0.out.below b2).cell 1 (.slice y.rA y.rn y.rc) rfl;clear pa1 ho2 b1 b2 HX0 hB Bz;go_wp2_with fail
 clear qa1;go_loopg [19] y.rn (fun gk s wr=>FL8 w w1 g y.rn (dgs n D+1) Q gk s wr)
 case atStart=>exact⟨0,_,uA _,rfl,rfl,HO2.out.below (by go_grown),AllRn.zeros _ _ (zi HDS.out),rfl,bT HB2.out,bT HBW.out⟩
 case round =>
  clear HO2 HBW HB2;obtain⟨i,E,hi,hgk,rfl,ho,hrn,hdq,hB,hBW⟩:=hrel;have HGK:=zh hgk;have HDL:=zh (ho.eltn elt_frs zo);clear hgk;by_cases hlt:i<y.rn
  ·obtain⟨b,off,he1,hel⟩:=HRW.out.at Vc.cs_len zo zo;have hab:=HA4.out;have hds:=HDS.out;have hXL:=HXL.out;obtain⟨bb,bo,he2,hel2⟩:=HBI.out.at Fr.cs_len zo zo;obtain⟨v,hvv⟩:∃v,y.rows[i]?=some v:=⟨y.rows[i]'(by rw[HRW.out.1];exact hlt),cA _⟩;obtain⟨x,hx⟩:∃x,y.bias[i]?=some x:=⟨y.bias[i]'(by rw[HBI.out.1];omega),cA _⟩;have hnd:ElA w b (off+i) v.cs:=by have:=hel i v hvv;rwa [kC] at this
   have hnx:=hel2 i x hx;have hvm:=eA hvv;have hright:=rightB_nrm (HRR.out v hvm);have hvs:=hv.out v hvm;have hlen:=hd_rise (a:=0) (n:=(n:Int)) hright.1.rise (fun t ht=>by obtain⟨s,hs,rfl⟩:=prs_mem ht;have:=hright.2 s hs;exact⟨this.1,this.2.1⟩) zo;have hvl:(prs v.L).length=v.n:=by rw[prs_len];exact(HRO.out v hvm).1.1
   have hvn0:v.n≤n:=zo;have hvn:v.n≤1000000:=zo;have hgv:GV w v.A v.n v.c (prs v.L) 163:=⟨v.L,(HRO.out v hvm).1,hvs.1.ok,rfl,wsum_rise hright.1.rise fun t ht=>by
    have h1:=hvs.1.dg t ht;have h2:sz t.x.q+1≤161:=(hvs.1 t ht).2.2;omega,hvs.2⟩
   have HV:=zh hgv;have hin:∀t∈prs v.L,0≤t.1∧t.1<(X.length:Int):=fun t ht=>by
    obtain⟨s,hs,rfl⟩:=prs_mem ht;have:=hright.2 s hs;rw[hXL];exact⟨this.1,this.2.1⟩
   have hXs:∀q∈X,sz q≤D:=fun q hq=>by
    rw[HX.out] at hq;obtain⟨x,hx,rfl⟩:=xC.1 hq;have:=(hf.out x hx).2.2;omega
   have hts:∀t∈prs v.L,sz t.2≤160:=fun t ht=>by
    obtain⟨s,hs,rfl⟩:=prs_mem ht;have h2:sz s.x.q+1≤161:=(hvs.1 s hs).2.2;show sz s.x.q≤160
    omega
   have hsum:=affT_dot (b:=0) hin;have hsz0:=affT_sz hXs zo (prs v.L) (b:=0) (B:=1) sz_zero hts;rw[hsum,sE,hvl] at hsz0;have hmul:v.n*(D+161)≤n*(D+161):=fB _ hvn0;have HKV:Hid (sz (pdot (prs v.L) (nrm (idxP X)))≤v.n*(D+161)+2):=zh zo;have hfx:=HBK.out x (eA hx);have hxr:=hfx.r;have hxz:=hfx.1.sz;have hsq:sz (pdot (prs v.L) (nrm (idxP X))+x.q)+1≤dgs n D+1:=by
    have h1:=sz_add hsz0 hxz;omega
   have hdm:v.n*(163+(D+2+1)+3)≤15000000000:=by
    have h1:v.n*(163+(D+2+1)+3)=v.n*(D+161)+v.n*8:=by rw[←zA];congr 1;omega
    omega
   obtain⟨z,hz⟩:∃z,E[i]?=some z:=⟨E[i]'(by rw[HDL.out];exact hlt),cA _⟩;have HZ:=zh hz;have HDQ:Hid (∀r:Fr,r.q=pdot (prs v.L) (nrm (idxP X))+x.q→((E.set i r).take (i+1)).map (fun x=>x.q)=Q.take (i+1)):=zh (fill_snoc hdq HDL.out hlt (by
    rw[HQ.out,mA,(wF (z:=(v,x))).2 ⟨hvv,hx⟩,vE];congr 1
    exact affT_dot hin))
   have i1:(i:Int)<(y.rn:Int):=zo;have i2:(0:Int)≤(i:Int):=zo;have i3:(i:Int)<(y.bn:Int):=zo;have HE1:=zh he1;have HX0:Hid (Bx wr w.heap.size #[.int .u8 y.kind,.slice y.rA y.rn y.rc,.slice (some ⟨bb,bo,none⟩) y.bn y.bc,.int .i64 y.ch,.int .i64 y.high,.int .i64 y.wide,.int .i64 y.out,.int .i64 y.kh,.int .i64 y.kw,.int .i64 y.st,.int .i64 y.pad,.slice y.kA y.kn y.kc,.slice y.gA y.gn y.gc,.slice xA n xc] 99):=zh (by rw[←he2];exact XX0.out.below hBW);clear hab hds hXL hel hel2 hvv hx hz hdq hfx he2 hright hvs hgv hin hXs hts hsum hlen hvm he1;rw[HE1.out];have Bz:=zr wr;have pa2:=(zx HX0 Bz).cell 2 (.slice (some ⟨bb,bo,none⟩) y.bn y.bc) rfl;have pA0:=(hnd.below (bT hB Bz)).c0 (u:=.slice v.A v.n v.c) rfl;have pC0:=(hnx.below (bT hB Bz)).c0 (u:=.bool x.s) rfl;have pC1:=(hnx.below (bT hB Bz)).at 1 (.slice x.A x.l x.c) rfl;have pC2:=(hnx.below (bT hB Bz)).at 2 (.bool x.s') rfl;have pC3:=(hnx.below (bT hB Bz)).at 3 (.slice x.A' x.l' x.c') rfl;have pB0:=fr_0 ho HZ.out;have pB1:=elt_frs.cell ho HZ.out (j:=1) (u:=.slice z.A z.l z.c) zo rfl;have pB2:=elt_frs.cell ho HZ.out (j:=2) (u:=.bool z.s') zo rfl;have pB3:=elt_frs.cell ho HZ.out (j:=3) (u:=.slice z.A' z.l' z.c') zo rfl;have fB0:=ho.frozen (i*4);have fB1:=ho.frozen (i*4+1);have fB2:=ho.frozen (i*4+2);have fB3:=ho.frozen (i*4+3);have y51:=ho.blk.1;go_wp2_with fail
   (try simp only[vAa,vBa,vC])
   refine zl (.pure 0 (.pure 1 (.pure 2 (.pure 3 (.pure 5 (.pure 6 (.take 7 (.pure 8 (.pure 9 (.take 10 (.only 4 (.only 11 (.pure 12 (.only 13 .done)))))))))))))) [13] (zsa pa2 (zsa pC0 (zsa pC1 (zsa pC2 (zIa pC3))))) ?_;iterate 10 ((first|refine zV ?_|refine zUa ?_);try simp only[uW,uX,uY,uZ])
   refine zC 28 rfl rfl (fun K hK=>?_);go_simp
   with_reducible refine(dotG (K:=v.n*(D+161)+2) (HV.out.below (bT hB (bT (b:=wr) Bz))) ((H1.out.below (bT hBW (bT (b:=wr) Bz))).gv (nrm_nrm _).rise) hdm zo zo hvn hxm HKV.out (zt hT hB Bz)).mono ?_
   rintro e w11 ⟨s11,A11,c11,l11,s11r,A11r,c11r,l11r,rfl,h11,z11,J⟩;replace J:=zq (a:=wr) J;replace ho:=ho.below J;replace hrn:=hrn.below J;replace Bz:=bT Bz J;clear J;clear pa2 pA0 pC0 pC1 pC2 pC3 pB0 pB1 pB2 pB3 fB0 fB1 fB2 fB3 y51;have pa2:=(zx HX0 Bz).cell 2 (.slice (some ⟨bb,bo,none⟩) y.bn y.bc) rfl;have pC0:=(hnx.below (bT hB Bz)).c0 (u:=.bool x.s) rfl;have pC1:=(hnx.below (bT hB Bz)).at 1 (.slice x.A x.l x.c) rfl;have pC2:=(hnx.below (bT hB Bz)).at 2 (.bool x.s') rfl;have pC3:=(hnx.below (bT hB Bz)).at 3 (.slice x.A' x.l' x.c') rfl;have pB0:=fr_0 ho HZ.out;have pB1:=elt_frs.cell ho HZ.out (j:=1) (u:=.slice z.A z.l z.c) zo rfl;have pB2:=elt_frs.cell ho HZ.out (j:=2) (u:=.bool z.s') zo rfl;have pB3:=elt_frs.cell ho HZ.out (j:=3) (u:=.slice z.A' z.l' z.c') zo rfl;have fB0:=ho.frozen (i*4);have fB1:=ho.frozen (i*4+1);have fB2:=ho.frozen (i*4+2);have fB3:=ho.frozen (i*4+3);have y51:=ho.blk.1;refine hK.out _ _ ⟨pa2,pC0,pC1,pC2,pC3⟩ (fun _=>?_);try simp only[uW,uX,uY,uZ]
   clear hK K;refine zC 35 rfl rfl (fun K hK=>?_);go_simp
   with_reducible refine(add_q (RN.r' (RN.below h11) z11) (hxr.below (bT hB (bT (b:=w11) Bz))) zo (zt hT hB Bz)).mono ?_
   rintro e w12 ⟨s12,A12,c12,l12,s12r,A12r,c12r,l12r,rfl,h12,J⟩;replace J:=zq (a:=w11) J;replace ho:=ho.below J;replace hrn:=hrn.below J;replace Bz:=bT Bz J;clear J;clear pa2 pC0 pC1 pC2 pC3 pB0 pB1 pB2 pB3 fB0 fB1 fB2 fB3 y51;have pa2:=(zx HX0 Bz).cell 2 (.slice (some ⟨bb,bo,none⟩) y.bn y.bc) rfl;have pC0:=(hnx.below (bT hB Bz)).c0 (u:=.bool x.s) rfl;have pC1:=(hnx.below (bT hB Bz)).at 1 (.slice x.A x.l x.c) rfl;have pC2:=(hnx.below (bT hB Bz)).at 2 (.bool x.s') rfl;have pC3:=(hnx.below (bT hB Bz)).at 3 (.slice x.A' x.l' x.c') rfl;have pB0:=fr_0 ho HZ.out;have pB1:=elt_frs.cell ho HZ.out (j:=1) (u:=.slice z.A z.l z.c) zo rfl;have pB2:=elt_frs.cell ho HZ.out (j:=2) (u:=.bool z.s') zo rfl;have pB3:=elt_frs.cell ho HZ.out (j:=3) (u:=.slice z.A' z.l' z.c') zo rfl;have fB0:=ho.frozen (i*4);have fB1:=ho.frozen (i*4+1);have fB2:=ho.frozen (i*4+2);have fB3:=ho.frozen (i*4+3);have y51:=ho.blk.1;refine hK.out _ _ ⟨pa2,pC0,pC1,pC2,pC3⟩ (fun _=>?_);try simp only[uW,uX,uY,uZ]
   clear hK K;refine zV ?_;try simp only[uW,uX,uY,uZ]
   refine wpPlan_late (o:=⟨none,_,_,_,_,_⟩) rfl rfl zd (fun K hK=>?_);go_simp
   refine hK.out _ _ ?_;try simp only[Act.put,uX,uY,uZ]
   clear hK K;obtain⟨V11,hV,ho2,hg2⟩:=fr_store ho HZ.out ⟨s12,A12,c12,l12,s12r,A12r,c12r,l12r,pdot (prs v.L) (nrm (idxP X))+x.q,true⟩;rw[←hV];clear hV;replace hB:=(bT hB Bz).trans (hg2.below (zi (zw hB Bz)) (fun g' hg'=>by have:=ho.base g' hg';omega));replace hBW:=(bT hBW Bz).trans (hg2.below (zj hBW.size Bz.size) (fun g' hg'=>ho.base g' hg'));replace h12:=h12.k hg2.k;replace hrn:=hrn.k hg2.k;clear ho;have ho:=ho2;clear ho2 hg2 Bz;have Bz:=zr V11;clear pa2 pC0 pC1 pC2 pC3 pB0 pB1 pB2 pB3 fB0 fB1 fB2 fB3 y51;refine wpPlan_done ?_;go_wp2_with fail
   rw[←HE1.out];go_roundg (y.rn-(i+1))
   case measure=>have:=HGK.out;omega
   case rel=>exact⟨i+1,_,zo,rfl,by go_num,OwnR.below ho,(AllRn.below hrn).set i (AllRn.put (RN.below h12) hsq),HDQ.out _ rfl,bT (bT hB Bz),bT (bT hBW Bz)⟩
  ·obtain rfl:i=y.rn:=zo;have i1:¬(y.rn:Int)<(y.rn:Int):=zo;have HR:Hid (Rob wr w.heap.size wr.heap.size (fun u=>Sl Fr.cs 4 u (some ⟨g,0,none⟩) y.rn y.rn E∧AllRn u (dgs n D+1) E)∧(E.map fun x=>x.q)=Q):=zh (by
    have h8:=ho.rob elt_frs HDL.out;rw[fA (by rw[HDL.out];exact aA _),fA (by rw[HQ.out,nA,List.length_zip,HRW.out.1];exact Nat.min_le_left _ _)] at hdq;have h9:=h8.wide (s':=w.heap.size) hWs (aA _) (aA _);exact⟨⟨aA _,fun v hk hc=>⟨h9.on v hk hc,hrn.k hk⟩⟩,hdq⟩)
   clear ho hrn hdq;go_wp2_with fail
   go_ret
   exact⟨_,_,E,rfl,HR.out.1,HR.out.2,hB⟩
theorem VnU.ok {u:World} {M:Nat} {v:Vc} {P:List (Int×Rat)} (h:VnU M u v P) (hM:M≤161) (hP:P.length≤1000000):VcOk u 160 v:=by
 refine⟨h.1,h.2.1.frok hM,?_⟩;have h1:=h.1.1;have h2:=congrArg List.length h.2.2.1;rw[prs_len] at h2;omega
theorem lw_same {w u:World} {m M:Nat} {y:Ly} {A1 A2 A3 A4:Option Addr} {c1 c2 c3 c4:Nat} {O1:List Vc} {O2 O3:List Fr} {O4:List Gp} (hy:LyOk w m y) (hm:m≤100) (hM:M≤161) (hk:y.kind≠2) {n0 u0 t0:Int} (h0:zAc y n0=some (u0,t0))
  (r1:Sl Vc.cs 1 u A1 y.rn c1 O1) (a1:All2 (VnU M u) O1 (y.rows.map fun v=>nrm (prs v.L))) (r2:Sl Fr.cs 4 u A2 y.bn c2 O2) (a2:AllRn u (m+2) O2) (q2:(O2.map fun x=>x.q)=y.bias.map fun x=>x.q)
  (r3:Sl Fr.cs 4 u A3 y.kn c3 O3) (a3:AllRn u (m+2) O3) (r4:Sl Gp.cs 1 u A4 y.gn c4 O4) (a4:All2 (GsU u) O4 (y.groups.map fun v=>v.L)) :
  LwU u ⟨y.kind,A1,y.rn,c1,O1,A2,y.bn,c2,O2,y.ch,y.high,y.wide,y.out,y.kh,y.kw,y.st,y.pad,A3,y.kn,c3,O3,A4,y.gn,c4,O4⟩ y:=by
 have hv:∀v∈O1,∃P,P.length≤1000000∧VnU M u v P:=fun v hv=>by
  obtain⟨P,hP,h1⟩:=a1.mem hv;obtain⟨x,hx,rfl⟩:=xC.1 hP;refine⟨_,?_,h1⟩;have h2:=nrm_len (prs x.L);have h3:=(hy.rok x hx).2.2;have h4:=(hy.rok x hx).1.1;rw[prs_len] at h2;omega
 have hg:∀v∈O4,GpOk u v:=fun v hv=>by
  obtain⟨D,hD,h1⟩:=a4.mem hv;obtain⟨x,hx,rfl⟩:=xC.1 hD;refine⟨h1.1,?_⟩;have h2:=h1.1.1;have h3:=(hy.gok x hx).2;have h4:=(hy.gok x hx).1.1;have h5:=congrArg List.length h1.2.1;omega
 have hok:LyOk u 160 ⟨y.kind,A1,y.rn,c1,O1,A2,y.bn,c2,O2,y.ch,y.high,y.wide,y.out,y.kh,y.kw,y.st,y.pad,A3,y.kn,c3,O3,A4,y.gn,c4,O4⟩ :=
  ⟨r1,fun v h=>by obtain⟨P,h1,h2⟩:=hv v h;exact h2.ok hM h1,r2,a2.frok zo,r3,a3.frok zo,r4,hg,hy.lens⟩
 have hs:SameOf y ⟨y.kind,A1,y.rn,c1,O1,A2,y.bn,c2,O2,y.ch,y.high,y.wide,y.out,y.kh,y.kw,y.st,y.pad,A3,y.kn,c3,O3,A4,y.gn,c4,O4⟩ :=
  ⟨rfl,rfl,(a1.map_eq (f:=fun v=>prs v.L) (g:=fun P=>P) fun x d h=>h.2.2.1).trans (List.map_id' _),fun v h t ht=>by obtain⟨P,h1,h2⟩:=hv v h;exact(h2.2.1 t ht).2.1,q2,fun x hx=>(a2 x hx).2.1,(a4.map_eq (f:=fun v=>v.L) (g:=fun D=>D) fun x d h=>h.2.1).trans (List.map_id' _),rfl,rfl,rfl,rfl⟩
 exact⟨hok,same_low hs hy hok hk h0,fun v h=>by
  obtain⟨P,h1,h2⟩:=hv v h;exact⟨h2.2.1.mono fun t ht=>hM,h2.2.2.2⟩,fun v h=>by
  obtain⟨D,_,h1⟩:=a4.mem h;exact h1.2.2⟩
theorem lw_conv {u:World} {y:Ly} {A1 A2:Option Addr} {n1 n2 c1 c2 M:Nat} {O1:List Vc} {O2:List Fr} (hk:y.kind=2) (hM:M≤161) (hn:n1≤100000∧n2≤100000) (hl:y.ch.toNat*(y.kh.toNat*y.kw.toNat)≤1000000)
  (r1:Sl Vc.cs 1 u A1 n1 c1 O1) (a1:All2 (VnU M u) O1 (nestO (spotV y) (cRows y) (cCols y) y.out.toNat)) (r2:Sl Fr.cs 4 u A2 n2 c2 O2) (a2:AllRn u 161 O2) (q2:(O2.map fun x=>x.q)=nestO (fun o _ _=>bqF y o) (cRows y) (cCols y) y.out.toNat) :
  LwU u ⟨1,A1,n1,c1,O1,A2,n2,c2,O2,0,0,0,0,0,0,0,0,none,0,0,[],none,0,0,[]⟩ y:=by
 have hv:∀v∈O1,∃P,P.length≤1000000∧VnU M u v P:=fun v hv=>by
  obtain⟨P,hP,h1⟩:=a1.mem hv;obtain⟨o,r,c,_,_,_,rfl⟩:=nestO_mem hP;exact⟨_,wA (nrm_len _) (wA (spotP_len y o _ _ _) hl),h1⟩
 have hok:LyOk u 160 ⟨1,A1,n1,c1,O1,A2,n2,c2,O2,0,0,0,0,0,0,0,0,none,0,0,[],none,0,0,[]⟩ :=
  ⟨r1,fun v h=>by obtain⟨P,h1,h2⟩:=hv v h;exact h2.ok hM h1,r2,a2.frok zo,Sl.nil _,fun _ h=>(by cases h),Sl.nil _,fun _ h=>(by cases h),hn.1,hn.2,uA _,uA _⟩
 have hs:ConvOf y ⟨1,A1,n1,c1,O1,A2,n2,c2,O2,0,0,0,0,0,0,0,0,none,0,0,[],none,0,0,[]⟩ :=
  ⟨rfl,rfl,(a1.map_eq (f:=fun v=>prs v.L) (g:=fun P=>P) fun x d h=>h.2.2.1).trans (List.map_id' _),fun v h t ht=>by obtain⟨P,h1,h2⟩:=hv v h;exact(h2.2.1 t ht).2.1,q2,fun x hx=>(a2 x hx).2.1,rfl,rfl,rfl⟩
 exact⟨hok,conv_low hs hok hk,fun v h=>by
  obtain⟨P,h1,h2⟩:=hv v h;exact⟨h2.2.1.mono fun t ht=>hM,h2.2.2.2⟩,fun _ h=>(by cases h)⟩
theorem lvl {a b p c:Int} (ha:0≤a) (hb:1≤b) (hp:0≤p) (hpb:p<b) (h:(a+1)*b≤c):0≤a*b∧0≤a*b+p∧a*b≤a*b+p∧a*b+p+1≤c∧a≤a*b:=by
 have h1:=sF ha (show 0≤b by omega);have h2:=Int.mul_le_mul_of_nonneg_left hb ha;rw[Int.add_mul] at h;omega
theorem idx3 {o ch p kh i kw j K:Int} (h0:0≤o) (h1:1≤ch) (h2:1≤kh) (h3:1≤kw) (p0:0≤p) (p1:p<ch) (i0:0≤i) (i1:i<kh) (j0:0≤j) (j1:j<kw) (hK:(o+1)*(ch*kh*kw)≤K) :
  (0≤o*ch∧o*ch≤K)∧(0≤o*ch+p∧o*ch+p≤K)∧(0≤(o*ch+p)*kh∧(o*ch+p)*kh≤K)∧(0≤(o*ch+p)*kh+i∧(o*ch+p)*kh+i≤K)∧(0≤((o*ch+p)*kh+i)*kw∧((o*ch+p)*kh+i)*kw≤K)∧0≤((o*ch+p)*kh+i)*kw+j∧((o*ch+p)*kh+i)*kw+j<K:=by
 have a:=lvl h0 h1 p0 p1 (c:=(o+1)*ch) (Int.le_refl _);have b1:(o*ch+p+1)*kh≤(o+1)*ch*kh:=yC a.2.2.2.1 zo;have b:=lvl a.2.1 h2 i0 i1 b1;have c1:((o*ch+p)*kh+i+1)*kw≤(o+1)*ch*kh*kw:=yC b.2.2.2.1 zo;have c:=lvl b.2.1 h3 j0 j1 c1;have e:(o+1)*ch*kh*kw=(o+1)*(ch*kh*kw):=by rw[Int.mul_assoc,Int.mul_assoc,Int.mul_assoc]
 rw[e] at c;omega
theorem idx2 {p hh r ww c K:Int} (h0:0≤p) (h1:1≤hh) (h2:1≤ww) (r0:0≤r) (r1:r<hh) (c0:0≤c) (c1:c<ww) (hK:(p+1)*hh*ww≤K) :
  (0≤p*hh∧p*hh≤K)∧(0≤p*hh+r∧p*hh+r≤K)∧(0≤(p*hh+r)*ww∧(p*hh+r)*ww≤K)∧0≤(p*hh+r)*ww+c∧(p*hh+r)*ww+c≤K:=by
 have a:=lvl h0 h1 r0 r1 (c:=(p+1)*hh) (Int.le_refl _);have b1:(p*hh+r+1)*ww≤(p+1)*hh*ww:=yC a.2.2.2.1 zo;have b:=lvl a.2.1 h2 c0 c1 b1;omega
theorem spot1_no {y:Ly} {o row col:Int} {p i j:Nat} (h:row+i<0∨y.high≤row+i∨col+j<0∨y.wide≤col+j):spot1 y o row col p i j=[]:=by
 unfold spot1
 (repeat' split)<;>first | rfl | omega
theorem spot1_yes {y:Ly} {o row col:Int} {p i j:Nat} {x:Fr} (h1:0≤row+i) (h2:row+i<y.high) (h3:0≤col+j) (h4:col+j<y.wide) (hx:y.kern[(((o*y.ch+p)*y.kh+i)*y.kw+j).toNat]?=some x) :
  spot1 y o row col p i j=[((p*y.high+(row+i))*y.wide+(col+j),x.q)]:=by
 unfold spot1
 rw[dA zo,dA zo,dA zo,dA zo];unfold kqF
 rw[hx]
structure SpOk (y:Ly):Prop where
 sides:(1≤y.ch∧y.ch≤256)∧(1≤y.high∧y.high≤256)∧(1≤y.wide∧y.wide≤256)∧(1≤y.out∧y.out≤256)∧(1≤y.kh∧y.kh≤256)∧(1≤y.kw∧y.kw≤256)∧1≤y.st∧y.st≤256
 pad:0≤y.pad∧y.pad≤256
 num:(y.kn:Int)=y.out*(y.ch*y.kh*y.kw)
 few:y.kn≤40
 units:y.ch*y.high*y.wide≤256
theorem SpOk.idx {y:Ly} (h:SpOk y) {o:Int} (_h0:0≤o) (h1:o<y.out):(o+1)*(y.ch*y.kh*y.kw)≤40:=by
 have s:=h.sides;have h2:0≤y.ch*y.kh*y.kw:=sF (sF zo zo) zo;have h3:=yC (show o+1≤y.out by omega) h2;have:=h.few;have:=h.num;omega
theorem SpOk.kn {y:Ly} (h:SpOk y) {o:Int} (_h0:0≤o) (h1:o<y.out):(o+1)*(y.ch*y.kh*y.kw)≤(y.kn:Int):=by
 have s:=h.sides;have h2:0≤y.ch*y.kh*y.kw:=sF (sF zo zo) zo;have h3:=yC (show o+1≤y.out by omega) h2;have:=h.num;omega
theorem SpOk.each {y:Ly} (h:SpOk y):y.ch.toNat*(y.kh.toNat*y.kw.toNat)≤40:=by
 have s:=h.sides;have h1:=h.idx (o:=0) zo zo;have e:((y.ch.toNat*(y.kh.toNat*y.kw.toNat):Nat):Int)=y.ch*y.kh*y.kw:=by
  rw[pF,pF,wC zo,wC zo,wC zo,Int.mul_assoc]
 omega
theorem SpOk.place {y:Ly} (h:SpOk y) {p:Int} (_h0:0≤p) (h1:p<y.ch):(p+1)*y.high*y.wide≤256:=by
 have s:=h.sides;have h2:=yC (show p+1≤y.ch by omega) (show 0≤y.high by omega);have h3:=yC h2 (show 0≤y.wide by omega);have:=h.units;omega
theorem spot_gv {w wr:World} {m k hc B:Nat} {H:Option Addr} {y:Ly} {O:List Tm} {P:List (Int×Rat)} (ho:OwnR wr B 60 5 (.slice H k hc) k (flat Tm.cs O)) (hp:prs O=P) (hm:∀t∈O,t.x∈y.kern) (hk:∀x∈y.kern,FrOk w m x) (hb:Below w.heap.size w wr) (hl:k*(m+2)≤160):GV wr H k hc P 160:=by
 have hol:=ho.eltn elt_term zo;have hf:∀t∈O,FrOk wr m t.x:=fun t ht=>(hk t.x (hm t ht)).below hb;refine⟨O,ho.sl' elt_term hol,fun t ht=>(hf t ht).rep,hp,fun a=>?_,fun hn=>?_⟩
 ·have h1:∀(L:List Tm),(∀t∈L,FrOk wr m t.x)→wsum L a≤L.length*(m+2):=by
   intro L;induction L with
   | nil=>intro _;exact uA _
   | cons t L ih =>
    intro h;have h2:=ih fun s hs=>h s (jB _ hs);have h3:=(h t (kB ..)).1.len;have h4:dgT t≤m:=by unfold dgT;omega
    have h5:=wsum_append [t] L a;rw[List.singleton_append] at h5;rw[h5,cC,eG];have h6:wsum [t] a≤m+2:=by
     show(if t.at_=a then dgT t+2 else 0)+wsum [] a≤m+2
     have:wsum [] a=0:=rfl;split<;>omega
    omega
  have h2:=h1 O hf;rw[hol] at h2;omega
 ·obtain⟨_,_,e9,h9,_⟩:=ho.slice;cases e9;exact(h9 hn).2
def LZ1 {α β:Type} (R:World→α→β→Prop) (w:World) (Xs:List Value) (b:Nat) (x:α) (d:β):Prop:=∃s e,b≤s∧(∀X∈Xs,∀g,X.ownBlock=some g→g<s∨e≤g)∧Rob w s e (fun u=>R u x d)
def LZ {α β:Type} (R:World→α→β→Prop) (w:World) (Xs:List Value) (b:Nat) (O:List α) (E:List β):Prop:=All2 (LZ1 R w Xs b) O E
section
variable {α β:Type} {R:World→α→β→Prop} {w w':World} {X X' Y:Value} {Xs:List Value} {b:Nat} {O:List α} {E:List β} {x:α} {d:β}
theorem LZ1.below (h:LZ1 R w Xs b x d) (hb:Below w.heap.size w w':=by go_grown):LZ1 R w' Xs b x d:=by
 obtain⟨s,e,h1,h2,h3⟩:=h;exact⟨s,e,h1,h2,h3.below hb⟩
theorem LZ1.off {b':Nat} (h:LZ1 R w Xs b x d) (ho:∀(k j:Nat),k≠b'→w'.cell? ⟨k,j,none⟩=w.cell? ⟨k,j,none⟩) (hk:K64 w w') (hz:w.heap.size≤w'.heap.size) (hn:b'<b):LZ1 R w' Xs b x d:=by
 obtain⟨s,e,h1,h2,h3⟩:=h;exact⟨s,e,h1,h2,h3.off ho hk hz (.inl zo)⟩
theorem LZ1.grow {Xs':List Value} (h:LZ1 R w Xs b x d) (hg:Grew w w' X X') (hX:X∈Xs) (hs:∀Z∈Xs',Z=X'∨Z∈Xs):LZ1 R w' Xs' b x d:=by
 obtain⟨s,e,h1,h2,h3⟩:=h;refine⟨s,e,h1,fun Z hZ g hg'=>?_,h3.grow hg (h2 X hX)⟩;rcases hs Z hZ with rfl | hZ
 ·rcases hg.new with e1 | ⟨g1,e1,hg1⟩
  ·exact h2 X hX g (e1 ▸ hg')
  ·rw[e1] at hg';cases hg';exact .inr (wA h3.le hg1)
 ·exact h2 Z hZ g hg'
theorem LZ1.grow1 (h:LZ1 R w [X,Y] b x d) (hg:Grew w w' X X'):LZ1 R w' [X',Y] b x d:=h.grow hg (by simp) fun Z hZ=>by simp at hZ ⊢;rcases hZ with h | h<;>simp[h]
theorem LZ1.grow2 (h:LZ1 R w [Y,X] b x d) (hg:Grew w w' X X'):LZ1 R w' [Y,X'] b x d:=h.grow hg (by simp) fun Z hZ=>by simp at hZ ⊢;rcases hZ with h | h<;>simp[h]
theorem LZ.below (h:LZ R w Xs b O E) (hb:Below w.heap.size w w':=by go_grown):LZ R w' Xs b O E:=All2.mono h fun _ _ hx=>LZ1.below hx hb
theorem LZ.off {b':Nat} (h:LZ R w Xs b O E) (ho:∀(k j:Nat),k≠b'→w'.cell? ⟨k,j,none⟩=w.cell? ⟨k,j,none⟩) (hk:K64 w w') (hz:w.heap.size≤w'.heap.size) (hn:b'<b):LZ R w' Xs b O E:=All2.mono h fun _ _ hx=>LZ1.off hx ho hk hz hn
theorem LZ.grow1 (h:LZ R w [X,Y] b O E) (hg:Grew w w' X X'):LZ R w' [X',Y] b O E:=All2.mono h fun _ _ hx=>LZ1.grow1 hx hg
theorem LZ.grow2 (h:LZ R w [Y,X] b O E) (hg:Grew w w' X X'):LZ R w' [Y,X'] b O E:=All2.mono h fun _ _ hx=>LZ1.grow2 hx hg
theorem LZ.nil:LZ R w Xs b [] ([]:List β):=All2.nil
theorem LZ.rob (h:LZ R w Xs b O E):Rob w b w.heap.size (fun u=>All2 (R u) O E) :=
 ⟨aA _,fun v hk hc=>⟨h.1,fun i y e hy he=>by
  obtain⟨s,t,h1,_,h3⟩:=h.2 i y e hy he;exact h3.on v hk fun b' j h4 h5=>hc b' j zo (gC h5 h3.le)⟩⟩
end
structure SmOk (y:Ly):Prop where
 sp:SpOk y
 up:0≤cHigh y∧0≤cWide y
 bn:(y.bn:Int)=y.out
 few:y.out.toNat*(cRows y*cCols y)≤256
theorem SmOk.rows {y:Ly} (h:SmOk y):((cRows y:Nat):Int)=(y.high+2*y.pad-y.kh) / y.st+1∧((cCols y:Nat):Int)=(y.wide+2*y.pad-y.kw) / y.st+1:=by
 have s:=h.sp.sides;have h1:=nF h.up.1 (show 0≤y.st by omega);have h2:=nF h.up.2 (show 0≤y.st by omega);unfold cHigh at h1
 unfold cWide at h2
 unfold cRows cCols cHigh cWide
 rw[wC zo,wC zo];exact⟨rfl,rfl⟩
theorem div_step {a s:Int} {r:Nat} (_h0:0≤a) (hs:1≤s) (hr:(r:Int)<a / s+1):0≤(r:Int)*s∧(r:Int)*s≤a:=by
 have h1:=sF (Int.natCast_nonneg r) (show 0≤s by omega);have h2:=yC (show(r:Int)≤a / s by omega) (show 0≤s by omega);have h3:=Int.ediv_mul_le a (show s≠0 by omega);omega
theorem SmOk.step {y:Ly} (h:SmOk y) {r c:Nat} (hr:r<cRows y) (hc:c<cCols y):(0≤(r:Int)*y.st∧(r:Int)*y.st≤1000)∧0≤(c:Int)*y.st∧(c:Int)*y.st≤1000:=by
 have s:=h.sp.sides;have p:=h.sp.pad;have e:=h.rows;have h1:=div_step (a:=y.high+2*y.pad-y.kh) (r:=r) h.up.1 s.2.2.2.2.2.2.1 zo;have h2:=div_step (a:=y.wide+2*y.pad-y.kw) (r:=c) h.up.2 s.2.2.2.2.2.2.1 zo;omega
theorem nest_lt {α:Type} (f:Nat→Nat→Nat→α) {R C o r c N:Nat} (ho:o<N) (hr:r<R) (hc:c<C):((nestO f R C o++nestR f C o r)++nestC f o r c).length+1≤N*(R*C):=by
 rw[eD,eD,nestO_len,nestR_len,nestC_len];have h1:=fB (R*C) (show o+1≤N by omega);have h2:=fB C (show r+1≤R by omega);rw[eG] at h1 h2;omega
def OutL (w:World) (y:Ly) (e:Ending) (w':World):Prop:=∃z:Ly,e=.returned (.agg #[.int .u8 z.kind,.slice z.rA z.rn z.rc,.slice z.bA z.bn z.bc,.int .i64 z.ch,.int .i64 z.high,.int .i64 z.wide,.int .i64 z.out,.int .i64 z.kh,.int .i64 z.kw,.int .i64 z.st,.int .i64 z.pad,.slice z.kA z.kn z.kc,.slice z.gA z.gn z.gc])∧Rob w' w.heap.size w'.heap.size (fun u=>LwU u z y)∧Below w.heap.size w w'
theorem store13 {w:World} {b:Nat} {t:TypeId} {u0 u1 u2 u3 u4 u5 u6 u7 u8 u9 u10 u11 u12:Value} (v0 v1 v2 v3 v4 v5 v6 v7 v8 v9 v10 v11 v12:Value) (h0:Bx w b #[u0,u1,u2,u3,u4,u5,u6,u7,u8,u9,u10,u11,u12] t) (n0:∀n,u0≠.int .u64 n) (n1:∀n,u1≠.int .u64 n) (n2:∀n,u2≠.int .u64 n) (n3:∀n,u3≠.int .u64 n) (n4:∀n,u4≠.int .u64 n) (n5:∀n,u5≠.int .u64 n) (n6:∀n,u6≠.int .u64 n) (n7:∀n,u7≠.int .u64 n) (n8:∀n,u8≠.int .u64 n) (n9:∀n,u9≠.int .u64 n) (n10:∀n,u10≠.int .u64 n) (n11:∀n,u11≠.int .u64 n) (n12:∀n,u12≠.int .u64 n) :
  ∃W,W=((((((((((((w.setCell ⟨b,0,none⟩ v0).setCell ⟨b,1,none⟩ v1).setCell ⟨b,2,none⟩ v2).setCell ⟨b,3,none⟩ v3).setCell ⟨b,4,none⟩ v4).setCell ⟨b,5,none⟩ v5).setCell ⟨b,6,none⟩ v6).setCell ⟨b,7,none⟩ v7).setCell ⟨b,8,none⟩ v8).setCell ⟨b,9,none⟩ v9).setCell ⟨b,10,none⟩ v10).setCell ⟨b,11,none⟩ v11).setCell ⟨b,12,none⟩ v12∧Bx W b #[v0,v1,v2,v3,v4,v5,v6,v7,v8,v9,v10,v11,v12] t∧K64 w W∧(∀b' cs t',b'≠b→Bx w b' cs t'→Bx W b' cs t')∧(∀B w0,B≤b→Below B w0 w→Below B w0 W):=by
 have h1:Bx (w.setCell ⟨b,0,none⟩ v0) b #[v0,u1,u2,u3,u4,u5,u6,u7,u8,u9,u10,u11,u12] t:=h0.set 0 v0;have h2:Bx ((w.setCell ⟨b,0,none⟩ v0).setCell ⟨b,1,none⟩ v1) b #[v0,v1,u2,u3,u4,u5,u6,u7,u8,u9,u10,u11,u12] t:=h1.set 1 v1;have h3:Bx (((w.setCell ⟨b,0,none⟩ v0).setCell ⟨b,1,none⟩ v1).setCell ⟨b,2,none⟩ v2) b #[v0,v1,v2,u3,u4,u5,u6,u7,u8,u9,u10,u11,u12] t:=h2.set 2 v2;have h4:Bx ((((w.setCell ⟨b,0,none⟩ v0).setCell ⟨b,1,none⟩ v1).setCell ⟨b,2,none⟩ v2).setCell ⟨b,3,none⟩ v3) b #[v0,v1,v2,v3,u4,u5,u6,u7,u8,u9,u10,u11,u12] t:=h3.set 3 v3;have h5:Bx (((((w.setCell ⟨b,0,none⟩ v0).setCell ⟨b,1,none⟩ v1).setCell ⟨b,2,none⟩ v2).setCell ⟨b,3,none⟩ v3).setCell ⟨b,4,none⟩ v4) b #[v0,v1,v2,v3,v4,u5,u6,u7,u8,u9,u10,u11,u12] t:=h4.set 4 v4;have h6:Bx ((((((w.setCell ⟨b,0,none⟩ v0).setCell ⟨b,1,none⟩ v1).setCell ⟨b,2,none⟩ v2).setCell ⟨b,3,none⟩ v3).setCell ⟨b,4,none⟩ v4).setCell ⟨b,5,none⟩ v5) b #[v0,v1,v2,v3,v4,v5,u6,u7,u8,u9,u10,u11,u12] t:=h5.set 5 v5;have h7:Bx (((((((w.setCell ⟨b,0,none⟩ v0).setCell ⟨b,1,none⟩ v1).setCell ⟨b,2,none⟩ v2).setCell ⟨b,3,none⟩ v3).setCell ⟨b,4,none⟩ v4).setCell ⟨b,5,none⟩ v5).setCell ⟨b,6,none⟩ v6) b #[v0,v1,v2,v3,v4,v5,v6,u7,u8,u9,u10,u11,u12] t:=h6.set 6 v6;have h8:Bx ((((((((w.setCell ⟨b,0,none⟩ v0).setCell ⟨b,1,none⟩ v1).setCell ⟨b,2,none⟩ v2).setCell ⟨b,3,none⟩ v3).setCell ⟨b,4,none⟩ v4).setCell ⟨b,5,none⟩ v5).setCell ⟨b,6,none⟩ v6).setCell ⟨b,7,none⟩ v7) b #[v0,v1,v2,v3,v4,v5,v6,v7,u8,u9,u10,u11,u12] t:=h7.set 7 v7;have h9:Bx (((((((((w.setCell ⟨b,0,none⟩ v0).setCell ⟨b,1,none⟩ v1).setCell ⟨b,2,none⟩ v2).setCell ⟨b,3,none⟩ v3).setCell ⟨b,4,none⟩ v4).setCell ⟨b,5,none⟩ v5).setCell ⟨b,6,none⟩ v6).setCell ⟨b,7,none⟩ v7).setCell ⟨b,8,none⟩ v8) b #[v0,v1,v2,v3,v4,v5,v6,v7,v8,u9,u10,u11,u12] t:=h8.set 8 v8;have h10:Bx ((((((((((w.setCell ⟨b,0,none⟩ v0).setCell ⟨b,1,none⟩ v1).setCell ⟨b,2,none⟩ v2).setCell ⟨b,3,none⟩ v3).setCell ⟨b,4,none⟩ v4).setCell ⟨b,5,none⟩ v5).setCell ⟨b,6,none⟩ v6).setCell ⟨b,7,none⟩ v7).setCell ⟨b,8,none⟩ v8).setCell ⟨b,9,none⟩ v9) b #[v0,v1,v2,v3,v4,v5,v6,v7,v8,v9,u10,u11,u12] t:=h9.set 9 v9;have h11:Bx (((((((((((w.setCell ⟨b,0,none⟩ v0).setCell ⟨b,1,none⟩ v1).setCell ⟨b,2,none⟩ v2).setCell ⟨b,3,none⟩ v3).setCell ⟨b,4,none⟩ v4).setCell ⟨b,5,none⟩ v5).setCell ⟨b,6,none⟩ v6).setCell ⟨b,7,none⟩ v7).setCell ⟨b,8,none⟩ v8).setCell ⟨b,9,none⟩ v9).setCell ⟨b,10,none⟩ v10) b #[v0,v1,v2,v3,v4,v5,v6,v7,v8,v9,v10,u11,u12] t:=h10.set 10 v10;have h12:Bx ((((((((((((w.setCell ⟨b,0,none⟩ v0).setCell ⟨b,1,none⟩ v1).setCell ⟨b,2,none⟩ v2).setCell ⟨b,3,none⟩ v3).setCell ⟨b,4,none⟩ v4).setCell ⟨b,5,none⟩ v5).setCell ⟨b,6,none⟩ v6).setCell ⟨b,7,none⟩ v7).setCell ⟨b,8,none⟩ v8).setCell ⟨b,9,none⟩ v9).setCell ⟨b,10,none⟩ v10).setCell ⟨b,11,none⟩ v11) b #[v0,v1,v2,v3,v4,v5,v6,v7,v8,v9,v10,v11,u12] t:=h11.set 11 v11;have h13:Bx (((((((((((((w.setCell ⟨b,0,none⟩ v0).setCell ⟨b,1,none⟩ v1).setCell ⟨b,2,none⟩ v2).setCell ⟨b,3,none⟩ v3).setCell ⟨b,4,none⟩ v4).setCell ⟨b,5,none⟩ v5).setCell ⟨b,6,none⟩ v6).setCell ⟨b,7,none⟩ v7).setCell ⟨b,8,none⟩ v8).setCell ⟨b,9,none⟩ v9).setCell ⟨b,10,none⟩ v10).setCell ⟨b,11,none⟩ v11).setCell ⟨b,12,none⟩ v12) b #[v0,v1,v2,v3,v4,v5,v6,v7,v8,v9,v10,v11,v12] t:=h12.set 12 v12
 have k0:K64 (w) (w.setCell ⟨b,0,none⟩ v0):=K64.box h0 (i:=0) rfl n0 v0;have k1:K64 (w.setCell ⟨b,0,none⟩ v0) ((w.setCell ⟨b,0,none⟩ v0).setCell ⟨b,1,none⟩ v1):=K64.box h1 (i:=1) rfl n1 v1;have k2:K64 ((w.setCell ⟨b,0,none⟩ v0).setCell ⟨b,1,none⟩ v1) (((w.setCell ⟨b,0,none⟩ v0).setCell ⟨b,1,none⟩ v1).setCell ⟨b,2,none⟩ v2):=K64.box h2 (i:=2) rfl n2 v2;have k3:K64 (((w.setCell ⟨b,0,none⟩ v0).setCell ⟨b,1,none⟩ v1).setCell ⟨b,2,none⟩ v2) ((((w.setCell ⟨b,0,none⟩ v0).setCell ⟨b,1,none⟩ v1).setCell ⟨b,2,none⟩ v2).setCell ⟨b,3,none⟩ v3):=K64.box h3 (i:=3) rfl n3 v3;have k4:K64 ((((w.setCell ⟨b,0,none⟩ v0).setCell ⟨b,1,none⟩ v1).setCell ⟨b,2,none⟩ v2).setCell ⟨b,3,none⟩ v3) (((((w.setCell ⟨b,0,none⟩ v0).setCell ⟨b,1,none⟩ v1).setCell ⟨b,2,none⟩ v2).setCell ⟨b,3,none⟩ v3).setCell ⟨b,4,none⟩ v4):=K64.box h4 (i:=4) rfl n4 v4;have k5:K64 (((((w.setCell ⟨b,0,none⟩ v0).setCell ⟨b,1,none⟩ v1).setCell ⟨b,2,none⟩ v2).setCell ⟨b,3,none⟩ v3).setCell ⟨b,4,none⟩ v4) ((((((w.setCell ⟨b,0,none⟩ v0).setCell ⟨b,1,none⟩ v1).setCell ⟨b,2,none⟩ v2).setCell ⟨b,3,none⟩ v3).setCell ⟨b,4,none⟩ v4).setCell ⟨b,5,none⟩ v5):=K64.box h5 (i:=5) rfl n5 v5;have k6:K64 ((((((w.setCell ⟨b,0,none⟩ v0).setCell ⟨b,1,none⟩ v1).setCell ⟨b,2,none⟩ v2).setCell ⟨b,3,none⟩ v3).setCell ⟨b,4,none⟩ v4).setCell ⟨b,5,none⟩ v5) (((((((w.setCell ⟨b,0,none⟩ v0).setCell ⟨b,1,none⟩ v1).setCell ⟨b,2,none⟩ v2).setCell ⟨b,3,none⟩ v3).setCell ⟨b,4,none⟩ v4).setCell ⟨b,5,none⟩ v5).setCell ⟨b,6,none⟩ v6):=K64.box h6 (i:=6) rfl n6 v6;have k7:K64 (((((((w.setCell ⟨b,0,none⟩ v0).setCell ⟨b,1,none⟩ v1).setCell ⟨b,2,none⟩ v2).setCell ⟨b,3,none⟩ v3).setCell ⟨b,4,none⟩ v4).setCell ⟨b,5,none⟩ v5).setCell ⟨b,6,none⟩ v6) ((((((((w.setCell ⟨b,0,none⟩ v0).setCell ⟨b,1,none⟩ v1).setCell ⟨b,2,none⟩ v2).setCell ⟨b,3,none⟩ v3).setCell ⟨b,4,none⟩ v4).setCell ⟨b,5,none⟩ v5).setCell ⟨b,6,none⟩ v6).setCell ⟨b,7,none⟩ v7):=K64.box h7 (i:=7) rfl n7 v7;have k8:K64 ((((((((w.setCell ⟨b,0,none⟩ v0).setCell ⟨b,1,none⟩ v1).setCell ⟨b,2,none⟩ v2).setCell ⟨b,3,none⟩ v3).setCell ⟨b,4,none⟩ v4).setCell ⟨b,5,none⟩ v5).setCell ⟨b,6,none⟩ v6).setCell ⟨b,7,none⟩ v7) (((((((((w.setCell ⟨b,0,none⟩ v0).setCell ⟨b,1,none⟩ v1).setCell ⟨b,2,none⟩ v2).setCell ⟨b,3,none⟩ v3).setCell ⟨b,4,none⟩ v4).setCell ⟨b,5,none⟩ v5).setCell ⟨b,6,none⟩ v6).setCell ⟨b,7,none⟩ v7).setCell ⟨b,8,none⟩ v8):=K64.box h8 (i:=8) rfl n8 v8;have k9:K64 (((((((((w.setCell ⟨b,0,none⟩ v0).setCell ⟨b,1,none⟩ v1).setCell ⟨b,2,none⟩ v2).setCell ⟨b,3,none⟩ v3).setCell ⟨b,4,none⟩ v4).setCell ⟨b,5,none⟩ v5).setCell ⟨b,6,none⟩ v6).setCell ⟨b,7,none⟩ v7).setCell ⟨b,8,none⟩ v8) ((((((((((w.setCell ⟨b,0,none⟩ v0).setCell ⟨b,1,none⟩ v1).setCell ⟨b,2,none⟩ v2).setCell ⟨b,3,none⟩ v3).setCell ⟨b,4,none⟩ v4).setCell ⟨b,5,none⟩ v5).setCell ⟨b,6,none⟩ v6).setCell ⟨b,7,none⟩ v7).setCell ⟨b,8,none⟩ v8).setCell ⟨b,9,none⟩ v9):=K64.box h9 (i:=9) rfl n9 v9;have k10:K64 ((((((((((w.setCell ⟨b,0,none⟩ v0).setCell ⟨b,1,none⟩ v1).setCell ⟨b,2,none⟩ v2).setCell ⟨b,3,none⟩ v3).setCell ⟨b,4,none⟩ v4).setCell ⟨b,5,none⟩ v5).setCell ⟨b,6,none⟩ v6).setCell ⟨b,7,none⟩ v7).setCell ⟨b,8,none⟩ v8).setCell ⟨b,9,none⟩ v9) (((((((((((w.setCell ⟨b,0,none⟩ v0).setCell ⟨b,1,none⟩ v1).setCell ⟨b,2,none⟩ v2).setCell ⟨b,3,none⟩ v3).setCell ⟨b,4,none⟩ v4).setCell ⟨b,5,none⟩ v5).setCell ⟨b,6,none⟩ v6).setCell ⟨b,7,none⟩ v7).setCell ⟨b,8,none⟩ v8).setCell ⟨b,9,none⟩ v9).setCell ⟨b,10,none⟩ v10):=K64.box h10 (i:=10) rfl n10 v10
 have k11:K64 (((((((((((w.setCell ⟨b,0,none⟩ v0).setCell ⟨b,1,none⟩ v1).setCell ⟨b,2,none⟩ v2).setCell ⟨b,3,none⟩ v3).setCell ⟨b,4,none⟩ v4).setCell ⟨b,5,none⟩ v5).setCell ⟨b,6,none⟩ v6).setCell ⟨b,7,none⟩ v7).setCell ⟨b,8,none⟩ v8).setCell ⟨b,9,none⟩ v9).setCell ⟨b,10,none⟩ v10) ((((((((((((w.setCell ⟨b,0,none⟩ v0).setCell ⟨b,1,none⟩ v1).setCell ⟨b,2,none⟩ v2).setCell ⟨b,3,none⟩ v3).setCell ⟨b,4,none⟩ v4).setCell ⟨b,5,none⟩ v5).setCell ⟨b,6,none⟩ v6).setCell ⟨b,7,none⟩ v7).setCell ⟨b,8,none⟩ v8).setCell ⟨b,9,none⟩ v9).setCell ⟨b,10,none⟩ v10).setCell ⟨b,11,none⟩ v11):=K64.box h11 (i:=11) rfl n11 v11;have k12:K64 ((((((((((((w.setCell ⟨b,0,none⟩ v0).setCell ⟨b,1,none⟩ v1).setCell ⟨b,2,none⟩ v2).setCell ⟨b,3,none⟩ v3).setCell ⟨b,4,none⟩ v4).setCell ⟨b,5,none⟩ v5).setCell ⟨b,6,none⟩ v6).setCell ⟨b,7,none⟩ v7).setCell ⟨b,8,none⟩ v8).setCell ⟨b,9,none⟩ v9).setCell ⟨b,10,none⟩ v10).setCell ⟨b,11,none⟩ v11) (((((((((((((w.setCell ⟨b,0,none⟩ v0).setCell ⟨b,1,none⟩ v1).setCell ⟨b,2,none⟩ v2).setCell ⟨b,3,none⟩ v3).setCell ⟨b,4,none⟩ v4).setCell ⟨b,5,none⟩ v5).setCell ⟨b,6,none⟩ v6).setCell ⟨b,7,none⟩ v7).setCell ⟨b,8,none⟩ v8).setCell ⟨b,9,none⟩ v9).setCell ⟨b,10,none⟩ v10).setCell ⟨b,11,none⟩ v11).setCell ⟨b,12,none⟩ v12):=K64.box h12 (i:=12) rfl n12 v12;exact⟨_,rfl,h13,((((((((((((k0.trans k1).trans k2).trans k3).trans k4).trans k5).trans k6).trans k7).trans k8).trans k9).trans k10).trans k11).trans k12),fun b' cs t' hb hx=>(((((((((((((hx.far hb v0).far hb v1).far hb v2).far hb v3).far hb v4).far hb v5).far hb v6).far hb v7).far hb v8).far hb v9).far hb v10).far hb v11).far hb v12),fun B w0 hB hb=>(((((((((((((hb.setCell hB v0).setCell hB v1).setCell hB v2).setCell hB v3).setCell hB v4).setCell hB v5).setCell hB v6).setCell hB v7).setCell hB v8).setCell hB v9).setCell hB v10).setCell hB v11).setCell hB v12)⟩
theorem cell_off13 {w:World} {b b' j:Nat} {u0 u1 u2 u3 u4 u5 u6 u7 u8 u9 u10 u11 u12:Value} (h:b≠b'):(((((((((((((w.setCell ⟨b,0,none⟩ u0).setCell ⟨b,1,none⟩ u1).setCell ⟨b,2,none⟩ u2).setCell ⟨b,3,none⟩ u3).setCell ⟨b,4,none⟩ u4).setCell ⟨b,5,none⟩ u5).setCell ⟨b,6,none⟩ u6).setCell ⟨b,7,none⟩ u7).setCell ⟨b,8,none⟩ u8).setCell ⟨b,9,none⟩ u9).setCell ⟨b,10,none⟩ u10).setCell ⟨b,11,none⟩ u11).setCell ⟨b,12,none⟩ u12).cell? ⟨b',j,none⟩=w.cell? ⟨b',j,none⟩:=by
 rw[World.cell?_setCell_other _ _ _ _ (by intro e;cases e;exact h rfl),World.cell?_setCell_other _ _ _ _ (by intro e;cases e;exact h rfl),World.cell?_setCell_other _ _ _ _ (by intro e;cases e;exact h rfl),World.cell?_setCell_other _ _ _ _ (by intro e;cases e;exact h rfl),World.cell?_setCell_other _ _ _ _ (by intro e;cases e;exact h rfl),World.cell?_setCell_other _ _ _ _ (by intro e;cases e;exact h rfl),World.cell?_setCell_other _ _ _ _ (by intro e;cases e;exact h rfl),World.cell?_setCell_other _ _ _ _ (by intro e;cases e;exact h rfl),World.cell?_setCell_other _ _ _ _ (by intro e;cases e;exact h rfl),World.cell?_setCell_other _ _ _ _ (by intro e;cases e;exact h rfl),World.cell?_setCell_other _ _ _ _ (by intro e;cases e;exact h rfl),World.cell?_setCell_other _ _ _ _ (by intro e;cases e;exact h rfl),World.cell?_setCell_other _ _ _ _ (by intro e;cases e;exact h rfl)]
theorem st13_1_1 {w:World} {b:Nat} {t:TypeId} {u0 u1 u2 u3 u4 u5 u6 u7 u8 u9 u10 u11 u12:Value} (v1:Value) (h0:Bx w b #[u0,u1,u2,u3,u4,u5,u6,u7,u8,u9,u10,u11,u12] t) (n1:∀n,u1≠.int .u64 n) :
  ∃W,W=w.setCell ⟨b,1,none⟩ v1∧Bx W b #[u0,v1,u2,u3,u4,u5,u6,u7,u8,u9,u10,u11,u12] t∧K64 w W∧(∀b' cs t',b'≠b→Bx w b' cs t'→Bx W b' cs t')∧(∀B w0,B≤b→Below B w0 w→Below B w0 W):=by
 have h2:Bx (w.setCell ⟨b,1,none⟩ v1) b #[u0,v1,u2,u3,u4,u5,u6,u7,u8,u9,u10,u11,u12] t:=h0.set 1 v1;have k1:K64 (w) (w.setCell ⟨b,1,none⟩ v1):=K64.box h0 (i:=1) rfl n1 v1;exact⟨_,rfl,h2,k1,fun b' cs t' hb hx=>(hx.far hb v1),fun B w0 hB hb=>(hb.setCell hB v1)⟩
theorem st13_2_1 {w:World} {b:Nat} {t:TypeId} {u0 u1 u2 u3 u4 u5 u6 u7 u8 u9 u10 u11 u12:Value} (v2:Value) (h0:Bx w b #[u0,u1,u2,u3,u4,u5,u6,u7,u8,u9,u10,u11,u12] t) (n2:∀n,u2≠.int .u64 n) :
  ∃W,W=w.setCell ⟨b,2,none⟩ v2∧Bx W b #[u0,u1,v2,u3,u4,u5,u6,u7,u8,u9,u10,u11,u12] t∧K64 w W∧(∀b' cs t',b'≠b→Bx w b' cs t'→Bx W b' cs t')∧(∀B w0,B≤b→Below B w0 w→Below B w0 W):=by
 have h3:Bx (w.setCell ⟨b,2,none⟩ v2) b #[u0,u1,v2,u3,u4,u5,u6,u7,u8,u9,u10,u11,u12] t:=h0.set 2 v2;have k2:K64 (w) (w.setCell ⟨b,2,none⟩ v2):=K64.box h0 (i:=2) rfl n2 v2;exact⟨_,rfl,h3,k2,fun b' cs t' hb hx=>(hx.far hb v2),fun B w0 hB hb=>(hb.setCell hB v2)⟩
theorem st13_11_1 {w:World} {b:Nat} {t:TypeId} {u0 u1 u2 u3 u4 u5 u6 u7 u8 u9 u10 u11 u12:Value} (v11:Value) (h0:Bx w b #[u0,u1,u2,u3,u4,u5,u6,u7,u8,u9,u10,u11,u12] t) (n11:∀n,u11≠.int .u64 n) :
  ∃W,W=w.setCell ⟨b,11,none⟩ v11∧Bx W b #[u0,u1,u2,u3,u4,u5,u6,u7,u8,u9,u10,v11,u12] t∧K64 w W∧(∀b' cs t',b'≠b→Bx w b' cs t'→Bx W b' cs t')∧(∀B w0,B≤b→Below B w0 w→Below B w0 W):=by
 have h12:Bx (w.setCell ⟨b,11,none⟩ v11) b #[u0,u1,u2,u3,u4,u5,u6,u7,u8,u9,u10,v11,u12] t:=h0.set 11 v11;have k11:K64 (w) (w.setCell ⟨b,11,none⟩ v11):=K64.box h0 (i:=11) rfl n11 v11;exact⟨_,rfl,h12,k11,fun b' cs t' hb hx=>(hx.far hb v11),fun B w0 hB hb=>(hb.setCell hB v11)⟩
theorem st13_12_1 {w:World} {b:Nat} {t:TypeId} {u0 u1 u2 u3 u4 u5 u6 u7 u8 u9 u10 u11 u12:Value} (v12:Value) (h0:Bx w b #[u0,u1,u2,u3,u4,u5,u6,u7,u8,u9,u10,u11,u12] t) (n12:∀n,u12≠.int .u64 n) :
  ∃W,W=w.setCell ⟨b,12,none⟩ v12∧Bx W b #[u0,u1,u2,u3,u4,u5,u6,u7,u8,u9,u10,u11,v12] t∧K64 w W∧(∀b' cs t',b'≠b→Bx w b' cs t'→Bx W b' cs t')∧(∀B w0,B≤b→Below B w0 w→Below B w0 W):=by
 have h13:Bx (w.setCell ⟨b,12,none⟩ v12) b #[u0,u1,u2,u3,u4,u5,u6,u7,u8,u9,u10,u11,v12] t:=h0.set 12 v12;have k12:K64 (w) (w.setCell ⟨b,12,none⟩ v12):=K64.box h0 (i:=12) rfl n12 v12;exact⟨_,rfl,h13,k12,fun b' cs t' hb hx=>(hx.far hb v12),fun B w0 hB hb=>(hb.setCell hB v12)⟩
theorem lsame_q {w:World} {m M:Nat} {y:Ly} (h:LyOk w m y) (hm:m≤100) (hM:M≤161) (hk:y.kind≠2) {n0 u0 t0:Int} (h0:Hid (zAc y n0=some (u0,t0))) (hv:Hid (∀v∈y.rows,GV w v.A v.n v.c (prs v.L) M∧v.n≤1000000)) (hT:Hid (Tab w)) :
  Calls Tryz.prog 29 #[.agg #[.int .u8 y.kind,.slice y.rA y.rn y.rc,.slice y.bA y.bn y.bc,.int .i64 y.ch,.int .i64 y.high,.int .i64 y.wide,.int .i64 y.out,.int .i64 y.kh,.int .i64 y.kw,.int .i64 y.st,.int .i64 y.pad,.slice y.kA y.kn y.kc,.slice y.gA y.gn y.gc]] w (OutL w y):=by
 have hln:y.rn≤1000000∧y.bn≤1000000∧y.kn≤1000000∧y.gn≤1000000:=zi h.lens;have hsr:=h.rows;have hsb:=h.bias;have hsk:=h.kern;have hsg:=h.groups;have hbk:=zh h.bok;have hkk:=zh h.kok;have hgk:=zh h.gok;have hy:=zh h;clear h;obtain⟨W,hW,x0,x1,hB⟩:=zAh w #[.int .u8 y.kind,.slice y.rA y.rn y.rc,.slice y.bA y.bn y.bc,.int .i64 y.ch,.int .i64 y.high,.int .i64 y.wide,.int .i64 y.out,.int .i64 y.kh,.int .i64 y.kw,.int .i64 y.st,.int .i64 y.pad,.slice y.kA y.kn y.kc,.slice y.gA y.gn y.gc] 55 #[.int .u8 0,.slice none 0 0,.slice none 0 0,.int .i64 0,.int .i64 0,.int .i64 0,.int .i64 0,.int .i64 0,.int .i64 0,.int .i64 0,.int .i64 0,.slice none 0 0,.slice none 0 0] 55;have HX0:=zh x0;have HX1:=zh x1;clear x0 x1;have Bz:=zr W;have pa1:=(zx HX0 Bz).cell 1 (.slice y.rA y.rn y.rc) rfl;go_enter Tryz.func29,Tryz.ntmps29
 go_wp2_with fail
 rw[←hW];clear hW;go_wp2_with fail
 have hs1:w.heap.size+2≤W.heap.size:=zi (zx HX1 Bz).lt;with_reducible refine(copiedV_q (hsr.below (bT hB (bT (b:=W) Bz))) (zh fun v h=>⟨(hv.out v h).1.below (bT hB (bT (b:=W) Bz)),(hv.out v h).2⟩) hln.1 zo (zt hT hB Bz)).mono ?_
 rintro e w1 ⟨H1,c1,O1,rfl,h1,q⟩;replace q:=zq (a:=W) q;replace Bz:=bT Bz q;clear q;replace h1:=h1.wide hs1 (aA _) (aA _);clear pa1;have pa1:=(zx HX0 Bz).cell 1 (.slice y.rA y.rn y.rc) rfl;obtain⟨y0,-,fa1,-⟩:=(zx HX0 Bz).fz;go_upto_region 2 with(fail)
 obtain⟨V1,hW,x,kk,far,bel⟩:=st13_1_1 (.slice H1 y.rn c1) (zx HX0 Bz) nofun;have hoff:∀(k j:Nat),k≠w.heap.size→V1.cell? ⟨k,j,none⟩=w1.cell? ⟨k,j,none⟩:=fun k j hk=>by rw[hW];exact cell_off1 (Ne.symm hk)
 rw[←hW];clear hW;replace h1:=h1.off hoff kk (bel 0 _ (uA _) (Below.refl 0 _)).size (.inl zo);replace hB:=bel w.heap.size w zo (bT hB Bz);replace HX1:=zf far HX1 Bz;replace HX0:=zh x;clear x kk far bel Bz hoff;have Bz:=zr V1;clear pa1 fa1 y0;have pa2:=(zx HX0 Bz).cell 2 (.slice y.bA y.bn y.bc) rfl;go_wp2_with fail
 have hs2:w.heap.size+2≤V1.heap.size:=zi (zx HX1 Bz).lt;with_reducible refine(numbers_l (hsb.below (bT hB (bT (b:=V1) Bz))) (zh fun x h=>(hbk.out x h).below (bT hB (bT (b:=V1) Bz))) hln.2.1 zo (zt hT hB Bz)).mono ?_
 rintro e w2 ⟨H2,c2,O2,rfl,h2,q2,q⟩;replace q:=zq (a:=V1) q;replace h1:=h1.below q;replace Bz:=bT Bz q;clear q;replace h2:=h2.wide hs2 (aA _) (aA _);clear pa2;have pa2:=(zx HX0 Bz).cell 2 (.slice y.bA y.bn y.bc) rfl;obtain⟨y0,-,-,fa2,-⟩:=(zx HX0 Bz).fz;go_upto_region 3 with(fail)
 obtain⟨V2,hW,x,kk,far,bel⟩:=st13_2_1 (.slice H2 y.bn c2) (zx HX0 Bz) nofun;have hoff:∀(k j:Nat),k≠w.heap.size→V2.cell? ⟨k,j,none⟩=w2.cell? ⟨k,j,none⟩:=fun k j hk=>by rw[hW];exact cell_off1 (Ne.symm hk)
 rw[←hW];clear hW;replace h1:=h1.off hoff kk (bel 0 _ (uA _) (Below.refl 0 _)).size (.inl zo);replace h2:=h2.off hoff kk (bel 0 _ (uA _) (Below.refl 0 _)).size (.inl zo);replace hB:=bel w.heap.size w zo (bT hB Bz);replace HX1:=zf far HX1 Bz;replace HX0:=zh x;clear x kk far bel Bz hoff;have Bz:=zr V2;clear pa2 fa2 y0;have pab:=(zx HX0 Bz).cell 11 (.slice y.kA y.kn y.kc) rfl;go_wp2_with fail
 have hs3:w.heap.size+2≤V2.heap.size:=zi (zx HX1 Bz).lt;with_reducible refine(numbers_l (hsk.below (bT hB (bT (b:=V2) Bz))) (zh fun x h=>(hkk.out x h).below (bT hB (bT (b:=V2) Bz))) hln.2.2.1 zo (zt hT hB Bz)).mono ?_
 rintro e w3 ⟨H3,c3,O3,rfl,h3,q3,q⟩;replace q:=zq (a:=V2) q;replace h1:=h1.below q;replace h2:=h2.below q;replace Bz:=bT Bz q;clear q;replace h3:=h3.wide hs3 (aA _) (aA _);clear pab;have pab:=(zx HX0 Bz).cell 11 (.slice y.kA y.kn y.kc) rfl;obtain⟨y0,-,-,-,-,-,-,-,-,-,-,-,fab,-⟩:=(zx HX0 Bz).fz;go_upto_region 4 with(fail)
 obtain⟨V3,hW,x,kk,far,bel⟩:=st13_11_1 (.slice H3 y.kn c3) (zx HX0 Bz) nofun;have hoff:∀(k j:Nat),k≠w.heap.size→V3.cell? ⟨k,j,none⟩=w3.cell? ⟨k,j,none⟩:=fun k j hk=>by rw[hW];exact cell_off1 (Ne.symm hk)
 rw[←hW];clear hW;replace h1:=h1.off hoff kk (bel 0 _ (uA _) (Below.refl 0 _)).size (.inl zo);replace h2:=h2.off hoff kk (bel 0 _ (uA _) (Below.refl 0 _)).size (.inl zo);replace h3:=h3.off hoff kk (bel 0 _ (uA _) (Below.refl 0 _)).size (.inl zo);replace hB:=bel w.heap.size w zo (bT hB Bz);replace HX1:=zf far HX1 Bz;replace HX0:=zh x;clear x kk far bel Bz hoff;have Bz:=zr V3;clear pab fab y0;have pac:=(zx HX0 Bz).cell 12 (.slice y.gA y.gn y.gc) rfl;go_wp2_with fail
 have hs4:w.heap.size+2≤V3.heap.size:=zi (zx HX1 Bz).lt;with_reducible refine(copiedG_q (hsg.below (bT hB (bT (b:=V3) Bz))) (zh fun x h=>(hgk.out x h).below (bT hB (bT (b:=V3) Bz))) hln.2.2.2).mono ?_
 rintro e w4 ⟨H4,c4,O4,rfl,h4,q⟩;replace q:=zq (a:=V3) q;replace h1:=h1.below q;replace h2:=h2.below q;replace h3:=h3.below q;replace Bz:=bT Bz q;clear q;replace h4:=h4.wide hs4 (aA _) (aA _);clear pac;have pac:=(zx HX0 Bz).cell 12 (.slice y.gA y.gn y.gc) rfl;obtain⟨y0,-,-,-,-,-,-,-,-,-,-,-,-,fac,-⟩:=(zx HX0 Bz).fz;go_upto_region 5 with(fail)
 obtain⟨V4,hW,x,kk,far,bel⟩:=st13_12_1 (.slice H4 y.gn c4) (zx HX0 Bz) nofun;have hoff:∀(k j:Nat),k≠w.heap.size→V4.cell? ⟨k,j,none⟩=w4.cell? ⟨k,j,none⟩:=fun k j hk=>by rw[hW];exact cell_off1 (Ne.symm hk)
 rw[←hW];clear hW;replace h1:=h1.off hoff kk (bel 0 _ (uA _) (Below.refl 0 _)).size (.inl zo);replace h2:=h2.off hoff kk (bel 0 _ (uA _) (Below.refl 0 _)).size (.inl zo);replace h3:=h3.off hoff kk (bel 0 _ (uA _) (Below.refl 0 _)).size (.inl zo);replace h4:=h4.off hoff kk (bel 0 _ (uA _) (Below.refl 0 _)).size (.inl zo);replace hB:=bel w.heap.size w zo (bT hB Bz);replace HX1:=zf far HX1 Bz;replace HX0:=zh x;clear x kk far bel Bz hoff;have Bz:=zr V4;clear pac fac y0;obtain⟨pa0,pa1,pa2,pa3,pa4,pa5,pa6,pa7,pa8,pa9,paa,pab,pac,-⟩:=(zx HX0 Bz).cz;obtain⟨pb0,pb1,pb2,pb3,pb4,pb5,pb6,pb7,pb8,pb9,pba,pbb,pbc,-⟩:=(zx HX1 Bz).cz;obtain⟨y1,f1_0,fb1,fb2,fb3,fb4,fb5,fb6,fb7,fb8,fb9,fba,fbb,fbc,-⟩:=(zx HX1 Bz).fz;go_wp2_with fail
 (try simp only[Exit.inBlock,Exit.then])
 refine bodyPost_ret (by simp[results,Tryz.results29,go_sem,pb0,pb1,pb2,pb3,pb4,pb5,pb6,pb7,pb8,pb9,pba,pbb,pbc];try rfl) rfl ?_;obtain⟨V5,hW,x,kk,far,bel⟩:=store13 (.int .u8 y.kind) (.slice H1 y.rn c1) (.slice H2 y.bn c2) (.int .i64 y.ch) (.int .i64 y.high) (.int .i64 y.wide) (.int .i64 y.out) (.int .i64 y.kh) (.int .i64 y.kw) (.int .i64 y.st) (.int .i64 y.pad) (.slice H3 y.kn c3) (.slice H4 y.gn c4) (zx HX1 Bz) nofun nofun nofun nofun nofun nofun nofun nofun nofun nofun nofun nofun nofun;have hoff:∀(k j:Nat),k≠w.heap.size+1→V5.cell? ⟨k,j,none⟩=V4.cell? ⟨k,j,none⟩:=fun k j hk=>by rw[hW];exact cell_off13 (Ne.symm hk)
 rw[←hW];clear hW;replace h1:=h1.off hoff kk (bel 0 _ (uA _) (Below.refl 0 _)).size (.inl zo);replace h2:=h2.off hoff kk (bel 0 _ (uA _) (Below.refl 0 _)).size (.inl zo);replace h3:=h3.off hoff kk (bel 0 _ (uA _) (Below.refl 0 _)).size (.inl zo);replace h4:=h4.off hoff kk (bel 0 _ (uA _) (Below.refl 0 _)).size (.inl zo);replace hB:=bel w.heap.size w zo (bT hB Bz);replace HX0:=zf far HX0 Bz;replace HX1:=zh x;clear x kk far bel Bz hoff;have Bz:=zr V5;have hF:=bT (c:=V5) hB Bz;have hz:w.heap.size≤V5.heap.size:=hF.size;have hr:=(((((h1).wide (s':=w.heap.size) (e':=V5.heap.size) zo (h1).le (aA _)).and ((h2).wide (s':=w.heap.size) (e':=V5.heap.size) zo (h2).le (aA _))).and ((h3).wide (s':=w.heap.size) (e':=V5.heap.size) zo (h3).le (aA _))).and ((h4).wide (s':=w.heap.size) (e':=V5.heap.size) zo (h4).le (aA _))).imp fun u k=>lw_same hy.out hm hM hk h0.out k.1.1.1.1 k.1.1.1.2 k.1.1.2.1 k.1.1.2.2 q2 k.1.2.1 k.1.2.2 k.2.1 k.2.2;exact⟨⟨y.kind,H1,y.rn,c1,O1,H2,y.bn,c2,O2,y.ch,y.high,y.wide,y.out,y.kh,y.kw,y.st,y.pad,H3,y.kn,c3,O3,H4,y.gn,c4,O4⟩,rfl,hr,hF⟩
def SPx (w W:World) (y:Ly) (Z:Nat→List (Int×Rat)) (n gk:Nat) (s9 sj:Value) (wr:World):Prop :=
 ∃(j k:Nat) (H:Option Addr) (hc:Nat) (O:List Tm),s9=.slice H k hc∧sj=.int .i64 (j:Int)∧j≤n∧n-j≤gk∧OwnR wr W.heap.size 60 5 (.slice H k hc) k (flat Tm.cs O)∧prs O=Z j∧(∀t∈O,t.x∈y.kern)∧Below w.heap.size w wr∧Below W.heap.size W wr
def OutP (w:World) (P:List (Int×Rat)) (e:Ending) (w':World):Prop:=∃H n' hc L,e=.returned (.slice H n' hc)∧Rob w' w.heap.size w'.heap.size (fun u=>VnU 160 u ⟨H,n',hc,L⟩ P)∧Below w.heap.size w w'
theorem spot_q {w:World} {m:Nat} {y:Ly} {o row col:Int} (h:LyOk w m y) (hm:m≤2) (hs:SpOk y) (ho0:0≤o) (ho1:o<y.out) (hrw:-100000≤row∧row≤100000) (hcl:-100000≤col∧col≤100000) (hT:Hid (Tab w)) :
  Calls Tryz.prog 49 #[.agg #[.int .u8 y.kind,.slice y.rA y.rn y.rc,.slice y.bA y.bn y.bc,.int .i64 y.ch,.int .i64 y.high,.int .i64 y.wide,.int .i64 y.out,.int .i64 y.kh,.int .i64 y.kw,.int .i64 y.st,.int .i64 y.pad,.slice y.kA y.kn y.kc,.slice y.gA y.gn y.gc],.int .i64 o,.int .i64 row,.int .i64 col] w (OutP w (nrm (spotP y o row col y.ch.toNat))):=by
 have HK:=zh h.kern;have HKO:=zh h.kok;have HS:=zh hs;have hsd:=hs.sides;have HIX:=zh (hs.idx ho0 ho1);have hfew:=hs.few;clear h hs;obtain⟨W,hW,x0,hB⟩:=zY w y;have HX0:=zh x0;clear x0;have Bz:=zr W;have pa3:=(zx HX0 Bz).cell 3 (.int .i64 y.ch) rfl;go_enter Tryz.func49,Tryz.ntmps49
 go_wp2_with fail
 rw[←hW];clear hW;go_wp2_with fail
 have hWs:w.heap.size<W.heap.size:=HX0.out.lt;have XX0:=zh HX0.out;have HB1:=zh hB;clear HX0 hB Bz;go_loopg [9,18] y.ch.toNat (fun gk s9 s18 wr=>SPx w W y (fun p=>spotP y o row col p) y.ch.toNat gk s9 s18 wr)
 case atStart=>exact⟨0,0,none,0,[],rfl,rfl,uA _,aA _,OwnR.nil _ _ _ _,rfl,(fun _ h=>by cases h),HB1.out,Below.refl _ _⟩
 case round =>
  clear HB1;obtain⟨p,k,Hd,hc,O,rfl,rfl,hpn,hgk,ho,hp,hmm,hB,hBW⟩:=hrel;have HGK:=zh hgk;have HX0:=zh (XX0.out.below hBW);clear hgk;by_cases hlt:p<y.ch.toNat
  ·have i1:(p:Int)<y.ch:=zo;have i2:(0:Int)≤(p:Int):=zo;have HP0:=zh hp;have HM0:=zh hmm;clear hp hmm;have Bz:=zr wr;have pa7:=(zx HX0 Bz).cell 7 (.int .i64 y.kh) rfl;go_wp2_with fail
   have HB1:=zh (bT hB Bz);have HB2:=zh (bT hBW Bz);have HO1:=zh (ho.below Bz);clear hB hBW ho HX0 Bz;obtain⟨wo,hwo⟩:∃x:World,x=wr:=⟨_,rfl⟩;subst hwo;obtain⟨gk1,hgk1⟩:∃x:Nat,x=gk:=⟨_,rfl⟩;subst hgk1;go_loopg [9,23] y.kh.toNat (fun gk s9 s23 wr=>SPx w W y (fun i=>spotP y o row col p++spotI y o row col p i) y.kh.toNat gk s9 s23 wr)
   case atStart=>exact⟨0,k,Hd,_,O,rfl,rfl,uA _,aA _,HO1.out,by rw[HP0.out];exact(eF _).symm,HM0.out,HB1.out,HB2.out⟩
   case round =>
    clear HB1 HB2 HO1 HP0 HM0;obtain⟨i,k,Hd,hc,O,rfl,rfl,hin,hgi,ho,hp,hmm,hB,hBW⟩:=hrel;have HGI:=zh hgi;have HX0:=zh (XX0.out.below hBW);clear hgi;by_cases hlu:i<y.kh.toNat
    ·have j1:(i:Int)<y.kh:=zo;have j2:(0:Int)≤(i:Int):=zo;have HP0:=zh hp;have HM0:=zh hmm;clear hp hmm;have Bz:=zr wr;have pa8:=(zx HX0 Bz).cell 8 (.int .i64 y.kw) rfl;go_wp2_with fail
     have HB1:=zh (bT hB Bz);have HB2:=zh (bT hBW Bz);have HO1:=zh (ho.below Bz);clear hB hBW ho HX0 Bz;obtain⟨wo2,hwo⟩:∃x:World,x=wr:=⟨_,rfl⟩;subst hwo;obtain⟨gk2,hgk2⟩:∃x:Nat,x=gk:=⟨_,rfl⟩;subst hgk2;go_loopg [9,28] y.kw.toNat (fun gk s9 s28 wr=>SPx w W y (fun j=>(spotP y o row col p++spotI y o row col p i)++spotJ y o row col p i j) y.kw.toNat gk s9 s28 wr)
     case atStart=>exact⟨0,k,Hd,_,O,rfl,rfl,uA _,aA _,HO1.out,by rw[HP0.out];exact(eF _).symm,HM0.out,HB1.out,HB2.out⟩
     case round =>
      clear HB1 HB2 HO1 HP0 HM0;obtain⟨j,k,Hd,hc,O,rfl,rfl,hjn,hgj,ho,hp,hmm,hB,hBW⟩:=hrel;have HX0:=zh (XX0.out.below hBW);have HP:=zh hp;have HMM:=zh hmm;clear hp hmm;by_cases hlj:j<y.kw.toNat
      ·have k1:(j:Int)<y.kw:=zo;have k2:(0:Int)≤(j:Int):=zo;have u1:IntKind.i64.wrap (row+(i:Int))=row+(i:Int):=IntWalk.i64_in _ zo;have u2:IntKind.i64.wrap (col+(j:Int))=col+(j:Int):=IntWalk.i64_in _ zo;by_cases g0:row+(i:Int)<0
       ·have HP2:Hid (prs O=(spotP y o row col p++spotI y o row col p i)++spotJ y o row col p i (j+1)):=zh (by rw[spotJ_succ,spot1_no (.inl g0),eF];exact HP.out);have Bz:=zr wr;go_wp2_with fail
        go_roundg (y.kw.toNat-(j+1))
        case measure=>omega
        case rel=>exact⟨j+1,k,_,_,_,rfl,by go_num,zo,zo,OwnR.below ho,HP2.out,HMM.out,bT (bT hB Bz),bT (bT hBW Bz)⟩
       have n0:0≤row+(i:Int):=zo;by_cases g1:y.high≤row+(i:Int)
       ·have HP2:Hid (prs O=(spotP y o row col p++spotI y o row col p i)++spotJ y o row col p i (j+1)):=zh (by rw[spotJ_succ,spot1_no (.inr (.inl g1)),eF];exact HP.out);have Bz:=zr wr;have pa4:=(zx HX0 Bz).cell 4 (.int .i64 y.high) rfl;go_wp2_with fail
        go_roundg (y.kw.toNat-(j+1))
        case measure=>omega
        case rel=>exact⟨j+1,k,_,_,_,rfl,by go_num,zo,zo,OwnR.below ho,HP2.out,HMM.out,bT (bT hB Bz),bT (bT hBW Bz)⟩
       have n1:row+(i:Int)<y.high:=zo;by_cases g2:col+(j:Int)<0
       ·have HP2:Hid (prs O=(spotP y o row col p++spotI y o row col p i)++spotJ y o row col p i (j+1)):=zh (by rw[spotJ_succ,spot1_no (.inr (.inr (.inl g2))),eF];exact HP.out);have Bz:=zr wr;have pa4:=(zx HX0 Bz).cell 4 (.int .i64 y.high) rfl;go_wp2_with fail
        go_roundg (y.kw.toNat-(j+1))
        case measure=>omega
        case rel=>exact⟨j+1,k,_,_,_,rfl,by go_num,zo,zo,OwnR.below ho,HP2.out,HMM.out,bT (bT hB Bz),bT (bT hBW Bz)⟩
       have n2:0≤col+(j:Int):=zo;by_cases g3:y.wide≤col+(j:Int)
       ·have HP2:Hid (prs O=(spotP y o row col p++spotI y o row col p i)++spotJ y o row col p i (j+1)):=zh (by rw[spotJ_succ,spot1_no (.inr (.inr (.inr g3))),eF];exact HP.out);have Bz:=zr wr;obtain⟨-,-,-,-,pa4,pa5,-⟩:=(zx HX0 Bz).cz;go_wp2_with fail
        go_roundg (y.kw.toNat-(j+1))
        case measure=>omega
        case rel=>exact⟨j+1,k,_,_,_,rfl,by go_num,zo,zo,OwnR.below ho,HP2.out,HMM.out,bT (bT hB Bz),bT (bT hBW Bz)⟩
       have n3:col+(j:Int)<y.wide:=zo;obtain⟨eb,offe,he,hel⟩:=HK.out.at Fr.cs_len zo (by have:=HS.out.num;have:=HIX.out;have:=(idx3 (j:=(j:Int)) ho0 hsd.1.1 hsd.2.2.2.2.1.1 hsd.2.2.2.2.2.1.1 i2 i1 j2 j1 k2 k1 (HS.out.kn ho0 ho1)).2.2.2.2.2;omega);obtain⟨b1,b2,b3,b4,b5,b6,b7⟩:=idx3 ho0 hsd.1.1 hsd.2.2.2.2.1.1 hsd.2.2.2.2.2.1.1 i2 i1 j2 j1 k2 k1 (HS.out.kn ho0 ho1);obtain⟨d1,d2,d3,d4⟩:=idx2 i2 hsd.2.1.1 hsd.2.2.1.1 n0 n1 n2 n3 (HS.out.place i2 i1);obtain⟨z,hz⟩:∃z,z=((o*y.ch+(p:Int))*y.kh+(i:Int))*y.kw+(j:Int):=⟨_,rfl⟩;obtain⟨x,hx⟩:∃x,y.kern[(((o*y.ch+(p:Int))*y.kh+(i:Int))*y.kw+(j:Int)).toNat]?=some x:=⟨y.kern[(((o*y.ch+(p:Int))*y.kh+(i:Int))*y.kw+(j:Int)).toNat]'(by rw[HK.out.1];omega),cA _⟩;have hnd:=hel _ x hx;have HXM:=zh (eA hx);have HP2:Hid (prs (O++[⟨((p:Int)*y.high+(row+(i:Int)))*y.wide+(col+(j:Int)),x⟩])=(spotP y o row col p++spotI y o row col p i)++spotJ y o row col p i (j+1)):=zh (by rw[spotJ_succ,spot1_yes n0 n1 n2 n3 hx,prs_append,HP.out,←rE];rfl);have hk40:k≤100000:=by
        have h1:O.length=(spotP y o row col p++spotI y o row col p i++spotJ y o row col p i j).length:=by rw[←prs_len];exact congrArg List.length HP.out
        rw[ho.eltn elt_term zo,eD,eD] at h1;have h2:=spotP_len y o row col p;have h3:=spotI_len y o row col p i;have h4:=spotJ_len y o row col p i j;have h5:=HS.out.each;have h6:=fB (y.kh.toNat*y.kw.toNat) (show p+1≤y.ch.toNat by omega);have h7:=fB y.kw.toNat (show i+1≤y.kh.toNat by omega);rw[eG] at h6 h7;omega
       have v1:IntKind.i64.wrap (o*y.ch)=o*y.ch:=IntWalk.i64_in _ zo;have v2:IntKind.i64.wrap (o*y.ch+(p:Int))=o*y.ch+(p:Int):=IntWalk.i64_in _ zo;have v3:IntKind.i64.wrap ((o*y.ch+(p:Int))*y.kh)=(o*y.ch+(p:Int))*y.kh:=IntWalk.i64_in _ zo;have v4:IntKind.i64.wrap ((o*y.ch+(p:Int))*y.kh+(i:Int))=(o*y.ch+(p:Int))*y.kh+(i:Int):=IntWalk.i64_in _ zo;have v5:IntKind.i64.wrap (((o*y.ch+(p:Int))*y.kh+(i:Int))*y.kw)=((o*y.ch+(p:Int))*y.kh+(i:Int))*y.kw:=IntWalk.i64_in _ zo;have v6:IntKind.i64.wrap (((o*y.ch+(p:Int))*y.kh+(i:Int))*y.kw+(j:Int))=((o*y.ch+(p:Int))*y.kh+(i:Int))*y.kw+(j:Int):=IntWalk.i64_in _ zo;have v7:IntKind.i64.wrap ((p:Int)*y.high)=(p:Int)*y.high:=IntWalk.i64_in _ zo;have v8:IntKind.i64.wrap ((p:Int)*y.high+(row+(i:Int)))=(p:Int)*y.high+(row+(i:Int)):=IntWalk.i64_in _ zo;have v9:IntKind.i64.wrap (((p:Int)*y.high+(row+(i:Int)))*y.wide)=((p:Int)*y.high+(row+(i:Int)))*y.wide:=IntWalk.i64_in _ zo;have v10:IntKind.i64.wrap (((p:Int)*y.high+(row+(i:Int)))*y.wide+(col+(j:Int)))=((p:Int)*y.high+(row+(i:Int)))*y.wide+(col+(j:Int)):=IntWalk.i64_in _ zo;have z0:(0:Int)≤((o*y.ch+(p:Int))*y.kh+(i:Int))*y.kw+(j:Int):=b6;have z1:((o*y.ch+(p:Int))*y.kh+(i:Int))*y.kw+(j:Int)<(y.kn:Int):=b7;replace HX0:Hid (Bx wr w.heap.size #[.int .u8 y.kind,.slice y.rA y.rn y.rc,.slice y.bA y.bn y.bc,.int .i64 y.ch,.int .i64 y.high,.int .i64 y.wide,.int .i64 y.out,.int .i64 y.kh,.int .i64 y.kw,.int .i64 y.st,.int .i64 y.pad,.slice (some ⟨eb,offe,none⟩) y.kn y.kc,.slice y.gA y.gn y.gc] 55):=zh (by rw[←he];exact HX0.out);clear he hel hx b1 b2 b3 b4 b5 b6 b7 d1 d2 d3 d4;have Bz:=zr wr;obtain⟨-,-,-,pa3,pa4,pa5,-,pa7,pa8,-,-,pab,-⟩:=(zx HX0 Bz).cz;obtain⟨pA0,pA1,pA2,pA3,-⟩:=(hnd.below (bT hB Bz)).ez;go_upto_region 14 with(fail)
       obtain⟨V31,hW,x1,hN⟩:=zAb wr #[.bool x.s,.slice x.A x.l x.c,.bool x.s',.slice x.A' x.l' x.c'] 47;rw[←hW];clear hW;obtain⟨v1,hb1⟩:=ze wr.heap.size;rw[←hb1] at x1 ⊢;have o0_1:w.heap.size<v1:=zi (zx HX0 Bz).lt;have ow_1:w.heap.size≤v1:=zi (zw hB Bz);have nv1_own:=OwnR.off' (b:=v1) ho zo;replace ho:=ho.below hN;replace hB:=bT (bT hB Bz) hN;replace hBW:=bT (bT hBW Bz) hN;replace HX0:=zba HX0 Bz hN;have HX1:=zh x1;clear x1 hN Bz hb1;have Bz:=zr V31;clear pa3 pa4 pa5 pa7 pa8 pab pA0 pA1 pA2 pA3;obtain⟨-,-,-,-,pa4,pa5,-⟩:=(zx HX0 Bz).cz;obtain⟨pb0,pb1,pb2,pb3,-⟩:=(zx HX1 Bz).cz;go_wp2_with (at_builtin;refine And.left (b:=True) ?_)
       refine⟨?_,trivial⟩;obtain⟨V32,hW,x2,hN⟩:=zAb V31 #[.int .i64 (((p:Int)*y.high+(row+(i:Int)))*y.wide+(col+(j:Int))),.bool x.s,.slice x.A x.l x.c,.bool x.s',.slice x.A' x.l' x.c'] 60;rw[←hW];clear hW;obtain⟨v2,hb2⟩:=ze V31.heap.size;rw[←hb2] at x2 ⊢;have o0_2:w.heap.size<v2:=zi (zx HX0 Bz).lt;have o1_2:v1<v2:=zi (zx HX1 Bz).lt;have ow_2:w.heap.size≤v2:=zi (zw hB Bz);have nv2_own:=OwnR.off' (b:=v2) ho zo;replace ho:=ho.below hN;replace hB:=bT (bT hB Bz) hN;replace hBW:=bT (bT hBW Bz) hN;replace HX0:=zba HX0 Bz hN;replace HX1:=zba HX1 Bz hN;have HX2:=zh x2;clear x2 hN Bz hb2;have Bz:=zr V32;clear pa4 pa5 pb0 pb1 pb2 pb3;have hdr:V32.drew.heap.size=V32.heap.size:=rfl;have hdr2:V32.drew.drew.heap.size=V32.heap.size:=rfl;refine Elt.app elt_term rfl (.tmp 75) (.tmp 89) rfl (W.heap.size) (.slice Hd k hc) (k) (O) rfl ho (.slice (some ⟨v2,0,none⟩) 1 1) (1) ([⟨((p:Int)*y.high+(row+(i:Int)))*y.wide+(col+(j:Int)),x⟩]) rfl (From.one (HX2.out.below (bT Bz)) (⟨((p:Int)*y.high+(row+(i:Int)))*y.wide+(col+(j:Int)),x⟩) rfl (elt_term.len _)) zo (zj hBW.size Bz.size) ?_;intro H31 c31 w31 ho31 hg31;replace hB:=(bT (bT hB Bz)).trans (hg31.below (zi (zw hB Bz)) (fun g hg=>by have:=ho.base g hg;omega));replace hBW:=(bT (bT hBW Bz)).trans (hg31.below (zj hBW.size Bz.size) (fun g hg=>by have:=ho.base g hg;omega));replace HX0:=zh (hg31.bx (zx HX0 Bz) (ho.off zo));clear HX1;clear HX2;clear hdr hdr2;clear hg31 Bz;have Bz:=zr w31;go_wp2_with fail
       go_roundg (y.kw.toNat-(j+1))
       case measure=>omega
       case rel=>exact⟨j+1,k+1,_,_,_,rfl,by go_num,zo,zo,OwnR.below ho31,HP2.out,fun t ht=>(uD.1 ht).elim (HMM.out t) fun h=>by obtain rfl:=uC.1 h;exact HXM.out,bT (bT hB Bz),bT (bT hBW Bz)⟩
      ·obtain rfl:j=y.kw.toNat:=zo;have k1:¬((y.kw.toNat:Nat):Int)<y.kw:=zo;have HP2:Hid (prs O=spotP y o row col p++spotI y o row col p (i+1)):=zh (by rw[spotI_succ,←rE];exact HP.out);go_wp2_with fail
       go_roundg (y.kh.toNat-(i+1))
       case measure=>have:=HGI.out;omega
       case rel=>exact⟨i+1,k,_,_,O,rfl,by go_num,zo,zo,ho.below (by go_grown),HP2.out,HMM.out,bT hB,bT hBW⟩
    ·obtain rfl:i=y.kh.toNat:=zo;have j1:¬((y.kh.toNat:Nat):Int)<y.kh:=zo;have HP2:Hid (prs O=spotP y o row col (p+1)):=zh (by rw[spotP_succ];exact hp);have HMM:=zh hmm;clear hp hmm;go_wp2_with fail
     go_roundg (y.ch.toNat-(p+1))
     case measure=>have:=HGK.out;omega
     case rel=>exact⟨p+1,k,_,_,O,rfl,by go_num,zo,zo,ho.below (by go_grown),HP2.out,HMM.out,bT hB,bT hBW⟩
  ·obtain rfl:p=y.ch.toNat:=zo;have i1:¬((y.ch.toNat:Nat):Int)<y.ch:=zo;have hol:=ho.eltn elt_term zo;have hkl:k*(m+2)≤160:=by
    have h1:O.length=(spotP y o row col y.ch.toNat).length:=by rw[←prs_len];exact congrArg List.length hp
    rw[hol] at h1;have h2:=spotP_len y o row col y.ch.toNat;have h3:=HS.out.each;have h4:k≤40:=zo;exact wA (xE h4 (show m+2≤4 by omega)) zd
   have hgv:=spot_gv ho hp hmm HKO.out hB hkl;have hkn:k≤1000000:=by
    have:=aC k (show 1≤m+2 by omega);omega
   have hnq:=normO_q hgv zo hkn (zh (hT.out.below hB));clear hgv hol ho hp hmm;go_wp2_with fail
   with_reducible refine hnq.mono ?_
   rintro e w3 ⟨A3,n3,c3,L3,rfl,h3,h4,h5,b3⟩;have H3:=zh (h3.vnu h4 h5 b3.size);clear h3 h4 h5 hnq;go_wp2_with fail
   go_ret
   exact⟨A3,n3,c3,L3,rfl,(H3.out).wide hB.size (aA _) (aA _),bT hB b3⟩
def boxB (n:Int) (L U:List Rat):Bool:=decide ((L.length:Int)=n)&&(decide ((U.length:Int)=n)&&(L.zip U).all fun p=>decide (p.1≤p.2))
theorem boxB_low {n:Int} {L U:List Rat} (h:(L.length:Int)≠n):boxB n L U=false:=by unfold boxB;rw[yA h];rfl
theorem boxB_high {n:Int} {L U:List Rat} (h:(U.length:Int)≠n):boxB n L U=false:=by unfold boxB;rw[yA h,Bool.false_and,Bool.and_false]
theorem boxB_out {n:Int} {L U:List Rat} {i:Nat} {x y:Rat} (hx:L[i]?=some x) (hy:U[i]?=some y) (h:y<x):boxB n L U=false:=by
 have h1:((L.zip U).all fun p=>decide (p.1≤p.2))=false:=by
  rw[List.all_eq_false];refine⟨(x,y),eA (i:=i) (by rw[wF];exact⟨hx,hy⟩),by
   show ¬decide (x≤y)=true
   rw[wB];exact Rat.not_le.2 h⟩
 unfold boxB
 rw[h1,Bool.and_false,Bool.and_false]
theorem boxB_yes {n:Int} {L U:List Rat} (h1:(L.length:Int)=n) (h2:(U.length:Int)=n) (h:∀(i:Nat) x y,L[i]?=some x→U[i]?=some y→x≤y):boxB n L U=true:=by
 unfold boxB
 rw[jA h1,jA h2,Bool.true_and,Bool.true_and,sB];intro p hp;obtain⟨i,hi⟩:=nE hp;rw[wF] at hi;exact jA (h i _ _ hi.1 hi.2)
theorem boxB_len {n:Int} {L U:List Rat} (h:boxB n L U=true):(L.length:Int)=n∧(U.length:Int)=n∧∀(i:Nat) x y,L[i]?=some x→U[i]?=some y→x≤y:=by
 unfold boxB at h
 rw[dB,dB,wB,wB,sB] at h;exact⟨h.1,h.2.1,fun i x y hx hy=>of_decide_eq_true (h.2.2 (x,y) (eA (i:=i) (by rw[wF];exact⟨hx,hy⟩)))⟩
def BX1 (w:World) (L U:List Fr) (n gk:Nat) (s:Value) (wr:World):Prop:=∃i:Nat,i≤n∧n-i=gk∧s=.int .i64 (i:Int)∧Below w.heap.size w wr∧∀j,j<i→∀x y,L[j]?=some x→U[j]?=some y→x.q≤y.q
theorem boxed_q {w:World} {n:Int} {m:Nat} {A B:Option Addr} {la ca lb cb:Nat} {L U:List Fr} (h:Sl Fr.cs 4 w A la ca L) (h':Sl Fr.cs 4 w B lb cb U) (hf:Hid (∀x∈L,FrOk w m x)) (hf':Hid (∀x∈U,FrOk w m x)) (hm:m≤20000) (hn:la≤1000000∧lb≤1000000) (r:Bool) (hr:Hid (boxB n (L.map fun x=>x.q) (U.map fun x=>x.q)=r)) (_hT:Hid (Tab w)) :
  Calls Tryz.prog 19 #[.int .i64 n,.slice A la ca,.slice B lb cb] w fun e w'=>e=.returned (.bool r)∧Below w.heap.size w w':=by
 have HS:=zh h;have HS':=zh h';have HL:=zh h.1;have HU:=zh h'.1;clear h h';by_cases n1:(la:Int)≠n
 ·obtain rfl:r=false:=by rw[←hr.out];exact boxB_low (by rw[nA,HL.out];exact n1)
  have g1:((la:Int) != n)=true:=by simpa using n1
  clear n1 hr;have hB:=Below.refl w.heap.size w;have Bz:=zr w;go_enter Tryz.func19,Tryz.ntmps19
  go_wp2_with fail
  go_ret
  have hF:=bT (c:=w) hB Bz;exact⟨rfl,bT hF⟩
 have n1':(la:Int)=n:=Decidable.not_not.1 n1;by_cases n2:(lb:Int)≠n
 ·obtain rfl:r=false:=by rw[←hr.out];exact boxB_high (by rw[nA,HU.out];exact n2)
  have g1:((la:Int) != n)=false:=by simpa using n1'
  have g2:((lb:Int) != n)=true:=by simpa using n2
  clear n1 n2 hr;have hB:=Below.refl w.heap.size w;have Bz:=zr w;go_enter Tryz.func19,Tryz.ntmps19
  go_wp2_with fail
  go_ret
  have hF:=bT (c:=w) hB Bz;exact⟨rfl,bT hF⟩
 have n2':(lb:Int)=n:=Decidable.not_not.1 n2;have g1:((la:Int) != n)=false:=by simpa using n1'
 have g2:((lb:Int) != n)=false:=by simpa using n2'
 have hlab:lb=la:=zo;subst hlab;clear n1 n2;go_enter Tryz.func19,Tryz.ntmps19
 go_wp2_with fail
 go_loopg [20] lb (fun gk s wr=>BX1 w L U lb gk s wr)
 case atStart=>exact⟨0,uA _,rfl,rfl,Below.refl _ _,fun j hj=>absurd hj (mF j)⟩
 case round =>
  obtain⟨i,hi,hgk,rfl,hB,hall⟩:=hrel;have HGK:=zh hgk;have HAL:=zh hall;clear hgk hall;by_cases hlt:i<lb
  ·obtain⟨b,off,rfl,hel⟩:=HS.out.at Fr.cs_len zo zo;obtain⟨b',off',rfl,hel'⟩:=HS'.out.at Fr.cs_len zo zo;obtain⟨x,hx⟩:∃x,L[i]?=some x:=⟨L[i]'(by rw[HL.out];exact hlt),cA _⟩;obtain⟨y,hy⟩:∃y,U[i]?=some y:=⟨U[i]'(by rw[HU.out];exact hlt),cA _⟩;have hnd:=hel i x hx;have hnd':=hel' i y hy;have hxr:=(hf.out x (eA hx)).r.below hB;have hyr:=(hf'.out y (eA hy)).r.below hB;have HX:=zh hx;have HY:=zh hy;have i1:(i:Int)<(lb:Int):=zo;have i2:(0:Int)≤(i:Int):=zo;clear hel hel' hx hy;obtain⟨z,HZ⟩:∃z,Hid (cmpQ x.q y.q=z):=⟨_,zh rfl⟩;by_cases hc:0<z
   ·obtain rfl:r=false:=by rw[←hr.out];exact boxB_out (i:=i) (by rw[mA,HX.out];rfl) (by rw[mA,HY.out];rfl) ((cmpQ_gt _ _).1 (HZ.out ▸ hc))
    clear hr;have Bz:=zr wr;obtain⟨pA0,pA1,pA2,pA3,-⟩:=(hnd.below (bT hB Bz)).ez;obtain⟨pB0,pB1,pB2,pB3,-⟩:=(hnd'.below (bT hB Bz)).ez;go_wp2_with fail
    (try simp only[vAa,vBa,vC])
    refine zl (zz [0,1,2,3,4,5,6,7] (.only 8 (.take 9 .done))) [] (zsa pA0 (zsa pA1 (zsa pA2 (zsa pA3 (zsa pB0 (zsa pB1 (zsa pB2 (zIa pB3)))))))) ?_;iterate 8 (refine zUa ?_;try simp only[uW,uX,uY,uZ])
    refine zC 31 rfl rfl (fun K hK=>?_);go_simp
    with_reducible refine(cmp_q (R.below hxr) (R.below hyr) zo z HZ).mono ?_
    rintro e w11 ⟨rfl,J⟩;replace J:=zq (a:=wr) J;replace Bz:=bT Bz J;clear J;clear pA0 pA1 pA2 pA3 pB0 pB1 pB2 pB3;obtain⟨pA0,pA1,pA2,pA3,-⟩:=(hnd.below (bT hB Bz)).ez;obtain⟨pB0,pB1,pB2,pB3,-⟩:=(hnd'.below (bT hB Bz)).ez;refine hK.out _ _ ⟨pA0,pA1,pA2,pA3,pB0,pB1,pB2,pB3⟩ (fun _=>?_);try simp only[uW,uX,uY,uZ]
    clear hK K;refine zUa ?_;try simp only[uW,uX,uY,uZ]
    refine wpPlan_done ?_;go_wp2_with fail
    go_ret
    have hF:=bT (c:=w11) hB Bz;exact⟨rfl,bT hB (bT Bz)⟩
   ·have hok:∀j,j<i+1→∀u v,L[j]?=some u→U[j]?=some v→u.q≤v.q:=fun j hj u v hu hv=>by
     rcases eB j i with h1 | h1
     ·exact HAL.out j h1 u v hu hv
     ·obtain rfl:j=i:=zo;rw[HX.out] at hu;rw[HY.out] at hv;cases hu;cases hv;exact Rat.not_lt.1 fun h=>hc (HZ.out ▸ (cmpQ_gt _ _).2 h)
    have Bz:=zr wr;obtain⟨pA0,pA1,pA2,pA3,-⟩:=(hnd.below (bT hB Bz)).ez;obtain⟨pB0,pB1,pB2,pB3,-⟩:=(hnd'.below (bT hB Bz)).ez;go_wp2_with fail
    (try simp only[vAa,vBa,vC])
    refine zl (zz [0,1,2,3,4,5,6,7] (.only 8 (.take 9 .done))) [] (zsa pA0 (zsa pA1 (zsa pA2 (zsa pA3 (zsa pB0 (zsa pB1 (zsa pB2 (zIa pB3)))))))) ?_;iterate 8 (refine zUa ?_;try simp only[uW,uX,uY,uZ])
    refine zC 31 rfl rfl (fun K hK=>?_);go_simp
    with_reducible refine(cmp_q (R.below hxr) (R.below hyr) zo z HZ).mono ?_
    rintro e w11 ⟨rfl,J⟩;replace J:=zq (a:=wr) J;replace Bz:=bT Bz J;clear J;clear pA0 pA1 pA2 pA3 pB0 pB1 pB2 pB3;obtain⟨pA0,pA1,pA2,pA3,-⟩:=(hnd.below (bT hB Bz)).ez;obtain⟨pB0,pB1,pB2,pB3,-⟩:=(hnd'.below (bT hB Bz)).ez;refine hK.out _ _ ⟨pA0,pA1,pA2,pA3,pB0,pB1,pB2,pB3⟩ (fun _=>?_);try simp only[uW,uX,uY,uZ]
    clear hK K;refine zUa ?_;try simp only[uW,uX,uY,uZ]
    refine wpPlan_done ?_;go_wp2_with fail
    go_roundg (lb-(i+1))
    case measure=>have:=HGK.out;omega
    case rel=>exact⟨i+1,zo,rfl,by go_num,bT (bT hB Bz),hok⟩
  ·obtain rfl:i=lb:=zo;obtain rfl:r=true:=by
    rw[←hr.out];refine boxB_yes (by rw[nA,HL.out];exact n2') (by rw[nA,HU.out];exact n2') fun j u v hu hv=>?_;rw[mA] at hu hv;cases e1:L[j]? with
    | none=>rw[e1] at hu;cases hu
    | some p =>
     cases e2:U[j]? with
     | none=>rw[e2] at hv;cases hv
     | some q =>
      rw[e1] at hu;rw[e2] at hv;cases hu;cases hv;exact HAL.out j (by have:=(dC.1 e1).1;rw[HL.out] at this;exact this) p q e1 e2
   have i1:¬(i:Int)<(i:Int):=zo;go_wp2_with fail
   go_ret
   exact⟨rfl,hB⟩
def NM1 (w:World) (L:List Int) (n gk:Nat) (s3 s7:Value) (wr:World):Prop :=
 ∃(i:Nat) (H:Option Addr) (hc:Nat) (O:List Fr),s3=.slice H i hc∧s7=.int .i64 (i:Int)∧i≤n∧n-i=gk∧OwnR wr w.heap.size 47 4 (.slice H i hc) i (flat Fr.cs O)∧AllRn wr 3 O∧(O.map fun x=>x.q)=(L.map fun z=>qof z 1).take i∧Below w.heap.size w wr
theorem num20_q {w:World} (z:Int) (hz:-1000000≤z∧z≤1000000) (hT:Hid (Tab w)):Calls Tryz.prog 35 #[.int .i64 z] w (TellsR w (qof z 1)):=by
 obtain⟨W,hW,x0,hB⟩:=zAb w #[.bool false,.slice none 0 0,.bool false,.slice none 0 0] 47;have HX0:=zh x0;clear x0;have Bz:=zr W;go_enter Tryz.func35,Tryz.ntmps35
 go_wp2_with fail
 rw[←hW];clear hW;go_wp2_with fail
 with_reducible refine(of_q z 1 (zh zo) (zh zo) (zt hT hB Bz)).mono ?_
 rintro e w1 ⟨s1,A1,c1,l1,s1r,A1r,c1r,l1r,rfl,h1,q⟩;replace q:=zq (a:=W) q;replace Bz:=bT Bz q;clear q;obtain⟨pa0,pa1,pa2,pa3,-⟩:=(zx HX0 Bz).cz;obtain⟨y0,fa0,fa1,fa2,fa3,-⟩:=(zx HX0 Bz).fz;go_wp2_with fail
 (try simp only[Exit.inBlock,Exit.then])
 refine bodyPost_ret (by simp[results,Tryz.results35,go_sem,pa0,pa1,pa2,pa3];try rfl) rfl ?_;obtain⟨V1,hW,x,kk,far,bel⟩:=store4 (.bool s1) (.slice A1 l1 c1) (.bool s1r) (.slice A1r l1r c1r) (zx HX0 Bz) nofun nofun nofun nofun;rw[←hW];clear hW;replace h1:=h1.k kk;replace hB:=bel w.heap.size w zo (bT hB Bz);replace HX0:=zh x;clear x kk far bel Bz;have Bz:=zr V1;have hF:=bT (c:=V1) hB Bz;exact⟨_,_,_,_,_,_,_,_,rfl,RN.below h1,bT hF⟩
theorem nums20_q {w:World} {A:Option Addr} {n c:Nat} {L:List Int} (h:Sl ics 1 w A n c L) (hz:Hid (∀z∈L,-1000000≤z∧z≤1000000)) (hn:n≤1000000) (hT:Hid (Tab w)) :
  Calls Tryz.prog 17 #[.slice A n c] w (OutR w n 3 (L.map fun z=>qof z 1)):=by
 have HS:=zh h;have HLN:=zh h.1;clear h;go_enter Tryz.func17,Tryz.ntmps17
 go_wp2_with fail
 go_loopg [3,7] n (fun gk s3 s7 wr=>NM1 w L n gk s3 s7 wr)
 case atStart=>exact⟨0,none,0,[],rfl,rfl,uA _,rfl,OwnR.nil _ _ _ _,(fun _ h=>by cases h),rfl,Below.refl _ _⟩
 case round =>
  obtain⟨i,H,hc,O,rfl,rfl,hi,hgk,ho,hrn,hqs,hB⟩:=hrel;have HGK:=zh hgk;clear hgk;by_cases hlt:i<n
  ·obtain⟨b,off,rfl,hel⟩:=HS.out.at ics_len zo zo;obtain⟨z,hx⟩:∃z,L[i]?=some z:=⟨L[i]'(by rw[HLN.out];exact hlt),cA _⟩;have hnd:ElA w b (off+i) (ics z):=by have:=hel i z hx;rwa [kC] at this
   have hzb:=hz.out z (eA hx);have hsq:sz (qof z 1)+1≤3:=by
    have:=sz_one (n:=z) (d:=1) zo zo zd;omega
   have HQS:Hid (∀r:Fr,r.q=qof z 1→((O++[r]).map fun x=>x.q)=(L.map fun z=>qof z 1).take (i+1)):=zh (fun r hr=>by
    rw[zAi (x:=qof z 1) (by rw[mA,hx];rfl),cF,hqs,←hr];rfl)
   have i1:(i:Int)<(n:Int):=zo;have i2:(0:Int)≤(i:Int):=zo;clear hel hx hqs;have Bz:=zr wr;have pA0:=(hnd.below (bT hB Bz)).c0 (u:=.int .i64 z) rfl;go_wp2_with fail
   with_reducible refine(num20_q z zo (zt hT hB Bz)).mono ?_
   rintro e w11 ⟨s11,A11,c11,l11,s11r,A11r,c11r,l11r,rfl,h11,j⟩;replace j:=zq (a:=wr) j;replace ho:=ho.below j;replace hrn:=hrn.below j;replace Bz:=bT Bz j;clear j;clear pA0;go_wp2_with (at_builtin;refine And.left (b:=True) ?_)
   refine⟨?_,trivial⟩;obtain⟨V11,hW,x0,hN⟩:=zAb w11 #[.bool s11,.slice A11 l11 c11,.bool s11r,.slice A11r l11r c11r] 47;rw[←hW];clear hW;obtain⟨v0,hb0⟩:=ze w11.heap.size;rw[←hb0] at x0 ⊢;have ow_0:w.heap.size≤v0:=zi (zw hB Bz);have nv0_own:=OwnR.off' (b:=v0) ho zo;replace h11:=h11.below hN;replace ho:=ho.below hN;replace hrn:=hrn.below hN;replace hB:=bT (bT hB Bz) hN;have HX0:=zh x0;clear x0 hN Bz hb0;have Bz:=zr V11;have hdr:V11.drew.heap.size=V11.heap.size:=rfl;have hdr2:V11.drew.drew.heap.size=V11.heap.size:=rfl;refine Elt.app elt_rat rfl (.tmp 10) (.tmp 16) rfl (w.heap.size) (.slice H i hc) (i) (O) rfl ho (.slice (some ⟨v0,0,none⟩) 1 1) (1) ([⟨s11,A11,c11,l11,s11r,A11r,c11r,l11r,qof z 1,true⟩]) rfl (From.one (HX0.out.below (bT Bz)) (⟨s11,A11,c11,l11,s11r,A11r,c11r,l11r,qof z 1,true⟩) rfl (elt_rat.len _)) zo (zi (zw hB Bz)) ?_;intro H12 c12 w12 ho12 hg12;replace hB:=(bT (bT hB Bz)).trans (hg12.below (zi (zw hB Bz)) (fun g hg=>by have:=ho.base g hg;omega));clear HX0;clear hdr hdr2;replace h11:=h11.k hg12.k;replace hrn:=hrn.k hg12.k;clear hg12 Bz;have Bz:=zr w12;go_wp2_with fail
   go_roundg (n-(i+1))
   case measure=>have:=HGK.out;omega
   case rel=>exact⟨i+1,_,_,_,rfl,by go_num,zo,rfl,OwnR.below ho12,AllRn.snoc1 (AllRn.below hrn) (AllRn.put (RN.below h11) hsq),HQS.out _ rfl,bT (bT hB Bz)⟩
  ·obtain rfl:i=n:=zo;have i1:¬(i:Int)<(i:Int):=zo;have HR:Hid (Rob wr w.heap.size wr.heap.size (fun u=>Sl Fr.cs 4 u H i hc O∧AllRn u 3 O)∧(O.map fun x=>x.q)=L.map fun z=>qof z 1):=zh (by
    rw[fA (by rw[nA,HLN.out];exact aA _)] at hqs;have h8:=ho.rob elt_rat (ho.eltn elt_rat zo);exact⟨⟨aA _,fun v hk hc=>⟨h8.on v hk hc,hrn.k hk⟩⟩,hqs⟩)
   clear ho hrn hqs;go_wp2_with fail
   go_ret
   exact⟨H,hc,O,rfl,HR.out.1,HR.out.2,hB⟩
end Go.Proofs.YtiondclbdgijbaaGreatDoor
