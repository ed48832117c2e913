import Derived.Test.YteggjbgbknkoiaaGreatDoorYMx2
import Derived.Test.YteggjbgbknkoiaaGreatDoorYSo6
set_option maxHeartbeats 4000000
set_option maxRecDepth 100000
namespace Go.Proofs.YteggjbgbknkoiaaGreatDoor
open Go.RowKit Tw
variable {L:List Fr} {y:Fr} {w':World} {K j:Nat} {T:List Tm} {x:Tm}
theorem elt_frs:Elt Fr.cs 4 49 30:=Elt.of (.agg #[.bool false,.slice none 0 0,.bool false,.slice none 0 0]) 64 Tryz.underlying49 (by kernel_rfl) zo (by kernel_rfl) (nou_list (by kernel_rfl)) Fr.cs_len
 (fun x u hu=>by simp[Fr.cs] at hu;rcases hu with rfl | rfl | rfl | rfl<;>rfl) (fun x u hu n=>by simp[Fr.cs] at hu;rcases hu with rfl | rfl | rfl | rfl<;>simp)
theorem fr_zero {i:TypeInfo} {z:Value} (h:Tryz.prog.info? 30=some i) (hz:i.zero=some z):z.cells.toList=Fr.cs zFr:=by
 have h1:(Tryz.prog.info? 30).map (fun i=>i.zero)=some (some (.agg #[.bool false,.slice none 0 0,.bool false,.slice none 0 0])):=by kernel_rfl
 rw[h,dE,hz] at h1;obtain rfl:z=.agg #[.bool false,.slice none 0 0,.bool false,.slice none 0 0]:=by simpa using h1
 rfl
theorem fr_store {w:World} {B g n cap i:Nat} (h:OwnR w B 30 4 (.slice (some ⟨g,0,none⟩) n cap) n (flat Fr.cs L)) (hy:L[i]?=some y) (x:Fr) :
  ∃V,V=(((w.setCell ⟨g,i*4,none⟩ (.bool x.s)).setCell ⟨g,i*4+1,none⟩ (.slice x.A x.l x.c)).setCell ⟨g,i*4+2,none⟩ (.bool x.s')).setCell ⟨g,i*4+3,none⟩ (.slice x.A' x.l' x.c')∧
   OwnR V B 30 4 (.slice (some ⟨g,0,none⟩) n cap) n (flat Fr.cs (L.set i x))∧Grew w V (.slice (some ⟨g,0,none⟩) n cap) (.slice (some ⟨g,0,none⟩) n cap):=by
 have:=elt_frs.sets h hy (y:=x) [(0,.bool x.s),(1,.slice x.A x.l x.c),(2,.bool x.s'),(3,.slice x.A' x.l' x.c')] (fun p hp=>by simp at hp;rcases hp with rfl | rfl | rfl | rfl<;>exact⟨by simp,by simp⟩) rfl;exact⟨_,rfl,this⟩
theorem fr_0 {w:World} {B g n cap i:Nat} (h:OwnR w B 30 4 (.slice (some ⟨g,0,none⟩) n cap) n (flat Fr.cs L)) (hy:L[i]?=some y):w.cell? ⟨g,i*4,none⟩=some (.bool y.s) :=
 elt_frs.cell h hy (j:=0) (u:=.bool y.s) zo rfl
def AllFr (w:World) (K:Nat) (L:List Fr):Prop:=∀x∈L,FrOk w K x
theorem AllFr.below {w:World} (h:AllFr w K L) (hb:Below w.heap.size w w':=by go_grown):AllFr w' K L:=fun x hx=>(h x hx).below hb
theorem AllFr.k {w:World} (h:AllFr w K L) (hb:K64 w w'):AllFr w' K L:=fun x hx=>(h x hx).k hb
theorem AllFr.set {w:World} (h:AllFr w K L) (i:Nat) {x:Fr} (hx:FrOk w K x):AllFr w K (L.set i x):=fun y hy=>by
 rcases vD hy with hy | rfl
 ·exact h y hy
 ·exact hx
def AllRn (w:World) (K:Nat) (L:List Fr):Prop:=∀x∈L,RN w x.s x.A x.c x.l x.s' x.A' x.c' x.l' x.q∧x.ex=true∧sz x.q+1≤K
theorem AllRn.below {w:World} (h:AllRn w K L) (hb:Below w.heap.size w w':=by go_grown):AllRn w' K L:=fun x hx=>⟨(h x hx).1.below hb,(h x hx).2⟩
theorem AllRn.k {w:World} (h:AllRn w K L) (hb:K64 w w'):AllRn w' K L:=fun x hx=>⟨(h x hx).1.k hb,(h x hx).2⟩
theorem AllRn.set {w:World} (h:AllRn w K L) (i:Nat) {x:Fr} (hx:RN w x.s x.A x.c x.l x.s' x.A' x.c' x.l' x.q∧x.ex=true∧sz x.q+1≤K):AllRn w K (L.set i x):=fun y hy=>by
 rcases vD hy with hy | rfl
 ·exact h y hy
 ·exact hx
theorem AllRn.put {w:World} {s s':Bool} {A A':Option Addr} {c l c' l':Nat} {q:Rat} (h:RN w s A c l s' A' c' l' q) (hs:sz q+1≤K):RN w s A c l s' A' c' l' q∧true=true∧sz q+1≤K:=⟨h,rfl,hs⟩
theorem AllRn.zeros (w:World) (m:Nat) (hK:2≤K):AllRn w K (List.replicate m zFr):=fun x hx=>by
 rw[List.eq_of_mem_replicate hx];refine⟨(zFr_ok w (m:=1) zo).rn.1 rfl,rfl,?_⟩;have:=sz_zero;show sz 0+1≤K
 omega
def denseF (P:List (Int×Rat)) (m:Nat):List Rat:=(List.range m).map fun(i:Nat)=>pget P (i:Int)
def DnsE (D:List Fr) (T:List Tm):Prop:=∀(i:Nat) y,D[i]?=some y→y.q=pget (prs T) (i:Int)
theorem DnsE.start (m:Nat):DnsE (List.replicate m zFr) []:=fun i y hy=>by rw[List.eq_of_mem_replicate (jA hy)];rfl
theorem dns_get (hx:T[j]?=some x) (a:Int):pget (prs (T.take (j+1))) a=pget (prs (T.take j)) a+if x.at_=a then x.x.q else 0:=by
 rw[take_snoc hx,prs_append,pget_append];congr 1
 exact pget_one (x.at_,x.x.q) a
theorem DnsE.skip {D:List Fr} (h:DnsE D (T.take j)) (hx:T[j]?=some x) (ho:x.at_<0∨(D.length:Int)≤x.at_):DnsE D (T.take (j+1)):=fun i y hy=>by
 have hi:=(aC.1 hy).1;rw[dns_get hx,tA zo,kD];exact h i y hy
theorem DnsE.step {D:List Fr} {a:Nat} (h:DnsE D (T.take j)) (hr:Rise (prs T)) (hx:T[j]?=some x) (ha:x.at_=(a:Int)) (hy:D[a]?=some y) (r:Fr) (hq:r.q=x.x.q):DnsE (D.set a r) (T.take (j+1)):=fun i z hz=>by
 have hal:=(aC.1 hy).1;by_cases e:i=a
 ·subst e;rw[List.getElem?_set_self hal,Option.some.injEq] at hz;subst hz;have h2:Rise (prs (T.take (j+1))):=by rw[←prs_take];exact List.Pairwise.sublist (List.take_sublist _ _) hr
  have h3:(x.at_,x.x.q)∈prs (T.take (j+1)):=by rw[take_snoc hx,prs_append];exact List.mem_append_right _ (kC.2 rfl)
  rw[←ha,h2.get h3,hq]
 ·rw[List.getElem?_set_ne (fun e2=>e e2.symm)] at hz;rw[dns_get hx,tA zo,kD];exact h i z hz
theorem DnsE.done {D:List Fr} {m:Nat} (h:DnsE D T) (hl:D.length=m):D.map (fun x=>x.q)=denseF (prs T) m:=by
 apply List.ext_getElem?
 intro i;unfold denseF
 rw[qC,qC];by_cases hi:i<m
 ·rw[List.getElem?_range hi,gA zo];simp only[dE]
  rw[h i _ (gA zo)]
 ·rw[uA zo,uA (by rw[List.length_range];omega)];rfl
theorem denseF_nrm (P:List (Int×Rat)) (m:Nat):denseF (nrm P) m=denseF P m:=by
 unfold denseF
 exact List.map_congr_left fun i _=>nrm_get P i
def TellsFs (w:World) (l:List Rat) (K:Nat) (e:Ending) (w':World):Prop:=∃A n c L,e=.returned (.slice A n c)∧Sl Fr.cs 4 w' A n c L∧AllRn w' K L∧L.map (fun x=>x.q)=l∧Below w.heap.size w w'
def TellsFsO (w:World) (m:Nat) (l:List Rat) (K:Nat) (e:Ending) (w':World):Prop:=∃g L,e=.returned (.slice (some ⟨g,0,none⟩) m m)∧OwnR w' w.heap.size 30 4 (.slice (some ⟨g,0,none⟩) m m) m (flat Fr.cs L)∧AllRn w' K L∧L.map (fun x=>x.q)=l∧Below w.heap.size w w'
theorem TellsFsO.s {w:World} {m:Nat} {l:List Rat} {e:Ending} (h:TellsFsO w m l K e w'):TellsFs w l K e w':=by
 obtain⟨g,L,h1,h2,h3⟩:=h;exact⟨_,_,_,L,h1,h2.sl' elt_frs (h2.eltn elt_frs zo),h3⟩
def DS1 (w:World) (g m M nm:Nat) (X:Value) (T:List Tm) (gk:Nat) (s:Value) (wr:World):Prop :=
 ∃(j:Nat) (D:List Fr),j≤nm∧nm-j=gk∧s=.int .i64 (j:Int)∧OwnR wr w.heap.size 30 4 (.slice (some ⟨g,0,none⟩) m m) m (flat Fr.cs D)∧OwnR wr w.heap.size 32 5 X nm (flat Tm.cs T)∧AllRn wr M D∧DnsE D (T.take j)∧OnT wr T (fun _=>M)∧Below w.heap.size w wr
theorem dense_no {w:World} {X:Option Addr} {nx cx:Nat} (k:Int) (g1:k<1):Calls Tryz.prog 18 #[.slice X nx cx,.int .i64 k] w fun e w'=>e=.returned (.slice none 0 0)∧Below w.heap.size w w':=by
 go_enter Tryz.func18,Tryz.ntmps18
 go_wp2_with fail
 go_ret
 exact⟨rfl,Below.refl _ _⟩
end Go.Proofs.YteggjbgbknkoiaaGreatDoor
