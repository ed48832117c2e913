/-
  Which networks and queries may be: Sizes, Check, Query. Written by wip/gen/sh10.py.
-/
import Derived.Test.YtfgbiccpecldfaaDoorYSh7
import Derived.Test.YtfgbiccpecldfaaDoorYRead
set_option maxHeartbeats 4000000
set_option maxRecDepth 100000
namespace Go.Proofs.YtfgbiccpecldfaaDoor
open Go.RowKit Tw
theorem TellsZs.er {w w':World} {e:Ending} {f:Except Int (List Int)} {k:Int} (h:TellsZs w f e w') (hf:f=.error k):e=.returned (.tuple #[.slice none 0 0,.int .i64 k])∧Below w.heap.size w w':=by subst hf;exact h
theorem TellsZs.ok {w w':World} {e:Ending} {f:Except Int (List Int)} {l:List Int} (h:TellsZs w f e w') (hf:f=.ok l):∃A n c,e=.returned (.tuple #[.slice A n c,.int .i64 0])∧Sl ics 1 w' A n c l∧n≤c∧Below w.heap.size w w':=by subst hf;exact h
theorem steps_err {L:List Ly}:∀{n s k:Int},stepsF L n s=.error k→k=22∨k=25:=by
 induction L with
 | nil=>intro n s k h;cases h
 | cons y L ih =>
  intro n s k h
  rw[steps_cons] at h
  split at h
  ·cases h;exact .inl rfl
  ·split at h
   ·cases h;exact .inr rfl
   ·split at h
    ·cases h;exact .inr rfl
    ·rename_i u t _ _ _
     cases hs:stepsF L u (s+t) with
     | error e=>rw[hs] at h;simp[Except.map] at h;subst h;exact ih hs
     | ok l=>rw[hs] at h;cases h
theorem sizes_err {inp k:Int} {L:List Ly} (h:zAc inp L=.error k):k=22∨k=25:=by
 unfold zAc at h
 (repeat' split at h)<;>first | (cases h;exact .inr rfl) | exact steps_err h
theorem steps_ok {L:List Ly}:∀{n s:Int} {l:List Int},stepsF L n s=.ok l→l.length=L.length+1∧l[0]?=some n:=by
 induction L with
 | nil=>intro n s l h;cases h;exact⟨rfl,rfl⟩
 | cons y L ih =>
  intro n s l h
  rw[steps_cons] at h
  split at h
  ·cases h
  ·split at h
   ·cases h
   ·split at h
    ·cases h
    ·rename_i u t _ _ _
     cases hs:stepsF L u (s+t) with
     | error e=>rw[hs] at h;cases h
     | ok l2=>rw[hs] at h;simp[Except.map] at h;subst h;exact⟨by simp[(ih hs).1],rfl⟩
theorem sizes_steps {inp:Int} {L:List Ly} {l:List Int} (h:zAc inp L=.ok l):1≤inp∧inp≤64∧L.length≤16∧stepsF L inp 0=.ok l:=by
 unfold zAc at h
 split at h
 ·cases h
 ·split at h
  ·cases h
  ·split at h
   ·cases h
   ·exact⟨by omega,by omega,by omega,h⟩
def checkF (i:Int) (L:List Ly):Int:=match zAc i L with | .error k=>k | .ok _=>0
def listF (i:Int) (L:List Ly):List Int:=match zAc i L with | .error _=>[] | .ok l=>l
def TellsL (w:World) (l:List Int) (e:Ending) (w':World):Prop:=∃A n c,e=.returned (.slice A n c)∧Sl ics 1 w' A n c l∧n≤c∧Below w.heap.size w w'
theorem Sizes_er {w:World} {m:Nat} {inp:Int} {lA:Option Addr} {ln lc:Nat} {L:List Ly} (h:Sl Ly.cs 13 w lA ln lc L) (hok:Hid (∀y∈L,LyOk w m y)) (hm:m≤20000) (hln:ln≤9223372036854775807) {z:Int} (HZ:Hid (zAc inp L=.error z)) (HA:Hid (listF inp L=[])) (hT:Hid (Tab w)) :
  Calls Tryd.prog 6 #[.agg #[.int .i64 inp,.slice lA ln lc]] w (TellsL w (listF inp L)):=by
 obtain⟨W,hW,x0,hB⟩:=zAb w #[.int .i64 inp,.slice lA ln lc] 30
 have HX0:=zh x0
 clear x0
 have Bz:=Below.refl W.heap.size W
 obtain⟨p0_0,p0_1,-⟩:=(zx HX0 Bz).cz
 go_enter Tryd.func6,Tryd.ntmps6
 go_wp2_with fail
 rw[←hW]
 clear hW
 go_wp2_with fail
 with_reducible refine((sizes_q (h.below (zAa hB (zAa (b:=W) Bz (by go_grown)))) (zh fun y hy=>(hok.out y hy).below (zAa hB (zAa (b:=W) Bz (by go_grown)))) hm hln (zh (Tab.below hT.out (zAa hB (zAa (b:=W) Bz (by go_grown)))))).mono fun _ _ hx=>TellsZs.er hx HZ.out).mono ?_
 rintro e w1 ⟨rfl,b1⟩
 replace b1:=zAa (a:=W) (by go_grown) b1
 replace Bz:=zAa Bz b1
 clear b1
 clear p0_0 p0_1
 go_wp2_with fail
 go_ret
 have hF:=zAa (c:=w1) hB Bz
 exact⟨_,_,_,rfl,by rw[HA.out];exact Sl.nil _,Nat.le_refl _,zAa hF (by go_grown)⟩
theorem Sizes_ok {w:World} {m:Nat} {inp:Int} {lA:Option Addr} {ln lc:Nat} {L:List Ly} (h:Sl Ly.cs 13 w lA ln lc L) (hok:Hid (∀y∈L,LyOk w m y)) (hm:m≤20000) (hln:ln≤9223372036854775807) {l:List Int} (HZ:Hid (zAc inp L=.ok l)) (HA:Hid (listF inp L=l)) (hT:Hid (Tab w)) :
  Calls Tryd.prog 6 #[.agg #[.int .i64 inp,.slice lA ln lc]] w (TellsL w (listF inp L)):=by
 obtain⟨W,hW,x0,hB⟩:=zAb w #[.int .i64 inp,.slice lA ln lc] 30
 have HX0:=zh x0
 clear x0
 have Bz:=Below.refl W.heap.size W
 obtain⟨p0_0,p0_1,-⟩:=(zx HX0 Bz).cz
 go_enter Tryd.func6,Tryd.ntmps6
 go_wp2_with fail
 rw[←hW]
 clear hW
 go_wp2_with fail
 with_reducible refine((sizes_q (h.below (zAa hB (zAa (b:=W) Bz (by go_grown)))) (zh fun y hy=>(hok.out y hy).below (zAa hB (zAa (b:=W) Bz (by go_grown)))) hm hln (zh (Tab.below hT.out (zAa hB (zAa (b:=W) Bz (by go_grown)))))).mono fun _ _ hx=>TellsZs.ok hx HZ.out).mono ?_
 rintro e w1 ⟨A1,n1,c1,rfl,h1,hc1,b1⟩
 replace b1:=zAa (a:=W) (by go_grown) b1
 replace Bz:=zAa Bz b1
 clear b1
 clear p0_0 p0_1
 go_wp2_with fail
 go_ret
 have hF:=zAa (c:=w1) hB Bz
 exact⟨_,_,_,rfl,by rw[HA.out];exact h1,hc1,zAa hF (by go_grown)⟩
theorem sizesT_q {w:World} {m:Nat} {inp:Int} {lA:Option Addr} {ln lc:Nat} {L:List Ly} (h:Sl Ly.cs 13 w lA ln lc L) (hok:Hid (∀y∈L,LyOk w m y)) (hm:m≤20000) (hln:ln≤9223372036854775807) (hT:Hid (Tab w)) :
  Calls Tryd.prog 6 #[.agg #[.int .i64 inp,.slice lA ln lc]] w (TellsL w (listF inp L)):=by
 cases hz:zAc inp L with
 | error z=>exact Sizes_er h hok hm hln (zh hz) (zh (by unfold listF;rw[hz])) hT
 | ok l=>exact Sizes_ok h hok hm hln (zh hz) (zh (by unfold listF;rw[hz])) hT
theorem Check_er {w:World} {m:Nat} {inp:Int} {lA:Option Addr} {ln lc:Nat} {L:List Ly} (h:Sl Ly.cs 13 w lA ln lc L) (hok:Hid (∀y∈L,LyOk w m y)) (hm:m≤20000) (hln:ln≤9223372036854775807) {z:Int} (HZ:Hid (zAc inp L=.error z)) (HA:Hid (checkF inp L=z)) (hT:Hid (Tab w)) :
  Calls Tryd.prog 5 #[.agg #[.int .i64 inp,.slice lA ln lc]] w fun e w'=>e=.returned (.int .i64 (checkF inp L))∧Below w.heap.size w w':=by
 obtain⟨W,hW,x0,hB⟩:=zAb w #[.int .i64 inp,.slice lA ln lc] 30
 have HX0:=zh x0
 clear x0
 have Bz:=Below.refl W.heap.size W
 obtain⟨p0_0,p0_1,-⟩:=(zx HX0 Bz).cz
 go_enter Tryd.func5,Tryd.ntmps5
 go_wp2_with fail
 rw[←hW]
 clear hW
 go_wp2_with fail
 with_reducible refine((sizes_q (h.below (zAa hB (zAa (b:=W) Bz (by go_grown)))) (zh fun y hy=>(hok.out y hy).below (zAa hB (zAa (b:=W) Bz (by go_grown)))) hm hln (zh (Tab.below hT.out (zAa hB (zAa (b:=W) Bz (by go_grown)))))).mono fun _ _ hx=>TellsZs.er hx HZ.out).mono ?_
 rintro e w1 ⟨rfl,b1⟩
 replace b1:=zAa (a:=W) (by go_grown) b1
 replace Bz:=zAa Bz b1
 clear b1
 clear p0_0 p0_1
 go_wp2_with fail
 go_ret
 have hF:=zAa (c:=w1) hB Bz
 exact⟨by rw[HA.out];rfl,zAa hF (by go_grown)⟩
theorem Check_ok {w:World} {m:Nat} {inp:Int} {lA:Option Addr} {ln lc:Nat} {L:List Ly} (h:Sl Ly.cs 13 w lA ln lc L) (hok:Hid (∀y∈L,LyOk w m y)) (hm:m≤20000) (hln:ln≤9223372036854775807) {l:List Int} (HZ:Hid (zAc inp L=.ok l)) (HA:Hid (checkF inp L=0)) (hT:Hid (Tab w)) :
  Calls Tryd.prog 5 #[.agg #[.int .i64 inp,.slice lA ln lc]] w fun e w'=>e=.returned (.int .i64 (checkF inp L))∧Below w.heap.size w w':=by
 obtain⟨W,hW,x0,hB⟩:=zAb w #[.int .i64 inp,.slice lA ln lc] 30
 have HX0:=zh x0
 clear x0
 have Bz:=Below.refl W.heap.size W
 obtain⟨p0_0,p0_1,-⟩:=(zx HX0 Bz).cz
 go_enter Tryd.func5,Tryd.ntmps5
 go_wp2_with fail
 rw[←hW]
 clear hW
 go_wp2_with fail
 with_reducible refine((sizes_q (h.below (zAa hB (zAa (b:=W) Bz (by go_grown)))) (zh fun y hy=>(hok.out y hy).below (zAa hB (zAa (b:=W) Bz (by go_grown)))) hm hln (zh (Tab.below hT.out (zAa hB (zAa (b:=W) Bz (by go_grown)))))).mono fun _ _ hx=>TellsZs.ok hx HZ.out).mono ?_
 rintro e w1 ⟨A1,n1,c1,rfl,h1,hc1,b1⟩
 replace b1:=zAa (a:=W) (by go_grown) b1
 replace Bz:=zAa Bz b1
 clear h1
 clear b1
 clear p0_0 p0_1
 go_wp2_with fail
 go_ret
 have hF:=zAa (c:=w1) hB Bz
 exact⟨by rw[HA.out];rfl,zAa hF (by go_grown)⟩
theorem checkT_q {w:World} {m:Nat} {inp:Int} {lA:Option Addr} {ln lc:Nat} {L:List Ly} (h:Sl Ly.cs 13 w lA ln lc L) (hok:Hid (∀y∈L,LyOk w m y)) (hm:m≤20000) (hln:ln≤9223372036854775807) (hT:Hid (Tab w)) :
  Calls Tryd.prog 5 #[.agg #[.int .i64 inp,.slice lA ln lc]] w fun e w'=>e=.returned (.int .i64 (checkF inp L))∧Below w.heap.size w w':=by
 cases hz:zAc inp L with
 | error z=>exact Check_er h hok hm hln (zh hz) (zh (by unfold checkF;rw[hz])) hT
 | ok l=>exact Check_ok h hok hm hln (zh hz) (zh (by unfold checkF;rw[hz])) hT
open Go.RowKit Tw
structure Fv where
 A:Option Addr
 n:Nat
 c:Nat
 L:List Fr
def Fv.cs (v:Fv):List Value:=[.slice v.A v.n v.c]
theorem Fv.cs_len (v:Fv):v.cs.length=1:=rfl
def FvOk (w:World) (m:Nat) (v:Fv):Prop:=Sl Fr.cs 4 w v.A v.n v.c v.L∧(∀x∈v.L,FrOk w m x)∧v.n≤100000
theorem FvOk.sl {w:World} {m:Nat} {v:Fv} (h:FvOk w m v):Sl Fr.cs 4 w v.A v.n v.c v.L:=h.1
theorem FvOk.fr {w:World} {m:Nat} {v:Fv} (h:FvOk w m v):∀x∈v.L,FrOk w m x:=h.2.1
theorem FvOk.below {w w':World} {m:Nat} {v:Fv} (h:FvOk w m v) (hb:Below w.heap.size w w'):FvOk w' m v:=⟨h.1.below hb,fun x hx=>(h.2.1 x hx).below hb,h.2.2⟩
def okV (inp:Int) (v:Fv):Bool:=decide ((v.n:Int)=inp)&&v.L.all (fun x=>x.ex)
structure Qy where
 xA:Option Addr
 xn:Nat
 xc:Nat
 X:List Fr
 label:Int
 oA:Option Addr
 on:Nat
 oc:Nat
 O:List Fr
 hA:Option Addr
 hn:Nat
 hc:Nat
 H:List Fr
 norm:Int
def Qy.x (q:Qy):Fv:=⟨q.xA,q.xn,q.xc,q.X⟩
def Qy.o (q:Qy):Fv:=⟨q.oA,q.on,q.oc,q.O⟩
def Qy.h (q:Qy):Fv:=⟨q.hA,q.hn,q.hc,q.H⟩
def Qy.cs (q:Qy):List Value:=[.slice q.xA q.xn q.xc,.int .i64 q.label,.slice q.oA q.on q.oc,.slice q.hA q.hn q.hc,.int .u8 q.norm]
structure QyOk (w:World) (m:Nat) (q:Qy):Prop where
 x:FvOk w m q.x
 o:FvOk w m q.o
 h:FvOk w m q.h
theorem QyOk.below {w w':World} {m:Nat} {q:Qy} (h:QyOk w m q) (hb:Below w.heap.size w w'):QyOk w' m q:=⟨h.x.below hb,h.o.below hb,h.h.below hb⟩
def boxP (p:Fr×Fr):Bool:=decide (¬0<cmpQ p.1.q p.2.q)
def boxB (q:Qy):Bool:=(q.O.zip q.H).all boxP
def okQ (inp:Int) (q:Qy):Bool:=okV inp q.x&&(okV inp q.o&&okV inp q.h)
def queryF (inp:Int) (L:List Ly) (q:Qy):Int :=
 match zAc inp L with
 | .error k=>k
 | .ok us=>if okQ inp q=false then 22 else if q.norm≠1∧q.norm≠2 then 22 else if boxB q=false then 23 else if q.label<0 then 24 else if us.getLastD 0≤q.label then 24 else 0
theorem query1_q {w:World} {m bn:Nat} {v:Fv} {inp:Int} {lA:Option Addr} {ln lc:Nat} (h:FvOk w m v) (hm:m≤20000) (xb:Bx w bn #[.int .i64 inp,.slice lA ln lc] 30) (r:Bool) (hr:Hid (okV inp v=r)) (hT:Hid (Tab w)) :
  Calls Tryd.prog 15 #[.slice v.A v.n v.c,.pointer (some ⟨bn,0,none⟩)] w fun e w'=>e=.returned (.bool r)∧Below w.heap.size w w':=by
 have hvn:=h.2.2
 by_cases h0:(v.n:Int)=inp
 ·have g0:((v.n:Int)==inp)=true:=by simpa using h0
  have HR:Hid (v.L.all (fun x=>x.ex)=r):=zh (by rw[←hr.out];unfold okV;rw[decide_eq_true h0,Bool.true_and])
  clear hr h0
  have HX0:=zh xb
  have hB:=Below.refl w.heap.size w
  have Bz:=Below.refl w.heap.size w
  have p0_0:=(zx HX0 Bz).cell 0 (.int .i64 inp) rfl
  go_enter Tryd.func15,Tryd.ntmps15
  go_wp2_with fail
  with_reducible refine(all_query11 (h.sl.below (zAa hB (zAa (b:=w) Bz (by go_grown)))) (zh fun x hx=>(h.fr x hx).below (zAa hB (zAa (b:=w) Bz (by go_grown)))) (by omega) (zh (Tab.below hT.out (zAa hB (zAa (b:=w) Bz (by go_grown))))) (by omega) r HR).mono ?_
  rintro e w1 ⟨rfl,b1⟩
  replace b1:=zAa (a:=w) (by go_grown) b1
  replace Bz:=zAa Bz b1
  clear b1
  clear p0_0
  go_wp2_with fail
  go_ret
  have hF:=zAa (c:=w1) hB Bz
  exact⟨rfl,zAa hF (by go_grown)⟩
 ·have g0:((v.n:Int)==inp)=false:=by simpa using h0
  obtain rfl:r=false:=by rw[←hr.out];unfold okV;rw[decide_eq_false h0,Bool.false_and]
  clear hr h0
  have HX0:=zh xb
  have hB:=Below.refl w.heap.size w
  have Bz:=Below.refl w.heap.size w
  have p0_0:=(zx HX0 Bz).cell 0 (.int .i64 inp) rfl
  go_enter Tryd.func15,Tryd.ntmps15
  go_wp2_with fail
  go_ret
  have hF:=zAa (c:=w) hB Bz
  exact⟨rfl,zAa hF (by go_grown)⟩
theorem all_rats {w:World} {A:Option Addr} {n c m bn:Nat} {L:List Fv} {inp:Int} {lA:Option Addr} {ln lc:Nat} (h:Sl Fv.cs 1 w A n c L) (hok:Hid (∀v∈L,FvOk w m v)) (hm:m≤20000) (hn:n≤1000000000) (xb:Bx w bn #[.int .i64 inp,.slice lA ln lc] 30) (r:Bool) (hr:Hid (L.all (okV inp)=r)) (hT:Hid (Tab w)) :
  Calls Tryd.prog 19 #[.slice A n c,.func (.func 15) #[] #[.pointer (some ⟨bn,0,none⟩)]] w fun e w'=>e=.returned (.bool r)∧Below w.heap.size w w':=by
 have H:=zh h
 have HLN:=zh h.1
 have HXB:=zh xb
 have hst:AL1 w L (okV inp) n n (.int .i64 ((0:Nat):Int)) w:=⟨0,Nat.zero_le _,rfl,rfl,Below.refl _ _,by simp⟩
 have HST:=zh hst
 clear h hst xb
 go_enter Tryd.func19,Tryd.ntmps19
 go_wp2_with fail
 go_loopg [9] n (fun gk s wr=>AL1 w L (okV inp) n gk s wr)
 case atStart=>exact HST.out
 case round =>
  clear HST
  obtain⟨i,hi,hgk,rfl,hB,hd⟩:=hrel
  have HGK:=zh hgk
  have HD:=zh hd
  clear hgk hd
  by_cases hlt:i<n
  ·obtain⟨b,off,rfl,hel⟩:=H.out.at Fv.cs_len (by omega) (by omega)
   obtain⟨x,hx⟩:∃x,L[i]?=some x:=⟨L[i]'(by rw[HLN.out];exact hlt),List.getElem?_eq_getElem _⟩
   have hnd:ElA w b (off+i) x.cs:=by have:=hel i x hx;rwa [Nat.mul_one] at this
   have HTI:=zh hx
   have HV:=zh (hok.out x (List.mem_of_getElem? hx))
   have i1:(i:Int)<(n:Int):=by omega
   have i2:(0:Int)≤(i:Int):=by omega
   clear hx hel
   cases hp:okV inp x
   ·have HP:=zh hp
    clear hp
    have Bz:=Below.refl wr.heap.size wr
    have p50_0:=(hnd.below (zAa hB Bz)).c0 (u:=.slice x.A x.n x.c) rfl
    go_wp2_with fail
    with_reducible refine(query1_q (HV.out.below (zAa hB (zAa (b:=wr) Bz (by go_grown)))) hm (HXB.out.below (zAa hB (zAa (b:=wr) Bz (by go_grown)))) false HP (zh (Tab.below hT.out (zAa hB (zAa (b:=wr) Bz (by go_grown)))))).mono ?_
    rintro e w1 ⟨rfl,b1⟩
    replace b1:=zAa (a:=wr) (by go_grown) b1
    replace Bz:=zAa Bz b1
    clear b1
    clear p50_0
    go_wp2_with fail
    go_ret
    have hF:=zAa (c:=w1) hB Bz
    obtain rfl:r=false:=by rw[←hr.out];exact all_no HTI.out HP.out
    exact⟨rfl,zAa (zAa hB Bz) (by go_grown)⟩
   ·have HP:=zh hp
    clear hp
    have Bz:=Below.refl wr.heap.size wr
    have p50_0:=(hnd.below (zAa hB Bz)).c0 (u:=.slice x.A x.n x.c) rfl
    go_wp2_with fail
    with_reducible refine(query1_q (HV.out.below (zAa hB (zAa (b:=wr) Bz (by go_grown)))) hm (HXB.out.below (zAa hB (zAa (b:=wr) Bz (by go_grown)))) true HP (zh (Tab.below hT.out (zAa hB (zAa (b:=wr) Bz (by go_grown)))))).mono ?_
    rintro e w1 ⟨rfl,b1⟩
    replace b1:=zAa (a:=wr) (by go_grown) b1
    replace Bz:=zAa Bz b1
    clear b1
    clear p50_0
    go_wp2_with fail
    go_roundg (n-(i+1))
    case measure=>have:=HGK.out;omega
    case rel=>exact⟨i+1,by omega,rfl,by go_num,zAa (zAa hB Bz) (by go_grown),take_all HD.out HTI.out HP.out⟩
  ·obtain rfl:i=n:=by omega
   have i1:¬(i:Int)<(i:Int):=by omega
   obtain rfl:r=true:=by rw[←hr.out];exact all_yes HLN.out HD.out
   go_wp2_with fail
   go_ret
   exact⟨rfl,hB⟩
theorem fvs_sl {w:World} {b:Nat} (L:List Fv) (h:Bx w b (L.map fun v=>Value.slice v.A v.n v.c).toArray 35) (n:Nat) (hn:L.length=n):Sl Fv.cs 1 w (some ⟨b,0,none⟩) n n L:=by
 subst hn
 refine⟨rfl,by rw[flat_len Fv.cs_len],_,_,rfl,(fun h=>(by cases h)),fun a ha j u hu=>?_⟩
 cases ha
 rw[add_off,Nat.zero_add]
 refine h.cell j u ?_
 rw[List.getElem?_toArray]
 have e:∀L:List Fv,flat Fv.cs L=L.map fun v=>Value.slice v.A v.n v.c:=fun L=>by
  unfold flat
  induction L with
  | nil=>rfl
  | cons x L ih=>rw[List.flatMap_cons,ih];rfl
 rw[←e];exact hu
def QU1 (w:World) (qc:Array Value) (Z:List (Fr×Fr)) (n gk:Nat) (s:Value) (wr:World):Prop:=∃i:Nat,i≤n∧n-i=gk∧s=.int .i64 (i:Int)∧Below w.heap.size w wr∧Bx wr (w.heap.size+1) qc 47∧(Z.take i).all boxP=true
theorem query_er {w:World} {m:Nat} {inp:Int} {lA:Option Addr} {ln lc:Nat} {L:List Ly} {q:Qy} (h:Sl Ly.cs 13 w lA ln lc L) (hok:Hid (∀y∈L,LyOk w m y)) (hm:m≤20000) (hln:ln≤9223372036854775807) (hq:QyOk w m q) {z:Int} (HZ:Hid (zAc inp L=.error z)) (g1:(z != 0)=true) (HA:Hid (queryF inp L q=z)) (hT:Hid (Tab w)) :
  Calls Tryd.prog 10 #[.agg #[.int .i64 inp,.slice lA ln lc],.agg #[.slice q.xA q.xn q.xc,.int .i64 q.label,.slice q.oA q.on q.oc,.slice q.hA q.hn q.hc,.int .u8 q.norm]] w fun e w'=>e=.returned (.int .i64 (queryF inp L q))∧Below w.heap.size w w':=by
 have hql:q.xn≤100000∧q.on≤100000∧q.hn≤100000:=⟨hq.x.2.2,hq.o.2.2,hq.h.2.2⟩
 obtain⟨W,hW,x0,x1,hB⟩:=boxes2 w #[.int .i64 inp,.slice lA ln lc] 30 #[.slice q.xA q.xn q.xc,.int .i64 q.label,.slice q.oA q.on q.oc,.slice q.hA q.hn q.hc,.int .u8 q.norm] 47
 have HX0:=zh x0
 have HX1:=zh x1
 clear x0 x1
 have Bz:=Below.refl W.heap.size W
 obtain⟨p0_0,p0_1,-⟩:=(zx HX0 Bz).cz
 go_enter Tryd.func10,Tryd.ntmps10
 go_wp2_with fail
 rw[←hW]
 clear hW
 go_wp2_with fail
 with_reducible refine((sizes_q (h.below (zAa hB (zAa (b:=W) Bz (by go_grown)))) (zh fun y hy=>(hok.out y hy).below (zAa hB (zAa (b:=W) Bz (by go_grown)))) hm hln (zh (Tab.below hT.out (zAa hB (zAa (b:=W) Bz (by go_grown)))))).mono fun _ _ hx=>TellsZs.er hx HZ.out).mono ?_
 rintro e w1 ⟨rfl,b1⟩
 replace b1:=zAa (a:=W) (by go_grown) b1
 replace Bz:=zAa Bz b1
 clear b1
 clear p0_0 p0_1
 go_wp2_with fail
 go_ret
 have hF:=zAa (c:=w1) hB Bz
 exact⟨by rw[HA.out];rfl,zAa hF (by go_grown)⟩
theorem query_sh {w:World} {m:Nat} {inp:Int} {lA:Option Addr} {ln lc:Nat} {L:List Ly} {q:Qy} (h:Sl Ly.cs 13 w lA ln lc L) (hok:Hid (∀y∈L,LyOk w m y)) (hm:m≤20000) (hln:ln≤9223372036854775807) (hq:QyOk w m q) {l:List Int} (HZ:Hid (zAc inp L=.ok l)) (HO:Hid ([q.x,q.o,q.h].all (okV inp)=false)) (HA:Hid (queryF inp L q=22)) (hT:Hid (Tab w)) :
  Calls Tryd.prog 10 #[.agg #[.int .i64 inp,.slice lA ln lc],.agg #[.slice q.xA q.xn q.xc,.int .i64 q.label,.slice q.oA q.on q.oc,.slice q.hA q.hn q.hc,.int .u8 q.norm]] w fun e w'=>e=.returned (.int .i64 (queryF inp L q))∧Below w.heap.size w w':=by
 have hql:q.xn≤100000∧q.on≤100000∧q.hn≤100000:=⟨hq.x.2.2,hq.o.2.2,hq.h.2.2⟩
 obtain⟨W,hW,x0,x1,hB⟩:=boxes2 w #[.int .i64 inp,.slice lA ln lc] 30 #[.slice q.xA q.xn q.xc,.int .i64 q.label,.slice q.oA q.on q.oc,.slice q.hA q.hn q.hc,.int .u8 q.norm] 47
 have HX0:=zh x0
 have HX1:=zh x1
 clear x0 x1
 have Bz:=Below.refl W.heap.size W
 obtain⟨p0_0,p0_1,-⟩:=(zx HX0 Bz).cz
 go_enter Tryd.func10,Tryd.ntmps10
 go_wp2_with fail
 rw[←hW]
 clear hW
 go_wp2_with fail
 with_reducible refine((sizes_q (h.below (zAa hB (zAa (b:=W) Bz (by go_grown)))) (zh fun y hy=>(hok.out y hy).below (zAa hB (zAa (b:=W) Bz (by go_grown)))) hm hln (zh (Tab.below hT.out (zAa hB (zAa (b:=W) Bz (by go_grown)))))).mono fun _ _ hx=>TellsZs.ok hx HZ.out).mono ?_
 rintro e w1 ⟨A1,n1,c1,rfl,h1,hc1,b1⟩
 replace b1:=zAa (a:=W) (by go_grown) b1
 replace Bz:=zAa Bz b1
 clear h1
 clear b1
 clear p0_0 p0_1
 obtain⟨p1_0,-,p1_2,p1_3,-⟩:=(zx HX1 Bz).cz
 go_wp2_with fail
 obtain⟨V1,hW,x2,hN⟩:=zAb w1 #[.slice q.xA q.xn q.xc,.slice q.oA q.on q.oc,.slice q.hA q.hn q.hc] 35
 rw[←hW]
 clear hW
 obtain⟨v2,hb2⟩:∃b,b=w1.heap.size:=⟨_,rfl⟩
 rw[←hb2] at x2 ⊢
 have o0_2:w.heap.size<v2:=by have:=(zx HX0 Bz).lt;omega
 have o1_2:w.heap.size+1<v2:=by have:=(zx HX1 Bz).lt;omega
 have ow_2:w.heap.size≤v2:=by have:=zw hB Bz;omega
 replace hB:=zAa (zAa hB Bz) hN
 replace HX0:=zh ((zx HX0 Bz).below hN)
 replace HX1:=zh ((zx HX1 Bz).below hN)
 have HX2:=zh x2
 clear x2 hN Bz hb2
 have Bz:=Below.refl V1.heap.size V1
 clear p1_0 p1_2 p1_3
 with_reducible refine(all_rats (fvs_sl [q.x,q.o,q.h] (HX2.out.below (zAa Bz (by go_grown))) 3 rfl) (zh fun v hv=>by simp at hv;rcases hv with rfl | rfl | rfl;exact hq.x.below (zAa hB (zAa (b:=V1) Bz (by go_grown)));exact hq.o.below (zAa hB (zAa (b:=V1) Bz (by go_grown)));exact hq.h.below (zAa hB (zAa (b:=V1) Bz (by go_grown)))) hm (by omega) (HX0.out.below (zAa Bz (by go_grown))) false HO (zh (Tab.below hT.out (zAa hB (zAa (b:=V1) Bz (by go_grown)))))).mono ?_
 rintro e w2 ⟨rfl,b2⟩
 replace b2:=zAa (a:=V1) (by go_grown) b2
 replace Bz:=zAa Bz b2
 clear b2
 have p1_4:=(zx HX1 Bz).cell 4 (.int .u8 q.norm) rfl
 go_wp2_with fail
 go_ret
 have hF:=zAa (c:=w2) hB Bz
 exact⟨by rw[HA.out];rfl,zAa hF (by go_grown)⟩
theorem query_nm {w:World} {m:Nat} {inp:Int} {lA:Option Addr} {ln lc:Nat} {L:List Ly} {q:Qy} (h:Sl Ly.cs 13 w lA ln lc L) (hok:Hid (∀y∈L,LyOk w m y)) (hm:m≤20000) (hln:ln≤9223372036854775807) (hq:QyOk w m q) {l:List Int} (HZ:Hid (zAc inp L=.ok l)) (HO:Hid ([q.x,q.o,q.h].all (okV inp)=true)) (n1:(q.norm != 1)=true) (n2:(q.norm != 2)=true) (HA:Hid (queryF inp L q=22)) (hT:Hid (Tab w)) :
  Calls Tryd.prog 10 #[.agg #[.int .i64 inp,.slice lA ln lc],.agg #[.slice q.xA q.xn q.xc,.int .i64 q.label,.slice q.oA q.on q.oc,.slice q.hA q.hn q.hc,.int .u8 q.norm]] w fun e w'=>e=.returned (.int .i64 (queryF inp L q))∧Below w.heap.size w w':=by
 have hql:q.xn≤100000∧q.on≤100000∧q.hn≤100000:=⟨hq.x.2.2,hq.o.2.2,hq.h.2.2⟩
 obtain⟨W,hW,x0,x1,hB⟩:=boxes2 w #[.int .i64 inp,.slice lA ln lc] 30 #[.slice q.xA q.xn q.xc,.int .i64 q.label,.slice q.oA q.on q.oc,.slice q.hA q.hn q.hc,.int .u8 q.norm] 47
 have HX0:=zh x0
 have HX1:=zh x1
 clear x0 x1
 have Bz:=Below.refl W.heap.size W
 obtain⟨p0_0,p0_1,-⟩:=(zx HX0 Bz).cz
 go_enter Tryd.func10,Tryd.ntmps10
 go_wp2_with fail
 rw[←hW]
 clear hW
 go_wp2_with fail
 with_reducible refine((sizes_q (h.below (zAa hB (zAa (b:=W) Bz (by go_grown)))) (zh fun y hy=>(hok.out y hy).below (zAa hB (zAa (b:=W) Bz (by go_grown)))) hm hln (zh (Tab.below hT.out (zAa hB (zAa (b:=W) Bz (by go_grown)))))).mono fun _ _ hx=>TellsZs.ok hx HZ.out).mono ?_
 rintro e w1 ⟨A1,n1,c1,rfl,h1,hc1,b1⟩
 replace b1:=zAa (a:=W) (by go_grown) b1
 replace Bz:=zAa Bz b1
 clear h1
 clear b1
 clear p0_0 p0_1
 obtain⟨p1_0,-,p1_2,p1_3,-⟩:=(zx HX1 Bz).cz
 go_wp2_with fail
 obtain⟨V1,hW,x2,hN⟩:=zAb w1 #[.slice q.xA q.xn q.xc,.slice q.oA q.on q.oc,.slice q.hA q.hn q.hc] 35
 rw[←hW]
 clear hW
 obtain⟨v2,hb2⟩:∃b,b=w1.heap.size:=⟨_,rfl⟩
 rw[←hb2] at x2 ⊢
 have o0_2:w.heap.size<v2:=by have:=(zx HX0 Bz).lt;omega
 have o1_2:w.heap.size+1<v2:=by have:=(zx HX1 Bz).lt;omega
 have ow_2:w.heap.size≤v2:=by have:=zw hB Bz;omega
 replace hB:=zAa (zAa hB Bz) hN
 replace HX0:=zh ((zx HX0 Bz).below hN)
 replace HX1:=zh ((zx HX1 Bz).below hN)
 have HX2:=zh x2
 clear x2 hN Bz hb2
 have Bz:=Below.refl V1.heap.size V1
 clear p1_0 p1_2 p1_3
 with_reducible refine(all_rats (fvs_sl [q.x,q.o,q.h] (HX2.out.below (zAa Bz (by go_grown))) 3 rfl) (zh fun v hv=>by simp at hv;rcases hv with rfl | rfl | rfl;exact hq.x.below (zAa hB (zAa (b:=V1) Bz (by go_grown)));exact hq.o.below (zAa hB (zAa (b:=V1) Bz (by go_grown)));exact hq.h.below (zAa hB (zAa (b:=V1) Bz (by go_grown)))) hm (by omega) (HX0.out.below (zAa Bz (by go_grown))) true HO (zh (Tab.below hT.out (zAa hB (zAa (b:=V1) Bz (by go_grown)))))).mono ?_
 rintro e w2 ⟨rfl,b2⟩
 replace b2:=zAa (a:=V1) (by go_grown) b2
 replace Bz:=zAa Bz b2
 clear b2
 have p1_4:=(zx HX1 Bz).cell 4 (.int .u8 q.norm) rfl
 go_wp2_with fail
 go_ret
 have hF:=zAa (c:=w2) hB Bz
 exact⟨by rw[HA.out];rfl,zAa hF (by go_grown)⟩
theorem query_m1 {w:World} {m:Nat} {ni:Nat} {lA:Option Addr} {ln lc:Nat} {L:List Ly} {q:Qy} (h:Sl Ly.cs 13 w lA ln lc L) (hok:Hid (∀y∈L,LyOk w m y)) (hm:m≤20000) (hln:ln≤9223372036854775807) (hq:QyOk w m q) {l:List Int} (HZ:Hid (zAc (ni:Int) L=.ok l)) (HO:Hid ([q.x,q.o,q.h].all (okV (ni:Int))=true)) (n1:(q.norm != 1)=false) (HOQ:Hid (okQ (ni:Int) q=true)) (HNM:Hid (¬(q.norm≠1∧q.norm≠2))) (hT:Hid (Tab w)) :
  Calls Tryd.prog 10 #[.agg #[.int .i64 (ni:Int),.slice lA ln lc],.agg #[.slice q.xA q.xn q.xc,.int .i64 q.label,.slice q.oA q.on q.oc,.slice q.hA q.hn q.hc,.int .u8 q.norm]] w fun e w'=>e=.returned (.int .i64 (queryF (ni:Int) L q))∧Below w.heap.size w w':=by
 have hql:q.xn≤100000∧q.on≤100000∧q.hn≤100000:=⟨hq.x.2.2,hq.o.2.2,hq.h.2.2⟩
 obtain⟨W,hW,x0,x1,hB⟩:=boxes2 w #[.int .i64 (ni:Int),.slice lA ln lc] 30 #[.slice q.xA q.xn q.xc,.int .i64 q.label,.slice q.oA q.on q.oc,.slice q.hA q.hn q.hc,.int .u8 q.norm] 47
 have HX0:=zh x0
 have HX1:=zh x1
 clear x0 x1
 have Bz:=Below.refl W.heap.size W
 obtain⟨p0_0,p0_1,-⟩:=(zx HX0 Bz).cz
 go_enter Tryd.func10,Tryd.ntmps10
 go_wp2_with fail
 rw[←hW]
 clear hW
 go_wp2_with fail
 with_reducible refine((sizes_q (h.below (zAa hB (zAa (b:=W) Bz (by go_grown)))) (zh fun y hy=>(hok.out y hy).below (zAa hB (zAa (b:=W) Bz (by go_grown)))) hm hln (zh (Tab.below hT.out (zAa hB (zAa (b:=W) Bz (by go_grown)))))).mono fun _ _ hx=>TellsZs.ok hx HZ.out).mono ?_
 rintro e w1 ⟨A1,n1,c1,rfl,h1,hc1,b1⟩
 replace b1:=zAa (a:=W) (by go_grown) b1
 replace Bz:=zAa Bz b1
 clear b1
 clear p0_0 p0_1
 obtain⟨p1_0,-,p1_2,p1_3,-⟩:=(zx HX1 Bz).cz
 go_wp2_with fail
 obtain⟨V1,hW,x2,hN⟩:=zAb w1 #[.slice q.xA q.xn q.xc,.slice q.oA q.on q.oc,.slice q.hA q.hn q.hc] 35
 rw[←hW]
 clear hW
 obtain⟨v2,hb2⟩:∃b,b=w1.heap.size:=⟨_,rfl⟩
 rw[←hb2] at x2 ⊢
 have o0_2:w.heap.size<v2:=by have:=(zx HX0 Bz).lt;omega
 have o1_2:w.heap.size+1<v2:=by have:=(zx HX1 Bz).lt;omega
 have ow_2:w.heap.size≤v2:=by have:=zw hB Bz;omega
 replace h1:=h1.below hN
 replace hB:=zAa (zAa hB Bz) hN
 replace HX0:=zh ((zx HX0 Bz).below hN)
 replace HX1:=zh ((zx HX1 Bz).below hN)
 have HX2:=zh x2
 clear x2 hN Bz hb2
 have Bz:=Below.refl V1.heap.size V1
 clear p1_0 p1_2 p1_3
 with_reducible refine(all_rats (fvs_sl [q.x,q.o,q.h] (HX2.out.below (zAa Bz (by go_grown))) 3 rfl) (zh fun v hv=>by simp at hv;rcases hv with rfl | rfl | rfl;exact hq.x.below (zAa hB (zAa (b:=V1) Bz (by go_grown)));exact hq.o.below (zAa hB (zAa (b:=V1) Bz (by go_grown)));exact hq.h.below (zAa hB (zAa (b:=V1) Bz (by go_grown)))) hm (by omega) (HX0.out.below (zAa Bz (by go_grown))) true HO (zh (Tab.below hT.out (zAa hB (zAa (b:=V1) Bz (by go_grown)))))).mono ?_
 rintro e w2 ⟨rfl,b2⟩
 replace b2:=zAa (a:=V1) (by go_grown) b2
 replace h1:=h1.below b2
 replace Bz:=zAa Bz b2
 clear b2
 have p0_0:=(zx HX0 Bz).cell 0 (.int .i64 (ni:Int)) rfl
 have p1_4:=(zx HX1 Bz).cell 4 (.int .u8 q.norm) rfl
 go_wp2_with fail
 have hin:=sizes_steps HZ.out
 have hst:=steps_ok hin.2.2.2
 have hon:q.on=ni∧q.hn=ni:=by
  have:=HOQ.out
  simp only[okQ,okV,Bool.and_eq_true,decide_eq_true_eq] at this
  obtain⟨_,⟨h1,_⟩,h2,_⟩:=this
  simp only[Qy.o] at h1
  simp only[Qy.h] at h2
  omega
 have HOL:Hid (q.O.length=ni):=zh (hq.o.1.1.trans hon.1)
 have HHL:Hid (q.H.length=ni):=zh (hq.h.1.1.trans hon.2)
 have hon2:q.on≤ni∧ni≤q.on∧q.hn≤ni∧ni≤q.hn:=by omega
 clear hon
 have HZL:Hid ((q.O.zip q.H).length=ni):=zh (by rw[List.length_zip,HOL.out,HHL.out];exact Nat.min_self _)
 have HQO:Hid (Sl Fr.cs 4 w q.oA q.on q.oc q.O):=zh hq.o.1
 have HQH:Hid (Sl Fr.cs 4 w q.hA q.hn q.hc q.H):=zh hq.h.1
 have HB1:=zh (zAa hB Bz)
 have XX1:=zh (zx HX1 Bz)
 have HU:=zh h1
 obtain⟨nl,rfl⟩:∃nl,n1=nl+1:=⟨L.length,h1.1.symm.trans hst.1⟩
 have HLL:Hid (l.length=nl+1):=zh h1.1
 have hnl:nl≤16:=by have h1:=hst.1;have h2:=HLL.out;have h3:=hin.2.2.1;omega
 have hnm:ni≤64:=by have:=hin.2.1;omega
 clear hB Bz HX0 HX1 HX2 h1 hst hin
 go_loopg [40] ni (fun gk s wr=>QU1 w #[.slice q.xA q.xn q.xc,.int .i64 q.label,.slice q.oA q.on q.oc,.slice q.hA q.hn q.hc,.int .u8 q.norm] (q.O.zip q.H) ni gk s wr∧Below w2.heap.size w2 wr)
 case atStart=>exact⟨⟨0,Nat.zero_le _,rfl,rfl,HB1.out,XX1.out,by simp⟩,Below.refl _ _⟩
 case round =>
  clear HB1 XX1
  obtain⟨⟨i,hi,hgk,rfl,hB,hx1,hd⟩,hBW⟩:=hrel
  have HGK:=zh hgk
  have HD:=zh hd
  have HX1:=zh hx1
  clear hgk hd hx1
  by_cases hlt:i<ni
  ·obtain⟨b,off,hoA,hel⟩:=HQO.out.at Fr.cs_len (by omega) (by omega)
   obtain⟨b',off',hhA,hel'⟩:=HQH.out.at Fr.cs_len (by omega) (by omega)
   rw[hoA,hhA] at HX1
   obtain⟨x,hx⟩:∃x,q.O[i]?=some x:=⟨q.O[i]'(by rw[HOL.out];exact hlt),List.getElem?_eq_getElem _⟩
   obtain⟨y,hy⟩:∃y,q.H[i]?=some y:=⟨q.H[i]'(by rw[HHL.out];exact hlt),List.getElem?_eq_getElem _⟩
   have hnd:=hel i x hx
   have hnd':=hel' i y hy
   have HZI:Hid ((q.O.zip q.H)[i]?=some (x,y)):=zh (by rw[List.getElem?_zip_eq_some];exact⟨hx,hy⟩)
   have HXI:=zh hx
   have HYI:=zh hy
   have HOA:=zh hoA
   have HHA:=zh hhA
   have i1:(i:Int)<(ni:Int):=by omega
   have i2:(0:Int)≤(i:Int):=by omega
   have i3:(i:Int)<(q.on:Int):=by omega
   have i4:(i:Int)<(q.hn:Int):=by omega
   obtain⟨z,HZZ⟩:∃z,Hid (cmpQ x.q y.q=z):=⟨_,zh rfl⟩
   clear hx hel hy hel' hoA hhA
   by_cases hz:0<z
   ·have HP:Hid (boxP (x,y)=false):=zh (by unfold boxP;simp only;rw[HZZ.out];simpa using hz)
    have Bz:=Below.refl wr.heap.size wr
    obtain⟨-,-,p1_2,p1_3,-⟩:=(zx HX1 Bz).cz
    obtain⟨p50_0,p50_1,p50_2,p50_3,-⟩:=(hnd.below (zAa hB Bz)).ez
    obtain⟨p51_0,p51_1,p51_2,p51_3,-⟩:=(hnd'.below (zAa hB Bz)).ez
    go_wp2_with fail
    (try simp only[List.append_eq,List.cons_append,List.nil_append])
    refine wp_region_plan (.take 0 (.take 1 (.take 2 (.take 3 (.take 4 (.take 5 (.take 6 (.take 7 (.take 8 (.take 9 (.only 10 (.take 11 .done)))))))))))) [] (fun w'=>w'.cell? ⟨w.heap.size+1,2,none⟩=some (.slice (some ⟨b,off,none⟩) q.on q.oc)∧w'.cell? ⟨w.heap.size+1,3,none⟩=some (.slice (some ⟨b',off',none⟩) q.hn q.hc)∧w'.cell? ⟨b,off+i*4,none⟩=some (.bool x.s)∧w'.cell? ⟨b,off+i*4+1,none⟩=some (.slice x.A x.l x.c)∧w'.cell? ⟨b,off+i*4+2,none⟩=some (.bool x.s')∧w'.cell? ⟨b,off+i*4+3,none⟩=some (.slice x.A' x.l' x.c')∧w'.cell? ⟨b',off'+i*4,none⟩=some (.bool y.s)∧w'.cell? ⟨b',off'+i*4+1,none⟩=some (.slice y.A y.l y.c)∧w'.cell? ⟨b',off'+i*4+2,none⟩=some (.bool y.s')∧w'.cell? ⟨b',off'+i*4+3,none⟩=some (.slice y.A' y.l' y.c')) (by kernel_rfl) (by kernel_rfl) ⟨p1_2,p1_3,p50_0,p50_1,p50_2,p50_3,p51_0,p51_1,p51_2,p51_3⟩ ?_
    iterate 10 (refine zT rfl rfl (fun w' ⟨p1_2,p1_3,p50_0,p50_1,p50_2,p50_3,p51_0,p51_1,p51_2,p51_3⟩=>by go_simp<;>with_reducible rfl) ?_;try simp only[Act.put,uX,uY,uZ])
    refine zC 53 rfl rfl (fun K hK=>?_)
    go_simp
    with_reducible refine(cmp_q ((hq.o.fr x (List.mem_of_getElem? HXI.out)).below (zAa hB (zAa (b:=wr) Bz (by go_grown)))).r ((hq.h.fr y (List.mem_of_getElem? HYI.out)).below (zAa hB (zAa (b:=wr) Bz (by go_grown)))).r (by omega) z HZZ).mono ?_
    rintro e w1 ⟨rfl,b1⟩
    replace b1:=zAa (a:=wr) (by go_grown) b1
    replace Bz:=zAa Bz b1
    clear b1
    clear p1_2 p1_3 p50_0 p50_1 p50_2 p50_3 p51_0 p51_1 p51_2 p51_3
    obtain⟨-,-,p1_2,p1_3,-⟩:=(zx HX1 Bz).cz
    obtain⟨p50_0,p50_1,p50_2,p50_3,-⟩:=(hnd.below (zAa hB Bz)).ez
    obtain⟨p51_0,p51_1,p51_2,p51_3,-⟩:=(hnd'.below (zAa hB Bz)).ez
    refine hK.out _ _ ⟨p1_2,p1_3,p50_0,p50_1,p50_2,p50_3,p51_0,p51_1,p51_2,p51_3⟩ (fun _=>?_)
    try simp only[Act.put,uX,uY,uZ]
    clear hK K
    refine zT rfl rfl (fun w' ⟨p1_2,p1_3,p50_0,p50_1,p50_2,p50_3,p51_0,p51_1,p51_2,p51_3⟩=>by go_simp<;>with_reducible rfl) ?_
    try simp only[Act.put,uX,uY,uZ]
    refine wpPlan_done ?_
    go_wp2_with fail
    go_ret
    have hF:=zAa (c:=w1) hB Bz
    have HA:Hid (queryF (ni:Int) L q=23):=zh (by unfold queryF;rw[HZ.out];simp only;rw[if_neg (by rw[HOQ.out];simp),if_neg HNM.out,if_pos (show boxB q=false from all_no HZI.out HP.out)])
    exact⟨by rw[HA.out];rfl,zAa (zAa hB Bz) (by go_grown)⟩
   ·have HP:Hid (boxP (x,y)=true):=zh (by unfold boxP;simp only;rw[HZZ.out];simpa using hz)
    have Bz:=Below.refl wr.heap.size wr
    obtain⟨-,-,p1_2,p1_3,-⟩:=(zx HX1 Bz).cz
    obtain⟨p50_0,p50_1,p50_2,p50_3,-⟩:=(hnd.below (zAa hB Bz)).ez
    obtain⟨p51_0,p51_1,p51_2,p51_3,-⟩:=(hnd'.below (zAa hB Bz)).ez
    go_wp2_with fail
    (try simp only[List.append_eq,List.cons_append,List.nil_append])
    refine wp_region_plan (.take 0 (.take 1 (.take 2 (.take 3 (.take 4 (.take 5 (.take 6 (.take 7 (.take 8 (.take 9 (.only 10 (.take 11 .done)))))))))))) [] (fun w'=>w'.cell? ⟨w.heap.size+1,2,none⟩=some (.slice (some ⟨b,off,none⟩) q.on q.oc)∧w'.cell? ⟨w.heap.size+1,3,none⟩=some (.slice (some ⟨b',off',none⟩) q.hn q.hc)∧w'.cell? ⟨b,off+i*4,none⟩=some (.bool x.s)∧w'.cell? ⟨b,off+i*4+1,none⟩=some (.slice x.A x.l x.c)∧w'.cell? ⟨b,off+i*4+2,none⟩=some (.bool x.s')∧w'.cell? ⟨b,off+i*4+3,none⟩=some (.slice x.A' x.l' x.c')∧w'.cell? ⟨b',off'+i*4,none⟩=some (.bool y.s)∧w'.cell? ⟨b',off'+i*4+1,none⟩=some (.slice y.A y.l y.c)∧w'.cell? ⟨b',off'+i*4+2,none⟩=some (.bool y.s')∧w'.cell? ⟨b',off'+i*4+3,none⟩=some (.slice y.A' y.l' y.c')) (by kernel_rfl) (by kernel_rfl) ⟨p1_2,p1_3,p50_0,p50_1,p50_2,p50_3,p51_0,p51_1,p51_2,p51_3⟩ ?_
    iterate 10 (refine zT rfl rfl (fun w' ⟨p1_2,p1_3,p50_0,p50_1,p50_2,p50_3,p51_0,p51_1,p51_2,p51_3⟩=>by go_simp<;>with_reducible rfl) ?_;try simp only[Act.put,uX,uY,uZ])
    refine zC 53 rfl rfl (fun K hK=>?_)
    go_simp
    with_reducible refine(cmp_q ((hq.o.fr x (List.mem_of_getElem? HXI.out)).below (zAa hB (zAa (b:=wr) Bz (by go_grown)))).r ((hq.h.fr y (List.mem_of_getElem? HYI.out)).below (zAa hB (zAa (b:=wr) Bz (by go_grown)))).r (by omega) z HZZ).mono ?_
    rintro e w1 ⟨rfl,b1⟩
    replace b1:=zAa (a:=wr) (by go_grown) b1
    replace Bz:=zAa Bz b1
    clear b1
    clear p1_2 p1_3 p50_0 p50_1 p50_2 p50_3 p51_0 p51_1 p51_2 p51_3
    obtain⟨-,-,p1_2,p1_3,-⟩:=(zx HX1 Bz).cz
    obtain⟨p50_0,p50_1,p50_2,p50_3,-⟩:=(hnd.below (zAa hB Bz)).ez
    obtain⟨p51_0,p51_1,p51_2,p51_3,-⟩:=(hnd'.below (zAa hB Bz)).ez
    refine hK.out _ _ ⟨p1_2,p1_3,p50_0,p50_1,p50_2,p50_3,p51_0,p51_1,p51_2,p51_3⟩ (fun _=>?_)
    try simp only[Act.put,uX,uY,uZ]
    clear hK K
    refine zT rfl rfl (fun w' ⟨p1_2,p1_3,p50_0,p50_1,p50_2,p50_3,p51_0,p51_1,p51_2,p51_3⟩=>by go_simp<;>with_reducible rfl) ?_
    try simp only[Act.put,uX,uY,uZ]
    refine wpPlan_done ?_
    go_wp2_with fail
    go_roundg (ni-(i+1))
    case measure=>have:=HGK.out;omega
    case rel=>exact⟨⟨i+1,by omega,rfl,by go_num,zAa (zAa hB Bz) (by go_grown),(by have:=HX1.out.below (zAa Bz (by go_grown));rwa [←HOA.out,←HHA.out] at this),take_all HD.out HZI.out HP.out⟩,zAa (zAa hBW Bz) (by go_grown)⟩
  ·obtain rfl:i=ni:=by omega
   have i1:¬(i:Int)<(i:Int):=by omega
   have HBX:Hid (boxB q=true):=zh (by have:=all_yes HZL.out HD.out;exact this)
   obtain⟨ub,uo,rfl,uel⟩:=HU.out.at ics_len (by omega) (by omega)
   obtain⟨last,hla⟩:∃x,l[nl]?=some x:=⟨l[nl]'(by rw[HLL.out];omega),List.getElem?_eq_getElem _⟩
   have und:ElA w2 ub (uo+nl) (ics last):=by have:=uel nl last hla;rwa [Nat.mul_one] at this
   have HLA:Hid (l.getLastD 0=last):=zh (by rw[List.getLastD_eq_getLast?,List.getLast?_eq_getElem?,HLL.out,Nat.add_sub_cancel,hla];rfl)
   clear uel hla
   by_cases hneg:q.label<0
   ·have hnd:decide (q.label<0)=true:=decide_eq_true hneg
    have HA:Hid (queryF (i:Int) L q=24):=zh (by unfold queryF;rw[HZ.out];simp only;rw[if_neg (by rw[HOQ.out];simp),if_neg HNM.out,if_neg (by rw[HBX.out];simp),if_pos hneg])
    have Bz:=Below.refl wr.heap.size wr
    have p1_1:=(zx HX1 Bz).cell 1 (.int .i64 q.label) rfl
    go_wp2_with fail
    have w0:IntKind.i64.wrap (nl:Int)=(nl:Int):=IntWalk.i64_in _ (by omega)
    have w1':(0:Int)≤(nl:Int):=by omega
    have w2':(nl:Int)<(nl:Int)+1:=by omega
    (try simp only[List.append_eq,List.cons_append,List.nil_append])
    refine wp_region_plan (.take 0 (.take 1 (.take 2 (.take 3 (.take 4 (.take 5 (.take 6 (.take 7 (.take 8 (.take 9 (.take 10 (.take 11 (.take 12 (.take 13 .done)))))))))))))) [] (fun w'=>w'.cell? ⟨w.heap.size+1,1,none⟩=some (.int .i64 q.label)) (by kernel_rfl) (by kernel_rfl) p1_1 ?_
    iterate 4 (refine zT rfl rfl (fun w' p1_1=>by go_simp<;>with_reducible rfl) ?_;try simp only[Act.put,uX,uY,uZ])
    iterate 9 (refine zN rfl rfl ?_;try simp only[Act.put,uX,uY,uZ])
    refine zT rfl rfl (fun w' p1_1=>by go_simp<;>with_reducible rfl) ?_
    try simp only[Act.put,uX,uY,uZ]
    refine wpPlan_done ?_
    clear w0 w1' w2'
    go_wp2_with fail
    go_ret
    have hF:=zAa (c:=wr) hB Bz
    exact⟨by rw[HA.out];rfl,zAa (zAa hB Bz) (by go_grown)⟩
   ·have hnd:decide (q.label<0)=false:=decide_eq_false hneg
    by_cases hhi:last≤q.label
    ·have HA:Hid (queryF (i:Int) L q=24):=zh (by unfold queryF;rw[HZ.out];simp only;rw[if_neg (by rw[HOQ.out];simp),if_neg HNM.out,if_neg (by rw[HBX.out];simp),if_neg hneg,if_pos (by rw[HLA.out];exact hhi)])
     have Bz:=Below.refl wr.heap.size wr
     have p1_1:=(zx HX1 Bz).cell 1 (.int .i64 q.label) rfl
     have p50_0:=(und.below (zAa hBW Bz)).c0 (u:=.int .i64 last) rfl
     go_wp2_with fail
     have w0:IntKind.i64.wrap (nl:Int)=(nl:Int):=IntWalk.i64_in _ (by omega)
     have w1':(0:Int)≤(nl:Int):=by omega
     have w2':(nl:Int)<(nl:Int)+1:=by omega
     (try simp only[List.append_eq,List.cons_append,List.nil_append])
     refine wp_region_plan (.take 0 (.take 1 (.take 2 (.take 3 (.take 4 (.take 5 (.take 6 (.take 7 (.take 8 (.take 9 (.take 10 (.take 11 (.take 12 (.take 13 .done)))))))))))))) [] (fun w'=>w'.cell? ⟨w.heap.size+1,1,none⟩=some (.int .i64 q.label)∧w'.cell? ⟨ub,uo+nl,none⟩=some (.int .i64 last)) (by kernel_rfl) (by kernel_rfl) ⟨p1_1,p50_0⟩ ?_
     iterate 14 (refine zT rfl rfl (fun w' ⟨p1_1,p50_0⟩=>by go_simp<;>with_reducible rfl) ?_;try simp only[Act.put,uX,uY,uZ])
     refine wpPlan_done ?_
     clear w0 w1' w2'
     go_wp2_with fail
     go_ret
     have hF:=zAa (c:=wr) hB Bz
     exact⟨by rw[HA.out];rfl,zAa (zAa hB Bz) (by go_grown)⟩
    ·have HA:Hid (queryF (i:Int) L q=0):=zh (by unfold queryF;rw[HZ.out];simp only;rw[if_neg (by rw[HOQ.out];simp),if_neg HNM.out,if_neg (by rw[HBX.out];simp),if_neg hneg,if_neg (by rw[HLA.out];exact hhi)])
     have Bz:=Below.refl wr.heap.size wr
     have p1_1:=(zx HX1 Bz).cell 1 (.int .i64 q.label) rfl
     have p50_0:=(und.below (zAa hBW Bz)).c0 (u:=.int .i64 last) rfl
     go_wp2_with fail
     have w0:IntKind.i64.wrap (nl:Int)=(nl:Int):=IntWalk.i64_in _ (by omega)
     have w1':(0:Int)≤(nl:Int):=by omega
     have w2':(nl:Int)<(nl:Int)+1:=by omega
     (try simp only[List.append_eq,List.cons_append,List.nil_append])
     refine wp_region_plan (.take 0 (.take 1 (.take 2 (.take 3 (.take 4 (.take 5 (.take 6 (.take 7 (.take 8 (.take 9 (.take 10 (.take 11 (.take 12 (.take 13 .done)))))))))))))) [] (fun w'=>w'.cell? ⟨w.heap.size+1,1,none⟩=some (.int .i64 q.label)∧w'.cell? ⟨ub,uo+nl,none⟩=some (.int .i64 last)) (by kernel_rfl) (by kernel_rfl) ⟨p1_1,p50_0⟩ ?_
     iterate 14 (refine zT rfl rfl (fun w' ⟨p1_1,p50_0⟩=>by go_simp<;>with_reducible rfl) ?_;try simp only[Act.put,uX,uY,uZ])
     refine wpPlan_done ?_
     clear w0 w1' w2'
     go_wp2_with fail
     go_ret
     have hF:=zAa (c:=wr) hB Bz
     exact⟨by rw[HA.out];rfl,zAa (zAa hB Bz) (by go_grown)⟩
theorem query_m2 {w:World} {m:Nat} {ni:Nat} {lA:Option Addr} {ln lc:Nat} {L:List Ly} {q:Qy} (h:Sl Ly.cs 13 w lA ln lc L) (hok:Hid (∀y∈L,LyOk w m y)) (hm:m≤20000) (hln:ln≤9223372036854775807) (hq:QyOk w m q) {l:List Int} (HZ:Hid (zAc (ni:Int) L=.ok l)) (HO:Hid ([q.x,q.o,q.h].all (okV (ni:Int))=true)) (n1:(q.norm != 1)=true) (n2:(q.norm != 2)=false) (HOQ:Hid (okQ (ni:Int) q=true)) (HNM:Hid (¬(q.norm≠1∧q.norm≠2))) (hT:Hid (Tab w)) :
  Calls Tryd.prog 10 #[.agg #[.int .i64 (ni:Int),.slice lA ln lc],.agg #[.slice q.xA q.xn q.xc,.int .i64 q.label,.slice q.oA q.on q.oc,.slice q.hA q.hn q.hc,.int .u8 q.norm]] w fun e w'=>e=.returned (.int .i64 (queryF (ni:Int) L q))∧Below w.heap.size w w':=by
 have hql:q.xn≤100000∧q.on≤100000∧q.hn≤100000:=⟨hq.x.2.2,hq.o.2.2,hq.h.2.2⟩
 obtain⟨W,hW,x0,x1,hB⟩:=boxes2 w #[.int .i64 (ni:Int),.slice lA ln lc] 30 #[.slice q.xA q.xn q.xc,.int .i64 q.label,.slice q.oA q.on q.oc,.slice q.hA q.hn q.hc,.int .u8 q.norm] 47
 have HX0:=zh x0
 have HX1:=zh x1
 clear x0 x1
 have Bz:=Below.refl W.heap.size W
 obtain⟨p0_0,p0_1,-⟩:=(zx HX0 Bz).cz
 go_enter Tryd.func10,Tryd.ntmps10
 go_wp2_with fail
 rw[←hW]
 clear hW
 go_wp2_with fail
 with_reducible refine((sizes_q (h.below (zAa hB (zAa (b:=W) Bz (by go_grown)))) (zh fun y hy=>(hok.out y hy).below (zAa hB (zAa (b:=W) Bz (by go_grown)))) hm hln (zh (Tab.below hT.out (zAa hB (zAa (b:=W) Bz (by go_grown)))))).mono fun _ _ hx=>TellsZs.ok hx HZ.out).mono ?_
 rintro e w1 ⟨A1,n1,c1,rfl,h1,hc1,b1⟩
 replace b1:=zAa (a:=W) (by go_grown) b1
 replace Bz:=zAa Bz b1
 clear b1
 clear p0_0 p0_1
 obtain⟨p1_0,-,p1_2,p1_3,-⟩:=(zx HX1 Bz).cz
 go_wp2_with fail
 obtain⟨V1,hW,x2,hN⟩:=zAb w1 #[.slice q.xA q.xn q.xc,.slice q.oA q.on q.oc,.slice q.hA q.hn q.hc] 35
 rw[←hW]
 clear hW
 obtain⟨v2,hb2⟩:∃b,b=w1.heap.size:=⟨_,rfl⟩
 rw[←hb2] at x2 ⊢
 have o0_2:w.heap.size<v2:=by have:=(zx HX0 Bz).lt;omega
 have o1_2:w.heap.size+1<v2:=by have:=(zx HX1 Bz).lt;omega
 have ow_2:w.heap.size≤v2:=by have:=zw hB Bz;omega
 replace h1:=h1.below hN
 replace hB:=zAa (zAa hB Bz) hN
 replace HX0:=zh ((zx HX0 Bz).below hN)
 replace HX1:=zh ((zx HX1 Bz).below hN)
 have HX2:=zh x2
 clear x2 hN Bz hb2
 have Bz:=Below.refl V1.heap.size V1
 clear p1_0 p1_2 p1_3
 with_reducible refine(all_rats (fvs_sl [q.x,q.o,q.h] (HX2.out.below (zAa Bz (by go_grown))) 3 rfl) (zh fun v hv=>by simp at hv;rcases hv with rfl | rfl | rfl;exact hq.x.below (zAa hB (zAa (b:=V1) Bz (by go_grown)));exact hq.o.below (zAa hB (zAa (b:=V1) Bz (by go_grown)));exact hq.h.below (zAa hB (zAa (b:=V1) Bz (by go_grown)))) hm (by omega) (HX0.out.below (zAa Bz (by go_grown))) true HO (zh (Tab.below hT.out (zAa hB (zAa (b:=V1) Bz (by go_grown)))))).mono ?_
 rintro e w2 ⟨rfl,b2⟩
 replace b2:=zAa (a:=V1) (by go_grown) b2
 replace h1:=h1.below b2
 replace Bz:=zAa Bz b2
 clear b2
 have p0_0:=(zx HX0 Bz).cell 0 (.int .i64 (ni:Int)) rfl
 have p1_4:=(zx HX1 Bz).cell 4 (.int .u8 q.norm) rfl
 go_wp2_with fail
 have hin:=sizes_steps HZ.out
 have hst:=steps_ok hin.2.2.2
 have hon:q.on=ni∧q.hn=ni:=by
  have:=HOQ.out
  simp only[okQ,okV,Bool.and_eq_true,decide_eq_true_eq] at this
  obtain⟨_,⟨h1,_⟩,h2,_⟩:=this
  simp only[Qy.o] at h1
  simp only[Qy.h] at h2
  omega
 have HOL:Hid (q.O.length=ni):=zh (hq.o.1.1.trans hon.1)
 have HHL:Hid (q.H.length=ni):=zh (hq.h.1.1.trans hon.2)
 have hon2:q.on≤ni∧ni≤q.on∧q.hn≤ni∧ni≤q.hn:=by omega
 clear hon
 have HZL:Hid ((q.O.zip q.H).length=ni):=zh (by rw[List.length_zip,HOL.out,HHL.out];exact Nat.min_self _)
 have HQO:Hid (Sl Fr.cs 4 w q.oA q.on q.oc q.O):=zh hq.o.1
 have HQH:Hid (Sl Fr.cs 4 w q.hA q.hn q.hc q.H):=zh hq.h.1
 have HB1:=zh (zAa hB Bz)
 have XX1:=zh (zx HX1 Bz)
 have HU:=zh h1
 obtain⟨nl,rfl⟩:∃nl,n1=nl+1:=⟨L.length,h1.1.symm.trans hst.1⟩
 have HLL:Hid (l.length=nl+1):=zh h1.1
 have hnl:nl≤16:=by have h1:=hst.1;have h2:=HLL.out;have h3:=hin.2.2.1;omega
 have hnm:ni≤64:=by have:=hin.2.1;omega
 clear hB Bz HX0 HX1 HX2 h1 hst hin
 go_loopg [40] ni (fun gk s wr=>QU1 w #[.slice q.xA q.xn q.xc,.int .i64 q.label,.slice q.oA q.on q.oc,.slice q.hA q.hn q.hc,.int .u8 q.norm] (q.O.zip q.H) ni gk s wr∧Below w2.heap.size w2 wr)
 case atStart=>exact⟨⟨0,Nat.zero_le _,rfl,rfl,HB1.out,XX1.out,by simp⟩,Below.refl _ _⟩
 case round =>
  clear HB1 XX1
  obtain⟨⟨i,hi,hgk,rfl,hB,hx1,hd⟩,hBW⟩:=hrel
  have HGK:=zh hgk
  have HD:=zh hd
  have HX1:=zh hx1
  clear hgk hd hx1
  by_cases hlt:i<ni
  ·obtain⟨b,off,hoA,hel⟩:=HQO.out.at Fr.cs_len (by omega) (by omega)
   obtain⟨b',off',hhA,hel'⟩:=HQH.out.at Fr.cs_len (by omega) (by omega)
   rw[hoA,hhA] at HX1
   obtain⟨x,hx⟩:∃x,q.O[i]?=some x:=⟨q.O[i]'(by rw[HOL.out];exact hlt),List.getElem?_eq_getElem _⟩
   obtain⟨y,hy⟩:∃y,q.H[i]?=some y:=⟨q.H[i]'(by rw[HHL.out];exact hlt),List.getElem?_eq_getElem _⟩
   have hnd:=hel i x hx
   have hnd':=hel' i y hy
   have HZI:Hid ((q.O.zip q.H)[i]?=some (x,y)):=zh (by rw[List.getElem?_zip_eq_some];exact⟨hx,hy⟩)
   have HXI:=zh hx
   have HYI:=zh hy
   have HOA:=zh hoA
   have HHA:=zh hhA
   have i1:(i:Int)<(ni:Int):=by omega
   have i2:(0:Int)≤(i:Int):=by omega
   have i3:(i:Int)<(q.on:Int):=by omega
   have i4:(i:Int)<(q.hn:Int):=by omega
   obtain⟨z,HZZ⟩:∃z,Hid (cmpQ x.q y.q=z):=⟨_,zh rfl⟩
   clear hx hel hy hel' hoA hhA
   by_cases hz:0<z
   ·have HP:Hid (boxP (x,y)=false):=zh (by unfold boxP;simp only;rw[HZZ.out];simpa using hz)
    have Bz:=Below.refl wr.heap.size wr
    obtain⟨-,-,p1_2,p1_3,-⟩:=(zx HX1 Bz).cz
    obtain⟨p50_0,p50_1,p50_2,p50_3,-⟩:=(hnd.below (zAa hB Bz)).ez
    obtain⟨p51_0,p51_1,p51_2,p51_3,-⟩:=(hnd'.below (zAa hB Bz)).ez
    go_wp2_with fail
    (try simp only[List.append_eq,List.cons_append,List.nil_append])
    refine wp_region_plan (.take 0 (.take 1 (.take 2 (.take 3 (.take 4 (.take 5 (.take 6 (.take 7 (.take 8 (.take 9 (.only 10 (.take 11 .done)))))))))))) [] (fun w'=>w'.cell? ⟨w.heap.size+1,2,none⟩=some (.slice (some ⟨b,off,none⟩) q.on q.oc)∧w'.cell? ⟨w.heap.size+1,3,none⟩=some (.slice (some ⟨b',off',none⟩) q.hn q.hc)∧w'.cell? ⟨b,off+i*4,none⟩=some (.bool x.s)∧w'.cell? ⟨b,off+i*4+1,none⟩=some (.slice x.A x.l x.c)∧w'.cell? ⟨b,off+i*4+2,none⟩=some (.bool x.s')∧w'.cell? ⟨b,off+i*4+3,none⟩=some (.slice x.A' x.l' x.c')∧w'.cell? ⟨b',off'+i*4,none⟩=some (.bool y.s)∧w'.cell? ⟨b',off'+i*4+1,none⟩=some (.slice y.A y.l y.c)∧w'.cell? ⟨b',off'+i*4+2,none⟩=some (.bool y.s')∧w'.cell? ⟨b',off'+i*4+3,none⟩=some (.slice y.A' y.l' y.c')) (by kernel_rfl) (by kernel_rfl) ⟨p1_2,p1_3,p50_0,p50_1,p50_2,p50_3,p51_0,p51_1,p51_2,p51_3⟩ ?_
    iterate 10 (refine zT rfl rfl (fun w' ⟨p1_2,p1_3,p50_0,p50_1,p50_2,p50_3,p51_0,p51_1,p51_2,p51_3⟩=>by go_simp<;>with_reducible rfl) ?_;try simp only[Act.put,uX,uY,uZ])
    refine zC 53 rfl rfl (fun K hK=>?_)
    go_simp
    with_reducible refine(cmp_q ((hq.o.fr x (List.mem_of_getElem? HXI.out)).below (zAa hB (zAa (b:=wr) Bz (by go_grown)))).r ((hq.h.fr y (List.mem_of_getElem? HYI.out)).below (zAa hB (zAa (b:=wr) Bz (by go_grown)))).r (by omega) z HZZ).mono ?_
    rintro e w1 ⟨rfl,b1⟩
    replace b1:=zAa (a:=wr) (by go_grown) b1
    replace Bz:=zAa Bz b1
    clear b1
    clear p1_2 p1_3 p50_0 p50_1 p50_2 p50_3 p51_0 p51_1 p51_2 p51_3
    obtain⟨-,-,p1_2,p1_3,-⟩:=(zx HX1 Bz).cz
    obtain⟨p50_0,p50_1,p50_2,p50_3,-⟩:=(hnd.below (zAa hB Bz)).ez
    obtain⟨p51_0,p51_1,p51_2,p51_3,-⟩:=(hnd'.below (zAa hB Bz)).ez
    refine hK.out _ _ ⟨p1_2,p1_3,p50_0,p50_1,p50_2,p50_3,p51_0,p51_1,p51_2,p51_3⟩ (fun _=>?_)
    try simp only[Act.put,uX,uY,uZ]
    clear hK K
    refine zT rfl rfl (fun w' ⟨p1_2,p1_3,p50_0,p50_1,p50_2,p50_3,p51_0,p51_1,p51_2,p51_3⟩=>by go_simp<;>with_reducible rfl) ?_
    try simp only[Act.put,uX,uY,uZ]
    refine wpPlan_done ?_
    go_wp2_with fail
    go_ret
    have hF:=zAa (c:=w1) hB Bz
    have HA:Hid (queryF (ni:Int) L q=23):=zh (by unfold queryF;rw[HZ.out];simp only;rw[if_neg (by rw[HOQ.out];simp),if_neg HNM.out,if_pos (show boxB q=false from all_no HZI.out HP.out)])
    exact⟨by rw[HA.out];rfl,zAa (zAa hB Bz) (by go_grown)⟩
   ·have HP:Hid (boxP (x,y)=true):=zh (by unfold boxP;simp only;rw[HZZ.out];simpa using hz)
    have Bz:=Below.refl wr.heap.size wr
    obtain⟨-,-,p1_2,p1_3,-⟩:=(zx HX1 Bz).cz
    obtain⟨p50_0,p50_1,p50_2,p50_3,-⟩:=(hnd.below (zAa hB Bz)).ez
    obtain⟨p51_0,p51_1,p51_2,p51_3,-⟩:=(hnd'.below (zAa hB Bz)).ez
    go_wp2_with fail
    (try simp only[List.append_eq,List.cons_append,List.nil_append])
    refine wp_region_plan (.take 0 (.take 1 (.take 2 (.take 3 (.take 4 (.take 5 (.take 6 (.take 7 (.take 8 (.take 9 (.only 10 (.take 11 .done)))))))))))) [] (fun w'=>w'.cell? ⟨w.heap.size+1,2,none⟩=some (.slice (some ⟨b,off,none⟩) q.on q.oc)∧w'.cell? ⟨w.heap.size+1,3,none⟩=some (.slice (some ⟨b',off',none⟩) q.hn q.hc)∧w'.cell? ⟨b,off+i*4,none⟩=some (.bool x.s)∧w'.cell? ⟨b,off+i*4+1,none⟩=some (.slice x.A x.l x.c)∧w'.cell? ⟨b,off+i*4+2,none⟩=some (.bool x.s')∧w'.cell? ⟨b,off+i*4+3,none⟩=some (.slice x.A' x.l' x.c')∧w'.cell? ⟨b',off'+i*4,none⟩=some (.bool y.s)∧w'.cell? ⟨b',off'+i*4+1,none⟩=some (.slice y.A y.l y.c)∧w'.cell? ⟨b',off'+i*4+2,none⟩=some (.bool y.s')∧w'.cell? ⟨b',off'+i*4+3,none⟩=some (.slice y.A' y.l' y.c')) (by kernel_rfl) (by kernel_rfl) ⟨p1_2,p1_3,p50_0,p50_1,p50_2,p50_3,p51_0,p51_1,p51_2,p51_3⟩ ?_
    iterate 10 (refine zT rfl rfl (fun w' ⟨p1_2,p1_3,p50_0,p50_1,p50_2,p50_3,p51_0,p51_1,p51_2,p51_3⟩=>by go_simp<;>with_reducible rfl) ?_;try simp only[Act.put,uX,uY,uZ])
    refine zC 53 rfl rfl (fun K hK=>?_)
    go_simp
    with_reducible refine(cmp_q ((hq.o.fr x (List.mem_of_getElem? HXI.out)).below (zAa hB (zAa (b:=wr) Bz (by go_grown)))).r ((hq.h.fr y (List.mem_of_getElem? HYI.out)).below (zAa hB (zAa (b:=wr) Bz (by go_grown)))).r (by omega) z HZZ).mono ?_
    rintro e w1 ⟨rfl,b1⟩
    replace b1:=zAa (a:=wr) (by go_grown) b1
    replace Bz:=zAa Bz b1
    clear b1
    clear p1_2 p1_3 p50_0 p50_1 p50_2 p50_3 p51_0 p51_1 p51_2 p51_3
    obtain⟨-,-,p1_2,p1_3,-⟩:=(zx HX1 Bz).cz
    obtain⟨p50_0,p50_1,p50_2,p50_3,-⟩:=(hnd.below (zAa hB Bz)).ez
    obtain⟨p51_0,p51_1,p51_2,p51_3,-⟩:=(hnd'.below (zAa hB Bz)).ez
    refine hK.out _ _ ⟨p1_2,p1_3,p50_0,p50_1,p50_2,p50_3,p51_0,p51_1,p51_2,p51_3⟩ (fun _=>?_)
    try simp only[Act.put,uX,uY,uZ]
    clear hK K
    refine zT rfl rfl (fun w' ⟨p1_2,p1_3,p50_0,p50_1,p50_2,p50_3,p51_0,p51_1,p51_2,p51_3⟩=>by go_simp<;>with_reducible rfl) ?_
    try simp only[Act.put,uX,uY,uZ]
    refine wpPlan_done ?_
    go_wp2_with fail
    go_roundg (ni-(i+1))
    case measure=>have:=HGK.out;omega
    case rel=>exact⟨⟨i+1,by omega,rfl,by go_num,zAa (zAa hB Bz) (by go_grown),(by have:=HX1.out.below (zAa Bz (by go_grown));rwa [←HOA.out,←HHA.out] at this),take_all HD.out HZI.out HP.out⟩,zAa (zAa hBW Bz) (by go_grown)⟩
  ·obtain rfl:i=ni:=by omega
   have i1:¬(i:Int)<(i:Int):=by omega
   have HBX:Hid (boxB q=true):=zh (by have:=all_yes HZL.out HD.out;exact this)
   obtain⟨ub,uo,rfl,uel⟩:=HU.out.at ics_len (by omega) (by omega)
   obtain⟨last,hla⟩:∃x,l[nl]?=some x:=⟨l[nl]'(by rw[HLL.out];omega),List.getElem?_eq_getElem _⟩
   have und:ElA w2 ub (uo+nl) (ics last):=by have:=uel nl last hla;rwa [Nat.mul_one] at this
   have HLA:Hid (l.getLastD 0=last):=zh (by rw[List.getLastD_eq_getLast?,List.getLast?_eq_getElem?,HLL.out,Nat.add_sub_cancel,hla];rfl)
   clear uel hla
   by_cases hneg:q.label<0
   ·have hnd:decide (q.label<0)=true:=decide_eq_true hneg
    have HA:Hid (queryF (i:Int) L q=24):=zh (by unfold queryF;rw[HZ.out];simp only;rw[if_neg (by rw[HOQ.out];simp),if_neg HNM.out,if_neg (by rw[HBX.out];simp),if_pos hneg])
    have Bz:=Below.refl wr.heap.size wr
    have p1_1:=(zx HX1 Bz).cell 1 (.int .i64 q.label) rfl
    go_wp2_with fail
    have w0:IntKind.i64.wrap (nl:Int)=(nl:Int):=IntWalk.i64_in _ (by omega)
    have w1':(0:Int)≤(nl:Int):=by omega
    have w2':(nl:Int)<(nl:Int)+1:=by omega
    (try simp only[List.append_eq,List.cons_append,List.nil_append])
    refine wp_region_plan (.take 0 (.take 1 (.take 2 (.take 3 (.take 4 (.take 5 (.take 6 (.take 7 (.take 8 (.take 9 (.take 10 (.take 11 (.take 12 (.take 13 .done)))))))))))))) [] (fun w'=>w'.cell? ⟨w.heap.size+1,1,none⟩=some (.int .i64 q.label)) (by kernel_rfl) (by kernel_rfl) p1_1 ?_
    iterate 4 (refine zT rfl rfl (fun w' p1_1=>by go_simp<;>with_reducible rfl) ?_;try simp only[Act.put,uX,uY,uZ])
    iterate 9 (refine zN rfl rfl ?_;try simp only[Act.put,uX,uY,uZ])
    refine zT rfl rfl (fun w' p1_1=>by go_simp<;>with_reducible rfl) ?_
    try simp only[Act.put,uX,uY,uZ]
    refine wpPlan_done ?_
    clear w0 w1' w2'
    go_wp2_with fail
    go_ret
    have hF:=zAa (c:=wr) hB Bz
    exact⟨by rw[HA.out];rfl,zAa (zAa hB Bz) (by go_grown)⟩
   ·have hnd:decide (q.label<0)=false:=decide_eq_false hneg
    by_cases hhi:last≤q.label
    ·have HA:Hid (queryF (i:Int) L q=24):=zh (by unfold queryF;rw[HZ.out];simp only;rw[if_neg (by rw[HOQ.out];simp),if_neg HNM.out,if_neg (by rw[HBX.out];simp),if_neg hneg,if_pos (by rw[HLA.out];exact hhi)])
     have Bz:=Below.refl wr.heap.size wr
     have p1_1:=(zx HX1 Bz).cell 1 (.int .i64 q.label) rfl
     have p50_0:=(und.below (zAa hBW Bz)).c0 (u:=.int .i64 last) rfl
     go_wp2_with fail
     have w0:IntKind.i64.wrap (nl:Int)=(nl:Int):=IntWalk.i64_in _ (by omega)
     have w1':(0:Int)≤(nl:Int):=by omega
     have w2':(nl:Int)<(nl:Int)+1:=by omega
     (try simp only[List.append_eq,List.cons_append,List.nil_append])
     refine wp_region_plan (.take 0 (.take 1 (.take 2 (.take 3 (.take 4 (.take 5 (.take 6 (.take 7 (.take 8 (.take 9 (.take 10 (.take 11 (.take 12 (.take 13 .done)))))))))))))) [] (fun w'=>w'.cell? ⟨w.heap.size+1,1,none⟩=some (.int .i64 q.label)∧w'.cell? ⟨ub,uo+nl,none⟩=some (.int .i64 last)) (by kernel_rfl) (by kernel_rfl) ⟨p1_1,p50_0⟩ ?_
     iterate 14 (refine zT rfl rfl (fun w' ⟨p1_1,p50_0⟩=>by go_simp<;>with_reducible rfl) ?_;try simp only[Act.put,uX,uY,uZ])
     refine wpPlan_done ?_
     clear w0 w1' w2'
     go_wp2_with fail
     go_ret
     have hF:=zAa (c:=wr) hB Bz
     exact⟨by rw[HA.out];rfl,zAa (zAa hB Bz) (by go_grown)⟩
    ·have HA:Hid (queryF (i:Int) L q=0):=zh (by unfold queryF;rw[HZ.out];simp only;rw[if_neg (by rw[HOQ.out];simp),if_neg HNM.out,if_neg (by rw[HBX.out];simp),if_neg hneg,if_neg (by rw[HLA.out];exact hhi)])
     have Bz:=Below.refl wr.heap.size wr
     have p1_1:=(zx HX1 Bz).cell 1 (.int .i64 q.label) rfl
     have p50_0:=(und.below (zAa hBW Bz)).c0 (u:=.int .i64 last) rfl
     go_wp2_with fail
     have w0:IntKind.i64.wrap (nl:Int)=(nl:Int):=IntWalk.i64_in _ (by omega)
     have w1':(0:Int)≤(nl:Int):=by omega
     have w2':(nl:Int)<(nl:Int)+1:=by omega
     (try simp only[List.append_eq,List.cons_append,List.nil_append])
     refine wp_region_plan (.take 0 (.take 1 (.take 2 (.take 3 (.take 4 (.take 5 (.take 6 (.take 7 (.take 8 (.take 9 (.take 10 (.take 11 (.take 12 (.take 13 .done)))))))))))))) [] (fun w'=>w'.cell? ⟨w.heap.size+1,1,none⟩=some (.int .i64 q.label)∧w'.cell? ⟨ub,uo+nl,none⟩=some (.int .i64 last)) (by kernel_rfl) (by kernel_rfl) ⟨p1_1,p50_0⟩ ?_
     iterate 14 (refine zT rfl rfl (fun w' ⟨p1_1,p50_0⟩=>by go_simp<;>with_reducible rfl) ?_;try simp only[Act.put,uX,uY,uZ])
     refine wpPlan_done ?_
     clear w0 w1' w2'
     go_wp2_with fail
     go_ret
     have hF:=zAa (c:=wr) hB Bz
     exact⟨by rw[HA.out];rfl,zAa (zAa hB Bz) (by go_grown)⟩
theorem query_q {w:World} {m:Nat} {inp:Int} {lA:Option Addr} {ln lc:Nat} {L:List Ly} {q:Qy} (h:Sl Ly.cs 13 w lA ln lc L) (hok:Hid (∀y∈L,LyOk w m y)) (hm:m≤20000) (hln:ln≤9223372036854775807) (hq:QyOk w m q) (hT:Hid (Tab w)) :
  Calls Tryd.prog 10 #[.agg #[.int .i64 inp,.slice lA ln lc],.agg #[.slice q.xA q.xn q.xc,.int .i64 q.label,.slice q.oA q.on q.oc,.slice q.hA q.hn q.hc,.int .u8 q.norm]] w fun e w'=>e=.returned (.int .i64 (queryF inp L q))∧Below w.heap.size w w':=by
 cases hz:zAc inp L with
 | error z =>
  have hz2:=sizes_err hz
  exact query_er h hok hm hln hq (zh hz) (by rcases hz2 with rfl | rfl<;>rfl) (zh (by unfold queryF;rw[hz])) hT
 | ok l =>
  have e3:[q.x,q.o,q.h].all (okV inp)=okQ inp q:=by simp[okQ]
  cases ho:okQ inp q
  ·exact query_sh h hok hm hln hq (zh hz) (zh (e3.trans ho)) (zh (by unfold queryF;rw[hz];simp only;rw[if_pos ho])) hT
  ·by_cases n1:q.norm=1
   ·obtain⟨ni,rfl⟩:∃ni:Nat,inp=(ni:Int):=⟨inp.toNat,by have:=(sizes_steps hz).1;omega⟩
    exact query_m1 h hok hm hln hq (zh hz) (zh (e3.trans ho)) (by simp[n1]) (zh ho) (zh fun hx=>hx.1 n1) hT
   ·by_cases n2:q.norm=2
    ·obtain⟨ni,rfl⟩:∃ni:Nat,inp=(ni:Int):=⟨inp.toNat,by have:=(sizes_steps hz).1;omega⟩
     exact query_m2 h hok hm hln hq (zh hz) (zh (e3.trans ho)) (by simp[n1]) (by simp[n2]) (zh ho) (zh fun hx=>hx.2 n2) hT
    ·exact query_nm h hok hm hln hq (zh hz) (zh (e3.trans ho)) (by simp[n1]) (by simp[n2]) (zh (by unfold queryF;rw[hz];simp only;rw[if_neg (by rw[ho];simp),if_pos ⟨n1,n2⟩])) hT
open Go.RowKit Tw
theorem Sl.lit {α:Type} {f:α→List Value} {k:Nat} {w:World} {b:Nat} {cs:Array Value} {te:TypeId} {L:List α} {n:Nat} (h:Bx w b cs te) (hcs:cs.toList=flat f L) (hl:L.length=n) (hk:∀x,(f x).length=k):Sl f k w (some ⟨b,0,none⟩) n n L:=by
 subst hl
 refine⟨rfl,by rw[flat_len hk],_,_,rfl,(fun h=>(by cases h)),fun a ha j u hu=>?_⟩
 cases ha
 rw[add_off,Nat.zero_add]
 refine h.cell j u ?_
 rw[←hcs] at hu
 simpa using hu
def TellsNt (w:World) (inp:Int) (P:List Ly→Prop) (e:Ending) (w':World):Prop :=
 ∃A n c L,e=.returned (.agg #[.int .i64 inp,.slice A n c])∧Sl Ly.cs 13 w' A n c L∧n≤20∧(∀y∈L,LyOk w' 1 y)∧P L∧Below w.heap.size w w'
def smallL (_at_:Int) (rA:Option Addr) (v:Vc) (bA:Option Addr) (b:Fr):List Ly :=
 [⟨1,rA,1,1,[v],bA,1,1,[b],0,0,0,0,0,0,0,0,none,0,0,[],none,0,0,[]⟩,⟨3,none,0,0,[],none,0,0,[],0,0,0,0,0,0,0,0,none,0,0,[],none,0,0,[]⟩]
theorem small_sizes {at_:Int} {rA:Option Addr} {v:Vc} {bA:Option Addr} {b f:Fr} (hv:v.L=[⟨at_,f⟩]) (hn:v.n=1) (hf:f.q≠0∧f.ex=true) (hb:b.ex=true) :
  zAc 2 (smallL at_ rA v bA b)=if 0≤at_∧at_<2 then .ok [2,1,1] else .error 22:=by
 by_cases h:0≤at_∧at_<2
 ·rw[if_pos h]
  have e1:rightB v.L 2=true:=by rw[hv];simp[rightB,rightAt,h.1,h.2,hf.1,hf.2]
  simp[zAc,smallL,stepsF,zAe,affineF,plainB,nums,e1,hb,lens,hn,reluB,Except.map]
 ·rw[if_neg h]
  have e1:rightB v.L 2=false:=by
   rw[hv]
   have:¬(0≤at_)∨¬(at_<2):=by omega
   rcases this with h | h<;>simp[rightB,rightAt,h]
  simp[zAc,smallL,stepsF,zAe,affineF,plainB,nums,e1]
def SmallP (at_:Int) (L:List Ly):Prop:=L.length=2∧zAc 2 L=if 0≤at_∧at_<2 then .ok [2,1,1] else .error 22
theorem small_q {w:World} (at_:Int) (hT:Hid (Tab w)):Calls Tryd.prog 11 #[.int .i64 at_] w (TellsNt w 2 (SmallP at_)):=by
 obtain⟨W,hW,x0,hB⟩:=zAb w #[.int .i64 0,.slice none 0 0] 30
 have HX0:=zh x0
 clear x0
 have Bz:=Below.refl W.heap.size W
 go_enter Tryd.func11,Tryd.ntmps11
 go_upto_region 1 with(fail)
 rw[←hW]
 clear hW
 go_wp2_with fail
 with_reducible refine(of_q 3 1 (zh (by omega)) (zh (by omega)) (zh (Tab.below hT.out (zAa hB (zAa (b:=W) Bz (by go_grown)))))).mono ?_
 rintro e w1 ⟨s1,A1,c1,l1,s1r,A1r,c1r,l1r,rfl,h1,b1⟩
 replace b1:=zAa (a:=W) (by go_grown) b1
 replace Bz:=zAa Bz b1
 clear b1
 go_wp2_with fail
 obtain⟨V1,hW,x1,hN⟩:=zAb w1 #[.int .i64 at_,.bool s1,.slice A1 l1 c1,.bool s1r,.slice A1r l1r c1r] 57
 have hs1:V1.heap.size=w1.heap.size+1:=by rw[hW];simp
 rw[←hW]
 clear hW
 obtain⟨v1,hb1⟩:∃b,b=w1.heap.size:=⟨_,rfl⟩
 rw[←hb1] at x1 hs1 ⊢
 have o0_1:w.heap.size<v1:=by have:=(zx HX0 Bz).lt;omega
 have ow_1:w.heap.size≤v1:=by have:=zw hB Bz;omega
 replace h1:=h1.below hN
 replace hB:=zAa (zAa hB Bz) hN
 replace HX0:=zh ((zx HX0 Bz).below hN)
 have HX1:=zh x1
 clear x1 hN Bz hb1
 have Bz:=Below.refl V1.heap.size V1
 obtain⟨V2,hW,x2,hN⟩:=zAb V1 #[.slice (some ⟨v1,0,none⟩) 1 1] 54
 have hs2:V2.heap.size=V1.heap.size+1:=by rw[hW];simp
 rw[←hW]
 clear hW
 rw[hs1] at x2 hs2
 obtain⟨v2,hb2⟩:∃b,b=v1+1:=⟨_,rfl⟩
 rw[←hb2] at x2 hs2  ⊢
 have o0_2:w.heap.size<v2:=by have:=(zx HX0 Bz).lt;omega
 have o1_2:v1<v2:=by have:=(zx HX1 Bz).lt;omega
 have ow_2:w.heap.size≤v2:=by have:=zw hB Bz;omega
 replace h1:=h1.below hN
 replace hB:=zAa (zAa hB Bz) hN
 replace HX0:=zh ((zx HX0 Bz).below hN)
 replace HX1:=zh ((zx HX1 Bz).below hN)
 have HX2:=zh x2
 clear x2 hN Bz hb2
 have Bz:=Below.refl V2.heap.size V2
 clear hs1
 with_reducible refine(of_q 1 2 (zh (by omega)) (zh (by omega)) (zh (Tab.below hT.out (zAa hB (zAa (b:=V2) Bz (by go_grown)))))).mono ?_
 rintro e w2 ⟨s2,A2,c2,l2,s2r,A2r,c2r,l2r,rfl,h2,b2⟩
 replace b2:=zAa (a:=V2) (by go_grown) b2
 replace h1:=h1.below b2
 replace Bz:=zAa Bz b2
 clear b2
 obtain⟨p0_0,p0_1,-⟩:=(zx HX0 Bz).cz
 have f0_0:=(zx HX0 Bz).frozen 0
 have f0_1:=(zx HX0 Bz).frozen 1
 have y0:=(zx HX0 Bz).lt
 go_wp2_with fail
 clear p0_0 p0_1 f0_0 f0_1 y0
 obtain⟨p0_0,p0_1,-⟩:=(zx HX0 Bz).cz
 obtain⟨V3,hW,x,kk,far,bel⟩:=store2 (.int .i64 2) (.slice (some ⟨w2.heap.size+1,0,none⟩) 2 2) (zx HX0 Bz) nofun nofun
 have hzV3:V3.heap.size=w2.heap.size:=by rw[hW];simp
 rw[←hW]
 clear hW
 replace h1:=h1.k kk
 replace h2:=h2.k kk
 replace hB:=bel w.heap.size w (by omega) (zAa hB Bz)
 replace HX1:=zh (far _ _ _ (by omega) (zx HX1 Bz))
 replace HX2:=zh (far _ _ _ (by omega) (zx HX2 Bz))
 replace HX0:=zh x
 clear x kk far bel Bz
 have Bz:=Below.refl V3.heap.size V3
 clear p0_0 p0_1
 have hz:V3.heap.size=w2.heap.size:=by omega
 obtain⟨V4,hW,x3,hN⟩:=zAb V3 #[.bool s2,.slice A2 l2 c2,.bool s2r,.slice A2r l2r c2r] 27
 have hs3:V4.heap.size=V3.heap.size+1:=by rw[hW];simp
 rw[←hW]
 clear hW
 rw[hz] at x3 hs3
 obtain⟨v3,hb3⟩:∃b,b=w2.heap.size:=⟨_,rfl⟩
 rw[←hb3] at x3 hs3 HX0 ⊢
 have o0_3:w.heap.size<v3:=by have:=(zx HX0 Bz).lt;omega
 have o1_3:v1<v3:=by have:=(zx HX1 Bz).lt;omega
 have o2_3:v2<v3:=by have:=(zx HX2 Bz).lt;omega
 have ow_3:w.heap.size≤v3:=by have:=zw hB Bz;omega
 replace h1:=h1.below hN
 replace h2:=h2.below hN
 replace hB:=zAa (zAa hB Bz) hN
 replace HX0:=zh ((zx HX0 Bz).below hN)
 replace HX1:=zh ((zx HX1 Bz).below hN)
 replace HX2:=zh ((zx HX2 Bz).below hN)
 have HX3:=zh x3
 clear x3 hN Bz hb3
 have Bz:=Below.refl V4.heap.size V4
 obtain⟨V5,hW,x4,hN⟩:=zAb V4 #[.int .u8 1,.slice (some ⟨v2,0,none⟩) 1 1,.slice (some ⟨v3,0,none⟩) 1 1,.int .i64 0,.int .i64 0,.int .i64 0,.int .i64 0,.int .i64 0,.int .i64 0,.int .i64 0,.int .i64 0,.slice none 0 0,.slice none 0 0,.int .u8 3,.slice none 0 0,.slice none 0 0,.int .i64 0,.int .i64 0,.int .i64 0,.int .i64 0,.int .i64 0,.int .i64 0,.int .i64 0,.int .i64 0,.slice none 0 0,.slice none 0 0] 38
 have hs4:V5.heap.size=V4.heap.size+1:=by rw[hW];simp
 rw[←hW]
 clear hW
 rw[hs3] at x4 hs4
 obtain⟨v4,hb4⟩:∃b,b=v3+1:=⟨_,rfl⟩
 rw[←hb4] at x4 hs4 HX0 ⊢
 have o0_4:w.heap.size<v4:=by have:=(zx HX0 Bz).lt;omega
 have o1_4:v1<v4:=by have:=(zx HX1 Bz).lt;omega
 have o2_4:v2<v4:=by have:=(zx HX2 Bz).lt;omega
 have o3_4:v3<v4:=by have:=(zx HX3 Bz).lt;omega
 have ow_4:w.heap.size≤v4:=by have:=zw hB Bz;omega
 replace h1:=h1.below hN
 replace h2:=h2.below hN
 replace hB:=zAa (zAa hB Bz) hN
 replace HX0:=zh ((zx HX0 Bz).below hN)
 replace HX1:=zh ((zx HX1 Bz).below hN)
 replace HX2:=zh ((zx HX2 Bz).below hN)
 replace HX3:=zh ((zx HX3 Bz).below hN)
 have HX4:=zh x4
 clear x4 hN Bz hb4
 have Bz:=Below.refl V5.heap.size V5
 clear hs3
 obtain⟨p0_0,p0_1,-⟩:=(zx HX0 Bz).cz
 have f0_0:=(zx HX0 Bz).frozen 0
 have f0_1:=(zx HX0 Bz).frozen 1
 have y0:=(zx HX0 Bz).lt
 (try simp only[Exit.inBlock,Exit.then])
 refine bodyPost_ret (by simp[results,Tryd.results11,go_sem,p0_0,p0_1];try rfl) rfl ?_
 have hF:=zAa (c:=V5) hB Bz
 have F1:FrOk V5 1 ⟨s1,A1,c1,l1,s1r,A1r,c1r,l1r,qof 3 1,true⟩:=(h1.below (Below.refl _ _)).fr (sz_one (by decide) (by decide) (by decide))
 have F2:FrOk V5 1 ⟨s2,A2,c2,l2,s2r,A2r,c2r,l2r,qof 1 2,true⟩:=(h2.below (Below.refl _ _)).fr (sz_one (by decide) (by decide) (by decide))
 have S1:=Sl.lit (f:=Tm.cs) (L:=[⟨at_,⟨s1,A1,c1,l1,s1r,A1r,c1r,l1r,qof 3 1,true⟩⟩]) HX1.out rfl rfl Tm.cs_len
 have S2:=Sl.lit (f:=Vc.cs) (L:=[⟨some ⟨v1,0,none⟩,1,1,[⟨at_,⟨s1,A1,c1,l1,s1r,A1r,c1r,l1r,qof 3 1,true⟩⟩]⟩]) HX2.out rfl rfl Vc.cs_len
 have S3:=Sl.lit (f:=Fr.cs) (L:=[⟨s2,A2,c2,l2,s2r,A2r,c2r,l2r,qof 1 2,true⟩]) HX3.out rfl rfl Fr.cs_len
 have S4:=Sl.lit (f:=Ly.cs) (L:=smallL at_ (some ⟨v2,0,none⟩) ⟨some ⟨v1,0,none⟩,1,1,[⟨at_,⟨s1,A1,c1,l1,s1r,A1r,c1r,l1r,qof 3 1,true⟩⟩]⟩ (some ⟨v3,0,none⟩) ⟨s2,A2,c2,l2,s2r,A2r,c2r,l2r,qof 1 2,true⟩) HX4.out rfl rfl Ly.cs_len
 refine⟨_,_,_,_,rfl,S4.below Bz,by omega,fun y hy=>?_,⟨rfl,small_sizes rfl rfl ⟨?_,rfl⟩ rfl⟩,hF⟩
 ·unfold smallL at hy
  simp only[List.mem_cons,List.not_mem_nil,or_false] at hy
  rcases hy with rfl | rfl
  ·refine LyOk.below ⟨S2,fun v hv=>?_,S3,fun x hx=>?_,Sl.nil _,fun x hx=>?_,Sl.nil _,fun x hx=>?_,⟨by simp,by simp,by simp,by simp⟩⟩ Bz
   ·obtain rfl:=List.mem_singleton.1 hv;exact⟨S1,fun t ht=>by obtain rfl:=List.mem_singleton.1 ht;exact F1,by simp⟩
   ·obtain rfl:=List.mem_singleton.1 hx;exact F2
   ·cases hx
   ·cases hx
  ·exact⟨Sl.nil _,fun x hx=>(by cases hx),Sl.nil _,fun x hx=>(by cases hx),Sl.nil _,fun x hx=>(by cases hx),Sl.nil _,fun x hx=>(by cases hx),⟨by simp,by simp,by simp,by simp⟩⟩
 ·show qof 3 1≠0;decide
def picL (bA kA:Option Addr):List Ly:=[⟨2,none,0,0,[],bA,1,1,[zFr],1,2,2,1,2,2,1,1,kA,4,4,[zFr,zFr,zFr,zFr],none,0,0,[]⟩]
theorem pic_sizes (bA kA:Option Addr):zAc 4 (picL bA kA)=.ok [4,9]:=by
 simp[zAc,picL,stepsF,zAe,convF,sides,cHigh,cWide,cEach,cUnits,zFr,Except.map]
theorem pic_tells {w w':World} {bb kb lb:Nat} {cb ck cl:Array Value} {tb tk tl:TypeId} (hb:Bx w' bb cb tb) (hk:Bx w' kb ck tk) (hl:Bx w' lb cl tl) (e1:cb.toList=flat Fr.cs [zFr]) (e2:ck.toList=flat Fr.cs [zFr,zFr,zFr,zFr]) (e3:cl.toList=flat Ly.cs (picL (some ⟨bb,0,none⟩) (some ⟨kb,0,none⟩))) (hB:Below w.heap.size w w') :
  TellsNt w 4 (fun L=>L.length=1∧zAc 4 L=.ok [4,9]) (.returned (.agg #[.int .i64 4,.slice (some ⟨lb,0,none⟩) 1 1])) w':=by
 refine⟨_,_,_,picL (some ⟨bb,0,none⟩) (some ⟨kb,0,none⟩),rfl,Sl.lit hl e3 rfl Ly.cs_len,by omega,fun y hy=>?_,⟨rfl,pic_sizes _ _⟩,hB⟩
 unfold picL at hy
 obtain rfl:=List.mem_singleton.1 hy
 have z:∀x:Fr,x=zFr→FrOk w' 1 x:=fun x hx=>by rw[hx];exact zFr_ok w' (Nat.le_refl _)
 exact⟨Sl.nil _,fun x hx=>(by cases hx),Sl.lit hb e1 rfl Fr.cs_len,fun x hx=>z x (by simpa using hx),Sl.lit hk e2 rfl Fr.cs_len,fun x hx=>z x (by simpa using hx),Sl.nil _,fun x hx=>(by cases hx),⟨by simp,by simp,by simp,by simp⟩⟩
theorem make4 (n:Nat) (hn:n=4∨n=1) (w:World):(Instr.makeSlice 35 (.int .i64 (n:Int)) (.int .i64 (n:Int))).run Tryd.prog w=.ok (.slice (some ⟨w.heap.size,0,none⟩) n n) (w.alloc (.cells (flat Fr.cs (List.replicate n ⟨false,none,0,0,false,none,0,0,0,true⟩)).toArray 27)):=by
 rcases hn with rfl | rfl<;>kernel_rfl
theorem picture_q {w:World}:Calls Tryd.prog 4 #[] w (TellsNt w 4 fun L=>L.length=1∧zAc 4 L=.ok [4,9]):=by
 have hm4:=make4 4 (.inl rfl)
 have hm1:=make4 1 (.inr rfl)
 simp only[Int.cast_ofNat_Int] at hm4 hm1
 go_enter Tryd.func4,Tryd.ntmps4
 go_upto_region 1 with(fail)
 go_region_with (fail)
 ·obtain⟨W,hW,x0,x1,x2,x3,hB⟩:=boxes4 w (#[.int .i64 4,.slice (some ⟨w.heap.size+1+1+1,0,none⟩) 1 1]) 30 ((flat Fr.cs [⟨false,none,0,0,false,none,0,0,0,true⟩,⟨false,none,0,0,false,none,0,0,0,true⟩,⟨false,none,0,0,false,none,0,0,0,true⟩,⟨false,none,0,0,false,none,0,0,0,true⟩]).toArray) 27 ((flat Fr.cs [⟨false,none,0,0,false,none,0,0,0,true⟩]).toArray) 27 (#[.int .u8 2,.slice none 0 0,.slice (some ⟨w.heap.size+1+1,0,none⟩) 1 1,.int .i64 1,.int .i64 2,.int .i64 2,.int .i64 1,.int .i64 2,.int .i64 2,.int .i64 1,.int .i64 1,.slice (some ⟨w.heap.size+1,0,none⟩) 4 4,.slice none 0 0]) 38
  rw[←hW]
  clear hW
  have p0_0:=x0.cell 0 (.int .i64 4) rfl
  have p0_1:=x0.cell 1 (.slice (some ⟨w.heap.size+1+1+1,0,none⟩) 1 1) rfl
  go_wp2_with fail
  (try simp only[Exit.inBlock,Exit.then])
  refine bodyPost_ret (by simp[results,Tryd.results4,go_sem,p0_0,p0_1];try rfl) rfl ?_
  exact pic_tells x2.drew x1.drew x3.drew (by rfl) (by rfl) (by rfl) (Below.drew hB)
 ·obtain⟨W,hW,x0,x1,x2,x3,hB⟩:=boxes4 w (#[.int .i64 4,.slice (some ⟨w.heap.size+1+1+1,0,none⟩) 1 1]) 30 ((flat Fr.cs [⟨false,none,0,0,false,none,0,0,0,true⟩]).toArray) 27 ((flat Fr.cs [⟨false,none,0,0,false,none,0,0,0,true⟩,⟨false,none,0,0,false,none,0,0,0,true⟩,⟨false,none,0,0,false,none,0,0,0,true⟩,⟨false,none,0,0,false,none,0,0,0,true⟩]).toArray) 27 (#[.int .u8 2,.slice none 0 0,.slice (some ⟨w.heap.size+1,0,none⟩) 1 1,.int .i64 1,.int .i64 2,.int .i64 2,.int .i64 1,.int .i64 2,.int .i64 2,.int .i64 1,.int .i64 1,.slice (some ⟨w.heap.size+1+1,0,none⟩) 4 4,.slice none 0 0]) 38
  rw[←hW]
  clear hW
  have p0_0:=x0.cell 0 (.int .i64 4) rfl
  have p0_1:=x0.cell 1 (.slice (some ⟨w.heap.size+1+1+1,0,none⟩) 1 1) rfl
  go_wp2_with fail
  (try simp only[Exit.inBlock,Exit.then])
  refine bodyPost_ret (by simp[results,Tryd.results4,go_sem,p0_0,p0_1];try rfl) rfl ?_
  exact pic_tells x1.drew x2.drew x3.drew (by rfl) (by rfl) (by rfl) (Below.drew hB)
open Go.RowKit Tw
def AllQ (w:World) (q:Rat) (L:List Fr):Prop:=∀x∈L,FrOk w 1 x∧x.q=q∧x.ex=true
theorem AllQ.k {w w':World} {q:Rat} {L:List Fr} (h:AllQ w q L) (hk:K64 w w'):AllQ w' q L:=fun x hx=>⟨(h x hx).1.k hk,(h x hx).2⟩
theorem AllQ.below {w w':World} {q:Rat} {L:List Fr} (h:AllQ w q L) (hb:Below w.heap.size w w'):AllQ w' q L:=fun x hx=>⟨(h x hx).1.below hb,(h x hx).2⟩
theorem AllQ.snoc {w:World} {q:Rat} {L:List Fr} {x:Fr} (h:AllQ w q L) (hx:FrOk w 1 x∧x.q=q∧x.ex=true):AllQ w q (L++[x]):=fun y hy=>by
 rcases List.mem_append.1 hy with hy | hy
 ·exact h y hy
 ·obtain rfl:=List.mem_singleton.1 hy;exact hx
def QE (w:World) (bq:Nat) (label:Int) (ql qh:Rat) (n gk:Nat) (s:Value) (wr:World):Prop :=
 ∃(i:Nat) (xA oA hA:Option Addr) (xc oc hc:Nat) (X O H:List Fr),i≤n∧n-i=gk∧s=.int .i64 (i:Int)∧Below w.heap.size w wr∧Bx wr w.heap.size #[.slice none 0 0,.int .i64 0,.slice none 0 0,.slice none 0 0,.int .u8 0] 47∧Bx wr bq #[.slice xA i xc,.int .i64 label,.slice oA i oc,.slice hA i hc,.int .u8 1] 47∧
  OwnR wr (bq+1) 27 4 (.slice xA i xc) i (flat Fr.cs X)∧OwnR wr (bq+1) 27 4 (.slice oA i oc) i (flat Fr.cs O)∧OwnR wr (bq+1) 27 4 (.slice hA i hc) i (flat Fr.cs H)∧
  Ap (.slice xA i xc) (.slice oA i oc)∧Ap (.slice xA i xc) (.slice hA i hc)∧Ap (.slice oA i oc) (.slice hA i hc)∧X.length=i∧O.length=i∧H.length=i∧AllQ wr 0 X∧AllQ wr ql O∧AllQ wr qh H
def TellsQy (w:World) (n:Nat) (ql qh:Rat) (label:Int) (e:Ending) (w':World):Prop :=
 ∃q:Qy,e=.returned (.agg #[.slice q.xA q.xn q.xc,.int .i64 q.label,.slice q.oA q.on q.oc,.slice q.hA q.hn q.hc,.int .u8 q.norm])∧QyOk w' 1 q∧q.label=label∧q.norm=1∧q.xn=n∧q.on=n∧q.hn=n∧AllQ w' 0 q.X∧AllQ w' ql q.O∧AllQ w' qh q.H∧Below w.heap.size w w'
theorem st5_0_1 {w:World} {b:Nat} {t:TypeId} {u0 u1 u2 u3 u4:Value} (v0:Value) (h0:Bx w b #[u0,u1,u2,u3,u4] t) (n0:∀n,u0≠.int .u64 n) :
  ∃W,W=w.setCell ⟨b,0,none⟩ v0∧Bx W b #[v0,u1,u2,u3,u4] t∧K64 w W∧(∀b' cs t',b'≠b→Bx w b' cs t'→Bx W b' cs t')∧(∀B w0,B≤b→Below B w0 w→Below B w0 W):=by
 have h1:Bx (w.setCell ⟨b,0,none⟩ v0) b #[v0,u1,u2,u3,u4] t:=h0.set 0 v0
 have k0:K64 (w) (w.setCell ⟨b,0,none⟩ v0):=K64.box h0 (i:=0) rfl n0 v0
 exact⟨_,rfl,h1,k0,fun b' cs t' hb hx=>(hx.far hb v0),fun B w0 hB hb=>(hb.setCell hB v0)⟩
theorem st5_2_1 {w:World} {b:Nat} {t:TypeId} {u0 u1 u2 u3 u4:Value} (v2:Value) (h0:Bx w b #[u0,u1,u2,u3,u4] t) (n2:∀n,u2≠.int .u64 n) :
  ∃W,W=w.setCell ⟨b,2,none⟩ v2∧Bx W b #[u0,u1,v2,u3,u4] t∧K64 w W∧(∀b' cs t',b'≠b→Bx w b' cs t'→Bx W b' cs t')∧(∀B w0,B≤b→Below B w0 w→Below B w0 W):=by
 have h3:Bx (w.setCell ⟨b,2,none⟩ v2) b #[u0,u1,v2,u3,u4] t:=h0.set 2 v2
 have k2:K64 (w) (w.setCell ⟨b,2,none⟩ v2):=K64.box h0 (i:=2) rfl n2 v2
 exact⟨_,rfl,h3,k2,fun b' cs t' hb hx=>(hx.far hb v2),fun B w0 hB hb=>(hb.setCell hB v2)⟩
theorem st5_3_1 {w:World} {b:Nat} {t:TypeId} {u0 u1 u2 u3 u4:Value} (v3:Value) (h0:Bx w b #[u0,u1,u2,u3,u4] t) (n3:∀n,u3≠.int .u64 n) :
  ∃W,W=w.setCell ⟨b,3,none⟩ v3∧Bx W b #[u0,u1,u2,v3,u4] t∧K64 w W∧(∀b' cs t',b'≠b→Bx w b' cs t'→Bx W b' cs t')∧(∀B w0,B≤b→Below B w0 w→Below B w0 W):=by
 have h4:Bx (w.setCell ⟨b,3,none⟩ v3) b #[u0,u1,u2,v3,u4] t:=h0.set 3 v3
 have k3:K64 (w) (w.setCell ⟨b,3,none⟩ v3):=K64.box h0 (i:=3) rfl n3 v3
 exact⟨_,rfl,h4,k3,fun b' cs t' hb hx=>(hx.far hb v3),fun B w0 hB hb=>(hb.setCell hB v3)⟩
theorem exQuery_q {w:World} (n:Nat) (hn:n≤1000) (lo hi label:Int) (hlo:-1000≤lo∧lo≤1000) (hhi:-1000≤hi∧hi≤1000) (hT:Hid (Tab w)) :
  Calls Tryd.prog 9 #[.int .i64 (n:Int),.int .i64 lo,.int .i64 hi,.int .i64 label] w (TellsQy w n (qof lo 1) (qof hi 1) label):=by
 have hszl:sz (qof lo 1)≤1:=sz_one (by omega) (by decide) (by decide)
 have hszh:sz (qof hi 1)≤1:=sz_one (by omega) (by decide) (by decide)
 obtain⟨W,hW,x0,hB⟩:=zAb w #[.slice none 0 0,.int .i64 0,.slice none 0 0,.slice none 0 0,.int .u8 0] 47
 have HX0:=zh x0
 clear x0
 have Bz:=Below.refl W.heap.size W
 go_enter Tryd.func9,Tryd.ntmps9
 go_upto_region 1 with(fail)
 rw[←hW]
 clear hW
 go_upto_region 2 with(fail)
 obtain⟨V1,hW,x1,hN⟩:=zAb W #[.slice none 0 0,.int .i64 label,.slice none 0 0,.slice none 0 0,.int .u8 1] 47
 rw[←hW]
 clear hW
 obtain⟨v1,hb1⟩:∃b,b=W.heap.size:=⟨_,rfl⟩
 rw[←hb1] at x1 ⊢
 have o0_1:w.heap.size<v1:=by have:=(zx HX0 Bz).lt;omega
 have ow_1:w.heap.size≤v1:=by have:=zw hB Bz;omega
 replace hB:=zAa (zAa hB Bz) hN
 replace HX0:=zh ((zx HX0 Bz).below hN)
 have HX1:=zh x1
 clear x1 hN Bz hb1
 have Bz:=Below.refl V1.heap.size V1
 go_wp2_with fail
 have HB1:=zh (zAa hB Bz)
 have XX0:=zh (zx HX0 Bz)
 have XX1:=zh (zx HX1 Bz)
 clear hB Bz HX0 HX1
 go_loopg [10] n (fun gk s wr=>QE w v1 label (qof lo 1) (qof hi 1) n gk s wr)
 case atStart=>exact⟨0,none,none,none,0,0,0,[],[],[],Nat.zero_le _,rfl,rfl,HB1.out,XX0.out,XX1.out,OwnR.nil _ _ _ _,OwnR.nil _ _ _ _,OwnR.nil _ _ _ _,Ap.nil _,Ap.nil _,Ap.nil _,rfl,rfl,rfl,(fun x hx=>(by cases hx)),(fun x hx=>(by cases hx)),(fun x hx=>(by cases hx))⟩
 case round =>
  clear HB1 XX0 XX1
  obtain⟨i,xA,oA,hA,xc,oc,hc,X,O,H,hi',hgk,rfl,hB,hx0,hx1,hoX,hoO,hoH,apXO,apXH,apOH,hXL,hOL,hHL,haX,haO,haH⟩:=hrel
  have HGK:=zh hgk
  have HXL:=zh hXL
  have HOL:=zh hOL
  have HHL:=zh hHL
  have HX0:=zh hx0
  have HX1:=zh hx1
  have apOX:=apXO.symm
  have apHX:=apXH.symm
  have apHO:=apOH.symm
  clear hgk hXL hOL hHL hx0 hx1
  by_cases hlt:i<n
  ·have i1:(i:Int)<(n:Int):=by omega
   have Bz:=Below.refl wr.heap.size wr
   have p1_0:=(zx HX1 Bz).cell 0 (.slice xA i xc) rfl
   go_wp2_with (at_builtin;refine And.left (b:=True) ?_)
   refine⟨?_,trivial⟩
   obtain⟨V1,hW,x2,hN⟩:=zAb wr #[.bool false,.slice none 0 0,.bool false,.slice none 0 0] 27
   rw[←hW]
   clear hW
   obtain⟨v2,hb2⟩:∃b,b=wr.heap.size:=⟨_,rfl⟩
   rw[←hb2] at x2 ⊢
   have o0_2:w.heap.size<v2:=by have:=(zx HX0 Bz).lt;omega
   have o1_2:v1<v2:=by have:=(zx HX1 Bz).lt;omega
   have ow_2:w.heap.size≤v2:=by have:=zw hB Bz;omega
   replace haH:=haH.below hN
   replace haO:=haO.below hN
   replace haX:=haX.below hN
   replace hoH:=hoH.below hN
   replace hoO:=hoO.below hN
   replace hoX:=hoX.below hN
   replace hB:=zAa (zAa hB Bz) hN
   replace HX0:=zh ((zx HX0 Bz).below hN)
   replace HX1:=zh ((zx HX1 Bz).below hN)
   have HX2:=zh x2
   clear x2 hN Bz hb2
   have Bz:=Below.refl V1.heap.size V1
   clear p1_0
   refine Elt.app elt_rat rfl _ _ rfl (v1+1) (.slice xA i xc) (i) (X) rfl hoX (.slice (some ⟨v2,0,none⟩) 1 1) (1) ([zFr]) rfl (From.one (zx HX2 Bz) (zFr) rfl (elt_rat.len _)) (by omega) (by have:=(zx HX1 Bz).lt;omega) ?_
   intro H1 c1 w1 ho1 hg1
   replace hB:=(zAa hB Bz).trans (hg1.below (by have:=zw hB Bz;omega) (fun g hg=>by have:=hoX.base g hg;omega))
   replace HX0:=zh (hg1.bx (zx HX0 Bz) (hoX.off (by omega)))
   replace HX1:=zh (hg1.bx (zx HX1 Bz) (hoX.off (by omega)))
   clear HX2
   have apOX':=hg1.ap hoO apOX
   have apXO':=apOX'.symm
   replace hoO:=hoO.grown hg1 apOX
   clear apOX apXO
   have apOX:=apOX'
   have apXO:=apXO'
   clear apOX' apXO'
   have apHX':=hg1.ap hoH apHX
   have apXH':=apHX'.symm
   replace hoH:=hoH.grown hg1 apHX
   clear apHX apXH
   have apHX:=apHX'
   have apXH:=apXH'
   clear apHX' apXH'
   replace haH:=haH.k hg1.k
   replace haO:=haO.k hg1.k
   replace haX:=haX.k hg1.k
   clear hg1 Bz
   have Bz:=Below.refl w1.heap.size w1
   have p1_0:=(zx HX1 Bz).cell 0 (.slice xA i xc) rfl
   have f1_0:=(zx HX1 Bz).frozen 0
   have y1:=(zx HX1 Bz).lt
   go_upto_region 6 with(fail)
   obtain⟨V2,hW,x,kk,far,bel⟩:=st5_0_1 (.slice H1 (i+1) c1) (zx HX1 Bz) nofun
   rw[←hW]
   clear hW
   replace haH:=haH.k kk
   replace haO:=haO.k kk
   replace haX:=haX.k kk
   replace ho1:=ho1.far far (by omega)
   replace hoH:=hoH.far far (by omega)
   replace hoO:=hoO.far far (by omega)
   replace hB:=bel w.heap.size w (by omega) (zAa hB Bz)
   replace HX0:=zh (far _ _ _ (by omega) (zx HX0 Bz))
   replace HX1:=zh x
   clear x kk far bel Bz
   have Bz:=Below.refl V2.heap.size V2
   clear p1_0 f1_0 y1
   have p1_2:=(zx HX1 Bz).cell 2 (.slice oA i oc) rfl
   have f1_2:=(zx HX1 Bz).frozen 2
   have y1:=(zx HX1 Bz).lt
   go_wp2_with fail
   (try simp only[List.append_eq,List.cons_append,List.nil_append])
   refine wp_region_plan (.pure 0 (.take 1 (.pure 2 (.only 3 (.only 4 (.only 5 (.pure 6 (.only 7 .done)))))))) [5,7] (fun w'=>w'.cell? ⟨v1,2,none⟩=some (.slice oA i oc)) (by kernel_rfl) (by kernel_rfl) p1_2 ?_
   refine zP rfl rfl (fun w'=>by go_simp<;>with_reducible rfl) ?_
   try simp only[Act.put,uX,uY,uZ]
   refine zT rfl rfl (fun w' p1_2=>by go_simp<;>with_reducible rfl) ?_
   try simp only[Act.put,uX,uY,uZ]
   refine zP rfl rfl (fun w'=>by go_simp<;>with_reducible rfl) ?_
   try simp only[Act.put,uX,uY,uZ]
   refine zC 27 rfl rfl (fun K hK=>?_)
   go_simp
   with_reducible refine(of_q lo 1 (zh (by omega)) (zh (by omega)) (zh (Tab.below hT.out (zAa hB (zAa (b:=V2) Bz (by go_grown)))))).mono ?_
   rintro e w2 ⟨s2,A2,c2,l2,s2r,A2r,c2r,l2r,rfl,h2,b2⟩
   replace b2:=zAa (a:=V2) (by go_grown) b2
   replace haH:=haH.below b2
   replace haO:=haO.below b2
   replace haX:=haX.below b2
   replace ho1:=ho1.below b2
   replace hoH:=hoH.below b2
   replace hoO:=hoO.below b2
   replace Bz:=zAa Bz b2
   clear b2
   clear p1_2 f1_2 y1
   have p1_2:=(zx HX1 Bz).cell 2 (.slice oA i oc) rfl
   have f1_2:=(zx HX1 Bz).frozen 2
   have y1:=(zx HX1 Bz).lt
   refine hK.out _ _ p1_2 (fun _=>?_)
   try simp only[Act.put,uX,uY,uZ]
   clear hK K
   refine zC 28 rfl rfl (fun K hK=>?_)
   go_simp
   refine hK.out _ _ (cell_al p1_2) (fun _=>?_)
   try simp only[Act.put,uX,uY,uZ]
   clear hK K
   refine wpPlan_late (o:=⟨some 29,_,_,_,_,_⟩) rfl rfl (by decide) (fun K hK=>?_)
   obtain⟨V3,hW,x2,hN⟩:=zAb w2 #[.bool s2,.slice A2 l2 c2,.bool s2r,.slice A2r l2r c2r] 27
   rw[←hW]
   clear hW
   obtain⟨v2,hb2⟩:∃b,b=w2.heap.size:=⟨_,rfl⟩
   rw[←hb2] at x2 ⊢
   have o0_2:w.heap.size<v2:=by have:=(zx HX0 Bz).lt;omega
   have o1_2:v1<v2:=by have:=(zx HX1 Bz).lt;omega
   have ow_2:w.heap.size≤v2:=by have:=zw hB Bz;omega
   replace haH:=haH.below hN
   replace haO:=haO.below hN
   replace haX:=haX.below hN
   replace h2:=h2.below hN
   replace ho1:=ho1.below hN
   replace hoH:=hoH.below hN
   replace hoO:=hoO.below hN
   replace hB:=zAa (zAa hB Bz) hN
   replace HX0:=zh ((zx HX0 Bz).below hN)
   replace HX1:=zh ((zx HX1 Bz).below hN)
   have HX2:=zh x2
   clear x2 hN Bz hb2
   have Bz:=Below.refl V3.heap.size V3
   clear p1_2 f1_2 y1
   refine Elt.wp elt_rat _ _ rfl (v1+1) (.slice oA i oc) (i) (O) rfl hoO (.slice (some ⟨v2,0,none⟩) 1 1) (1) ([⟨s2,A2,c2,l2,s2r,A2r,c2r,l2r,qof lo 1,true⟩]) rfl (From.one (zx HX2 Bz) (⟨s2,A2,c2,l2,s2r,A2r,c2r,l2r,qof lo 1,true⟩) rfl (elt_rat.len _)) (by omega) (by have:=(zx HX1 Bz).lt;omega) ?_
   intro H3 c3 w3 ho3 hg3
   refine hK.out _ _ ?_
   try simp only[Act.put,uX,uY,uZ]
   clear hK K
   replace hB:=(zAa hB Bz).trans (hg3.below (by have:=zw hB Bz;omega) (fun g hg=>by have:=hoO.base g hg;omega))
   replace HX0:=zh (hg3.bx (zx HX0 Bz) (hoO.off (by omega)))
   replace HX1:=zh (hg3.bx (zx HX1 Bz) (hoO.off (by omega)))
   clear HX2
   have apHO':=hg3.ap hoH apHO
   have apOH':=apHO'.symm
   replace hoH:=hoH.grown hg3 apHO
   clear apHO apOH
   have apHO:=apHO'
   have apOH:=apOH'
   clear apHO' apOH'
   have apXO':=hg3.ap ho1 apXO
   have apOX':=apXO'.symm
   replace ho1:=ho1.grown hg3 apXO
   clear apXO apOX
   have apXO:=apXO'
   have apOX:=apOX'
   clear apXO' apOX'
   replace haH:=haH.k hg3.k
   replace haO:=haO.k hg3.k
   replace haX:=haX.k hg3.k
   replace h2:=h2.k hg3.k
   clear hg3 Bz
   have Bz:=Below.refl w3.heap.size w3
   have p1_2:=(zx HX1 Bz).cell 2 (.slice oA i oc) rfl
   have f1_2:=(zx HX1 Bz).frozen 2
   have y1:=(zx HX1 Bz).lt
   refine zP rfl rfl (fun w'=>by go_simp<;>with_reducible rfl) ?_
   try simp only[Act.put,uX,uY,uZ]
   refine wpPlan_late (o:=⟨none,_,_,_,_,_⟩) rfl rfl (by decide) (fun K hK=>?_)
   go_simp
   refine hK.out _ _ ?_
   try simp only[Act.put,uX,uY,uZ]
   clear hK K
   refine wpPlan_done ?_
   obtain⟨V4,hW,x,kk,far,bel⟩:=st5_2_1 (.slice H3 (i+1) c3) (zx HX1 Bz) nofun
   rw[←hW]
   clear hW
   replace haH:=haH.k kk
   replace haO:=haO.k kk
   replace haX:=haX.k kk
   replace h2:=h2.k kk
   replace ho1:=ho1.far far (by omega)
   replace ho3:=ho3.far far (by omega)
   replace hoH:=hoH.far far (by omega)
   replace hB:=bel w.heap.size w (by omega) (zAa hB Bz)
   replace HX0:=zh (far _ _ _ (by omega) (zx HX0 Bz))
   replace HX1:=zh x
   clear x kk far bel Bz
   have Bz:=Below.refl V4.heap.size V4
   clear p1_2 f1_2 y1
   have p1_3:=(zx HX1 Bz).cell 3 (.slice hA i hc) rfl
   have f1_3:=(zx HX1 Bz).frozen 3
   have y1:=(zx HX1 Bz).lt
   go_wp2_with fail
   (try simp only[List.append_eq,List.cons_append,List.nil_append])
   refine wp_region_plan (.pure 0 (.take 1 (.pure 2 (.only 3 (.only 4 (.only 5 (.pure 6 (.only 7 .done)))))))) [5,7] (fun w'=>w'.cell? ⟨v1,3,none⟩=some (.slice hA i hc)) (by kernel_rfl) (by kernel_rfl) p1_3 ?_
   refine zP rfl rfl (fun w'=>by go_simp<;>with_reducible rfl) ?_
   try simp only[Act.put,uX,uY,uZ]
   refine zT rfl rfl (fun w' p1_3=>by go_simp<;>with_reducible rfl) ?_
   try simp only[Act.put,uX,uY,uZ]
   refine zP rfl rfl (fun w'=>by go_simp<;>with_reducible rfl) ?_
   try simp only[Act.put,uX,uY,uZ]
   refine zC 34 rfl rfl (fun K hK=>?_)
   go_simp
   with_reducible refine(of_q hi 1 (zh (by omega)) (zh (by omega)) (zh (Tab.below hT.out (zAa hB (zAa (b:=V4) Bz (by go_grown)))))).mono ?_
   rintro e w4 ⟨s4,A4,c4,l4,s4r,A4r,c4r,l4r,rfl,h4,b4⟩
   replace b4:=zAa (a:=V4) (by go_grown) b4
   replace haH:=haH.below b4
   replace haO:=haO.below b4
   replace haX:=haX.below b4
   replace h2:=h2.below b4
   replace ho1:=ho1.below b4
   replace ho3:=ho3.below b4
   replace hoH:=hoH.below b4
   replace Bz:=zAa Bz b4
   clear b4
   clear p1_3 f1_3 y1
   have p1_3:=(zx HX1 Bz).cell 3 (.slice hA i hc) rfl
   have f1_3:=(zx HX1 Bz).frozen 3
   have y1:=(zx HX1 Bz).lt
   refine hK.out _ _ p1_3 (fun _=>?_)
   try simp only[Act.put,uX,uY,uZ]
   clear hK K
   refine zC 35 rfl rfl (fun K hK=>?_)
   go_simp
   refine hK.out _ _ (cell_al p1_3) (fun _=>?_)
   try simp only[Act.put,uX,uY,uZ]
   clear hK K
   refine wpPlan_late (o:=⟨some 36,_,_,_,_,_⟩) rfl rfl (by decide) (fun K hK=>?_)
   obtain⟨V5,hW,x2,hN⟩:=zAb w4 #[.bool s4,.slice A4 l4 c4,.bool s4r,.slice A4r l4r c4r] 27
   rw[←hW]
   clear hW
   obtain⟨v2,hb2⟩:∃b,b=w4.heap.size:=⟨_,rfl⟩
   rw[←hb2] at x2 ⊢
   have o0_2:w.heap.size<v2:=by have:=(zx HX0 Bz).lt;omega
   have o1_2:v1<v2:=by have:=(zx HX1 Bz).lt;omega
   have ow_2:w.heap.size≤v2:=by have:=zw hB Bz;omega
   replace haH:=haH.below hN
   replace haO:=haO.below hN
   replace haX:=haX.below hN
   replace h2:=h2.below hN
   replace h4:=h4.below hN
   replace ho1:=ho1.below hN
   replace ho3:=ho3.below hN
   replace hoH:=hoH.below hN
   replace hB:=zAa (zAa hB Bz) hN
   replace HX0:=zh ((zx HX0 Bz).below hN)
   replace HX1:=zh ((zx HX1 Bz).below hN)
   have HX2:=zh x2
   clear x2 hN Bz hb2
   have Bz:=Below.refl V5.heap.size V5
   clear p1_3 f1_3 y1
   refine Elt.wp elt_rat _ _ rfl (v1+1) (.slice hA i hc) (i) (H) rfl hoH (.slice (some ⟨v2,0,none⟩) 1 1) (1) ([⟨s4,A4,c4,l4,s4r,A4r,c4r,l4r,qof hi 1,true⟩]) rfl (From.one (zx HX2 Bz) (⟨s4,A4,c4,l4,s4r,A4r,c4r,l4r,qof hi 1,true⟩) rfl (elt_rat.len _)) (by omega) (by have:=(zx HX1 Bz).lt;omega) ?_
   intro H5 c5 w5 ho5 hg5
   refine hK.out _ _ ?_
   try simp only[Act.put,uX,uY,uZ]
   clear hK K
   replace hB:=(zAa hB Bz).trans (hg5.below (by have:=zw hB Bz;omega) (fun g hg=>by have:=hoH.base g hg;omega))
   replace HX0:=zh (hg5.bx (zx HX0 Bz) (hoH.off (by omega)))
   replace HX1:=zh (hg5.bx (zx HX1 Bz) (hoH.off (by omega)))
   clear HX2
   have apXH':=hg5.ap ho1 apXH
   have apHX':=apXH'.symm
   replace ho1:=ho1.grown hg5 apXH
   clear apXH apHX
   have apXH:=apXH'
   have apHX:=apHX'
   clear apXH' apHX'
   have apOH':=hg5.ap ho3 apOH
   have apHO':=apOH'.symm
   replace ho3:=ho3.grown hg5 apOH
   clear apOH apHO
   have apOH:=apOH'
   have apHO:=apHO'
   clear apOH' apHO'
   replace haH:=haH.k hg5.k
   replace haO:=haO.k hg5.k
   replace haX:=haX.k hg5.k
   replace h2:=h2.k hg5.k
   replace h4:=h4.k hg5.k
   clear hg5 Bz
   have Bz:=Below.refl w5.heap.size w5
   have p1_3:=(zx HX1 Bz).cell 3 (.slice hA i hc) rfl
   have f1_3:=(zx HX1 Bz).frozen 3
   have y1:=(zx HX1 Bz).lt
   refine zP rfl rfl (fun w'=>by go_simp<;>with_reducible rfl) ?_
   try simp only[Act.put,uX,uY,uZ]
   refine wpPlan_late (o:=⟨none,_,_,_,_,_⟩) rfl rfl (by decide) (fun K hK=>?_)
   go_simp
   refine hK.out _ _ ?_
   try simp only[Act.put,uX,uY,uZ]
   clear hK K
   refine wpPlan_done ?_
   obtain⟨V6,hW,x,kk,far,bel⟩:=st5_3_1 (.slice H5 (i+1) c5) (zx HX1 Bz) nofun
   rw[←hW]
   clear hW
   replace haH:=haH.k kk
   replace haO:=haO.k kk
   replace haX:=haX.k kk
   replace h2:=h2.k kk
   replace h4:=h4.k kk
   replace ho1:=ho1.far far (by omega)
   replace ho3:=ho3.far far (by omega)
   replace ho5:=ho5.far far (by omega)
   replace hB:=bel w.heap.size w (by omega) (zAa hB Bz)
   replace HX0:=zh (far _ _ _ (by omega) (zx HX0 Bz))
   replace HX1:=zh x
   clear x kk far bel Bz
   have Bz:=Below.refl V6.heap.size V6
   clear p1_3 f1_3 y1
   go_wp2_with fail
   go_roundg (n-(i+1))
   case measure=>have:=HGK.out;omega
   case rel=>exact⟨i+1,_,_,_,_,_,_,_,_,_,by omega,rfl,by go_num,zAa hB Bz,HX0.out.below Bz,HX1.out.below Bz,ho1,ho3,ho5,apXO,apXH,apOH,by have:=HXL.out;simp;omega,by have:=HOL.out;simp;omega,by have:=HHL.out;simp;omega,haX.snoc ⟨zFr_ok _ (Nat.le_refl _),rfl,rfl⟩,haO.snoc ⟨(h2).fr hszl,rfl,rfl⟩,haH.snoc ⟨(h4).fr hszh,rfl,rfl⟩⟩
  ·obtain rfl:i=n:=by omega
   have i1:¬(i:Int)<(i:Int):=by omega
   have Bz:=Below.refl wr.heap.size wr
   obtain⟨p0_0,p0_1,p0_2,p0_3,p0_4,-⟩:=(zx HX0 Bz).cz
   have f0_0:=(zx HX0 Bz).frozen 0
   have f0_1:=(zx HX0 Bz).frozen 1
   have f0_2:=(zx HX0 Bz).frozen 2
   have f0_3:=(zx HX0 Bz).frozen 3
   have f0_4:=(zx HX0 Bz).frozen 4
   have y0:=(zx HX0 Bz).lt
   obtain⟨p1_0,p1_1,p1_2,p1_3,p1_4,-⟩:=(zx HX1 Bz).cz
   go_wp2_with fail
   (try simp only[Exit.inBlock,Exit.then])
   refine bodyPost_ret (by simp[results,Tryd.results9,go_sem,p0_0,p0_1,p0_2,p0_3,p0_4];try rfl) rfl ?_
   obtain⟨V1,hW,x,kk,far,bel⟩:=store5 (.slice xA i xc) (.int .i64 label) (.slice oA i oc) (.slice hA i hc) (.int .u8 1) (zx HX0 Bz) nofun nofun nofun nofun nofun
   rw[←hW]
   clear hW
   replace haH:=haH.k kk
   replace haO:=haO.k kk
   replace haX:=haX.k kk
   replace hoH:=hoH.far far (by omega)
   replace hoO:=hoO.far far (by omega)
   replace hoX:=hoX.far far (by omega)
   replace hB:=bel w.heap.size w (by omega) (zAa hB Bz)
   replace HX1:=zh (far _ _ _ (by omega) (zx HX1 Bz))
   replace HX0:=zh x
   clear x kk far bel Bz
   have Bz:=Below.refl V1.heap.size V1
   have hF:=zAa (c:=V1) hB Bz
   exact⟨⟨xA,i,xc,X,label,oA,i,oc,O,hA,i,hc,H,1⟩,rfl,⟨⟨hoX.sl' elt_rat HXL.out,fun x hx=>(haX x hx).1,(by show i≤100000;omega)⟩,⟨hoO.sl' elt_rat HOL.out,fun x hx=>(haO x hx).1,(by show i≤100000;omega)⟩,⟨hoH.sl' elt_rat HHL.out,fun x hx=>(haH x hx).1,(by show i≤100000;omega)⟩⟩,rfl,rfl,rfl,rfl,rfl,haX,haO,haH,hF⟩
open Go.RowKit Tw
def LysOk (w:World) (m:Nat) (L:List Ly):Prop:=∀y∈L,LyOk w m y
theorem LysOk.below {w w':World} {m:Nat} {L:List Ly} (h:LysOk w m L) (hb:Below w.heap.size w w'):LysOk w' m L:=fun y hy=>(h y hy).below hb
theorem LysOk.k' {w w':World} {m:Nat} {L:List Ly} (h:LysOk w m L) (hb:Below w.heap.size w w'):LysOk w' m L:=h.below hb
theorem check_is {w:World} {m:Nat} {inp:Int} {lA:Option Addr} {ln lc:Nat} {L:List Ly} (h:Sl Ly.cs 13 w lA ln lc L) (hok:LysOk w m L) (hm:m≤20000) (hln:ln≤9223372036854775807) (hT:Hid (Tab w)) (z:Int) (hz:Hid (checkF inp L=z)) :
  Calls Tryd.prog 5 #[.agg #[.int .i64 inp,.slice lA ln lc]] w fun e w'=>e=.returned (.int .i64 z)∧Below w.heap.size w w':=by
 rw[←hz.out];exact checkT_q h (zh hok) hm hln hT
theorem sizes_is {w:World} {m:Nat} {inp:Int} {lA:Option Addr} {ln lc:Nat} {L:List Ly} (h:Sl Ly.cs 13 w lA ln lc L) (hok:LysOk w m L) (hm:m≤20000) (hln:ln≤9223372036854775807) (hT:Hid (Tab w)) (l:List Int) (hl:Hid (listF inp L=l)) :
  Calls Tryd.prog 6 #[.agg #[.int .i64 inp,.slice lA ln lc]] w (TellsL w l):=by
 rw[←hl.out];exact sizesT_q h (zh hok) hm hln hT
theorem query_is {w:World} {m:Nat} {inp:Int} {lA:Option Addr} {ln lc:Nat} {L:List Ly} {q:Qy} (h:Sl Ly.cs 13 w lA ln lc L) (hok:LysOk w m L) (hm:m≤20000) (hln:ln≤9223372036854775807) (hq:QyOk w m q) (hT:Hid (Tab w)) (z:Int) (hz:Hid (queryF inp L q=z)) :
  Calls Tryd.prog 10 #[.agg #[.int .i64 inp,.slice lA ln lc],.agg #[.slice q.xA q.xn q.xc,.int .i64 q.label,.slice q.oA q.on q.oc,.slice q.hA q.hn q.hc,.int .u8 q.norm]] w fun e w'=>e=.returned (.int .i64 z)∧Below w.heap.size w w':=by
 rw[←hz.out];exact query_q h (zh hok) hm hln hq hT
def codeF:Except Int (List Int)→Int
 | .error k=>k
 | .ok _=>0
theorem check_of {inp:Int} {L:List Ly} {r:Except Int (List Int)} (h:zAc inp L=r):checkF inp L=codeF r:=by subst h;unfold checkF codeF;cases zAc inp L<;>rfl
theorem list_of {inp:Int} {L:List Ly} {l:List Int} (h:zAc inp L=.ok l):listF inp L=l:=by unfold listF;rw[h]
theorem SmallP.sz {a:Int} {L:List Ly} (h:SmallP a L):zAc 2 L=if 0≤a∧a<2 then .ok [2,1,1] else .error 22:=h.2
theorem SmallP.one {L:List Ly} (h:SmallP 1 L):zAc 2 L=.ok [2,1,1]:=h.sz.trans (if_pos (by omega))
theorem SmallP.two {L:List Ly} (h:SmallP 2 L):zAc 2 L=.error 22:=h.sz.trans (if_neg (by omega))
theorem small_is {w:World} (at_:Int) (hT:Hid (Tab w)):Calls Tryd.prog 11 #[.int .i64 at_] w fun e w'=>∃A n c L,e=.returned (.agg #[.int .i64 2,.slice A n c])∧Sl Ly.cs 13 w' A n c L∧n≤20∧LysOk w' 1 L∧Hid (SmallP at_ L)∧Below w.heap.size w w' :=
 (small_q at_ hT).mono fun _ _ ⟨A,n,c,L,h1,h2,h3,h4,h5,h6⟩=>⟨A,n,c,L,h1,h2,h3,h4,zh h5,h6⟩
theorem picture_is {w:World}:Calls Tryd.prog 4 #[] w fun e w'=>∃A n c L,e=.returned (.agg #[.int .i64 4,.slice A n c])∧Sl Ly.cs 13 w' A n c L∧n≤20∧LysOk w' 1 L∧Hid (L.length=1∧zAc 4 L=.ok [4,9])∧Below w.heap.size w w' :=
 (picture_q).mono fun _ _ ⟨A,n,c,L,h1,h2,h3,h4,h5,h6⟩=>⟨A,n,c,L,h1,h2,h3,h4,zh h5,h6⟩
def QyIs (q:Qy) (n:Nat) (a b:Rat) (label:Int):Prop:=q.label=label∧q.norm=1∧q.xn=n∧q.on=n∧q.hn=n∧q.X.length=n∧q.O.length=n∧q.H.length=n∧(∀x∈q.X,x.ex=true)∧(∀x∈q.O,x.ex=true∧x.q=a)∧(∀x∈q.H,x.ex=true∧x.q=b)
theorem query_val {inp:Int} {L:List Ly} {l:List Int} {q:Qy} {n:Nat} {a b:Rat} {label:Int} (h:zAc inp L=.ok l) (hq:QyIs q n a b label) (hn:(n:Int)=inp) (hn0:0<n) :
  queryF inp L q=if 0<cmpQ a b then 23 else if label<0 then 24 else if l.getLastD 0≤label then 24 else 0:=by
 obtain⟨h1,h2,h3,h4,h5,h6,h7,h8,h9,h10,h11⟩:=hq
 have e1:okQ inp q=true:=by
  have a1:q.X.all (fun x=>x.ex)=true:=List.all_eq_true.2 fun x hx=>h9 x hx
  have a2:q.O.all (fun x=>x.ex)=true:=List.all_eq_true.2 fun x hx=>(h10 x hx).1
  have a3:q.H.all (fun x=>x.ex)=true:=List.all_eq_true.2 fun x hx=>(h11 x hx).1
  simp[okQ,okV,Qy.x,Qy.o,Qy.h,h3,h4,h5,hn,a1,a2,a3]
 unfold queryF
 rw[h]
 simp only
 rw[if_neg (by rw[e1];simp),if_neg (by rw[h2];simp),h1]
 by_cases hc:0<cmpQ a b
 ·have:boxB q=false:=by
   unfold boxB
   rw[List.all_eq_false]
   obtain⟨x,hx⟩:∃x,q.O[0]?=some x:=⟨q.O[0]'(by omega),List.getElem?_eq_getElem _⟩
   obtain⟨y,hy⟩:∃y,q.H[0]?=some y:=⟨q.H[0]'(by omega),List.getElem?_eq_getElem _⟩
   refine⟨(x,y),List.mem_of_getElem? (i:=0) (List.getElem?_zip_eq_some.2 ⟨hx,hy⟩),?_⟩
   unfold boxP
   simp only
   rw[(h10 x (List.mem_of_getElem? hx)).2,(h11 y (List.mem_of_getElem? hy)).2]
   simpa using hc
  rw[if_pos this,if_pos hc]
 ·have:boxB q=true:=by
   unfold boxB
   rw[List.all_eq_true]
   rintro⟨x,y⟩ hp
   have hm:=List.of_mem_zip hp
   unfold boxP
   simp only
   rw[(h10 x hm.1).2,(h11 y hm.2).2]
   simpa using hc
  rw[if_neg (by rw[this];simp),if_neg hc]
theorem exQuery_is {w:World} (n:Nat) (z:Int) (hz:(n:Int)=z) (hn:n≤1000) (lo hi label:Int) (hlo:-1000≤lo∧lo≤1000) (hhi:-1000≤hi∧hi≤1000) (hT:Hid (Tab w)) :
  Calls Tryd.prog 9 #[.int .i64 z,.int .i64 lo,.int .i64 hi,.int .i64 label] w fun e w'=>∃q:Qy,e=.returned (.agg #[.slice q.xA q.xn q.xc,.int .i64 q.label,.slice q.oA q.on q.oc,.slice q.hA q.hn q.hc,.int .u8 q.norm])∧QyOk w' 1 q∧Hid (QyIs q n (qof lo 1) (qof hi 1) label)∧Below w.heap.size w w':=by
 subst hz
 exact(exQuery_q n hn lo hi label hlo hhi hT).mono fun _ _ ⟨q,h1,h2,h3,h4,h5,h6,h7,h8,h9,h10,h11⟩=>⟨q,h1,h2,zh ⟨h3,h4,h5,h6,h7,h2.x.1.1.trans h5,h2.o.1.1.trans h6,h2.h.1.1.trans h7,fun x hx=>(h8 x hx).2.2,fun x hx=>⟨(h9 x hx).2.2,(h9 x hx).2.1⟩,fun x hx=>⟨(h10 x hx).2.2,(h10 x hx).2.1⟩⟩,h11⟩
theorem awake10_q {w:World} (hT:Hid (Tab w)):Calls Tryd.prog 12 #[] w fun e w'=>e=.returned (.bool true)∧Below w.heap.size w w':=by
 have hB:=Below.refl w.heap.size w
 have Bz:=Below.refl w.heap.size w
 go_enter Tryd.func12,Tryd.ntmps12
 go_wp2_with fail
 with_reducible refine(small_is 1 (zh (Tab.below hT.out (zAa hB (zAa (b:=w) Bz (by go_grown)))))).mono ?_
 rintro e w1 ⟨A1,n1,c1,L1,rfl,hs1,hn1,hok1,hp1,b1⟩
 replace b1:=zAa (a:=w) (by go_grown) b1
 replace Bz:=zAa Bz b1
 clear b1
 go_upto_region 3 with(fail)
 obtain⟨V1,hW,x0,hN⟩:=zAb w1 #[.int .i64 65,.slice A1 n1 c1] 30
 rw[←hW]
 clear hW
 obtain⟨v0,hb0⟩:∃b,b=w1.heap.size:=⟨_,rfl⟩
 rw[←hb0] at x0 ⊢
 have ow_0:w.heap.size≤v0:=by have:=zw hB Bz;omega
 replace hok1:=hok1.below hN
 replace hs1:=hs1.below hN
 replace hB:=zAa (zAa hB Bz) hN
 have HX0:=zh x0
 clear x0 hN Bz hb0
 have Bz:=Below.refl V1.heap.size V1
 go_wp2_with fail
 with_reducible refine(small_is 1 (zh (Tab.below hT.out (zAa hB (zAa (b:=V1) Bz (by go_grown)))))).mono ?_
 rintro e w2 ⟨A2,n2,c2,L2,rfl,hs2,hn2,hok2,hp2,b2⟩
 replace b2:=zAa (a:=V1) (by go_grown) b2
 replace hok1:=hok1.below b2
 replace hs1:=hs1.below b2
 replace Bz:=zAa Bz b2
 clear b2
 go_wp2_with fail
 with_reducible refine(check_is (Sl.below hs2 (by go_grown)) (LysOk.below hok2 (by go_grown)) (by omega) (by omega) (zh (Tab.below hT.out (zAa hB (zAa (b:=w2) Bz (by go_grown))))) 0 (zh (check_of hp2.out.one))).mono ?_
 rintro e w3 ⟨rfl,b3⟩
 replace b3:=zAa (a:=w2) (by go_grown) b3
 replace hok1:=hok1.below b3
 replace hs1:=hs1.below b3
 replace Bz:=zAa Bz b3
 clear b3
 go_wp2_with fail
 with_reducible refine(small_is 1 (zh (Tab.below hT.out (zAa hB (zAa (b:=w3) Bz (by go_grown)))))).mono ?_
 rintro e w4 ⟨A4,n4,c4,L4,rfl,hs4,hn4,hok4,hp4,b4⟩
 replace b4:=zAa (a:=w3) (by go_grown) b4
 replace hok1:=hok1.below b4
 replace hs1:=hs1.below b4
 replace Bz:=zAa Bz b4
 clear b4
 go_wp2_with fail
 with_reducible refine(sizes_is (Sl.below hs4 (by go_grown)) (LysOk.below hok4 (by go_grown)) (by omega) (by omega) (zh (Tab.below hT.out (zAa hB (zAa (b:=w4) Bz (by go_grown))))) [2,1,1] (zh (list_of hp4.out.one))).mono ?_
 rintro e w5 ⟨A5,n5,c5,rfl,hl5,hc5,b5⟩
 replace b5:=zAa (a:=w4) (by go_grown) b5
 replace hok1:=hok1.below b5
 replace hs1:=hs1.below b5
 replace Bz:=zAa Bz b5
 clear b5
 go_wp2_with fail
 obtain⟨V2,hW,x1,hN⟩:=zAb w5 #[.int .i64 2,.int .i64 1,.int .i64 1] 3
 rw[←hW]
 clear hW
 obtain⟨v1,hb1⟩:∃b,b=w5.heap.size:=⟨_,rfl⟩
 rw[←hb1] at x1 ⊢
 have o0_1:v0<v1:=by have:=(zx HX0 Bz).lt;omega
 have ow_1:w.heap.size≤v1:=by have:=zw hB Bz;omega
 replace hl5:=hl5.below hN
 replace hok1:=hok1.below hN
 replace hs1:=hs1.below hN
 replace hB:=zAa (zAa hB Bz) hN
 replace HX0:=zh ((zx HX0 Bz).below hN)
 have HX1:=zh x1
 clear x1 hN Bz hb1
 have Bz:=Below.refl V2.heap.size V2
 with_reducible refine(sameInts_q (Sl.below hl5 (by go_grown)) (ints_sl [2,1,1] (zx HX1 Bz) 3 rfl) (by have:=hl5.len;simp at this;omega) (by omega) true (zh rfl)).mono ?_
 rintro e w6 ⟨rfl,b6⟩
 replace b6:=zAa (a:=V2) (by go_grown) b6
 replace hok1:=hok1.below b6
 replace hs1:=hs1.below b6
 replace Bz:=zAa Bz b6
 clear b6
 go_wp2_with fail
 with_reducible refine(small_is 2 (zh (Tab.below hT.out (zAa hB (zAa (b:=w6) Bz (by go_grown)))))).mono ?_
 rintro e w7 ⟨A7,n7,c7,L7,rfl,hs7,hn7,hok7,hp7,b7⟩
 replace b7:=zAa (a:=w6) (by go_grown) b7
 replace hok1:=hok1.below b7
 replace hs1:=hs1.below b7
 replace Bz:=zAa Bz b7
 clear b7
 go_wp2_with fail
 with_reducible refine(check_is (Sl.below hs7 (by go_grown)) (LysOk.below hok7 (by go_grown)) (by omega) (by omega) (zh (Tab.below hT.out (zAa hB (zAa (b:=w7) Bz (by go_grown))))) 22 (zh (check_of hp7.out.two))).mono ?_
 rintro e w8 ⟨rfl,b8⟩
 replace b8:=zAa (a:=w7) (by go_grown) b8
 replace hok1:=hok1.below b8
 replace hs1:=hs1.below b8
 replace Bz:=zAa Bz b8
 clear b8
 obtain⟨p0_0,p0_1,-⟩:=(zx HX0 Bz).cz
 go_wp2_with fail
 with_reducible refine(check_is (Sl.below hs1 (by go_grown)) (LysOk.below hok1 (by go_grown)) (by omega) (by omega) (zh (Tab.below hT.out (zAa hB (zAa (b:=w8) Bz (by go_grown))))) 25 (zh (check_of (r:=.error 25) rfl))).mono ?_
 rintro e w9 ⟨rfl,b9⟩
 replace b9:=zAa (a:=w8) (by go_grown) b9
 replace Bz:=zAa Bz b9
 clear b9
 clear p0_0 p0_1
 go_wp2_with fail
 with_reducible refine(picture_is).mono ?_
 rintro e w10 ⟨A10,n10,c10,L10,rfl,hs10,hn10,hok10,hp10,b10⟩
 replace b10:=zAa (a:=w9) (by go_grown) b10
 replace Bz:=zAa Bz b10
 clear b10
 go_wp2_with fail
 with_reducible refine(sizes_is (Sl.below hs10 (by go_grown)) (LysOk.below hok10 (by go_grown)) (by omega) (by omega) (zh (Tab.below hT.out (zAa hB (zAa (b:=w10) Bz (by go_grown))))) [4,9] (zh (list_of hp10.out.2))).mono ?_
 rintro e w11 ⟨A11,n11,c11,rfl,hl11,hc11,b11⟩
 replace b11:=zAa (a:=w10) (by go_grown) b11
 replace Bz:=zAa Bz b11
 clear b11
 go_wp2_with fail
 obtain⟨V3,hW,x2,hN⟩:=zAb w11 #[.int .i64 4,.int .i64 9] 3
 rw[←hW]
 clear hW
 obtain⟨v2,hb2⟩:∃b,b=w11.heap.size:=⟨_,rfl⟩
 rw[←hb2] at x2 ⊢
 have o0_2:v0<v2:=by have:=(zx HX0 Bz).lt;omega
 have o1_2:v1<v2:=by have:=(zx HX1 Bz).lt;omega
 have ow_2:w.heap.size≤v2:=by have:=zw hB Bz;omega
 replace hl11:=hl11.below hN
 replace hB:=zAa (zAa hB Bz) hN
 replace HX0:=zh ((zx HX0 Bz).below hN)
 replace HX1:=zh ((zx HX1 Bz).below hN)
 have HX2:=zh x2
 clear x2 hN Bz hb2
 have Bz:=Below.refl V3.heap.size V3
 with_reducible refine(sameInts_q (Sl.below hl11 (by go_grown)) (ints_sl [4,9] (zx HX2 Bz) 2 rfl) (by have:=hl11.len;simp at this;omega) (by omega) true (zh rfl)).mono ?_
 rintro e w12 ⟨rfl,b12⟩
 replace b12:=zAa (a:=V3) (by go_grown) b12
 replace Bz:=zAa Bz b12
 clear b12
 go_wp2_with fail
 with_reducible refine(small_is 1 (zh (Tab.below hT.out (zAa hB (zAa (b:=w12) Bz (by go_grown)))))).mono ?_
 rintro e w13 ⟨A13,n13,c13,L13,rfl,hs13,hn13,hok13,hp13,b13⟩
 replace b13:=zAa (a:=w12) (by go_grown) b13
 replace Bz:=zAa Bz b13
 clear b13
 go_wp2_with fail
 with_reducible refine(exQuery_is 2 2 rfl (by omega) 1 0 0 (by omega) (by omega) (zh (Tab.below hT.out (zAa hB (zAa (b:=w13) Bz (by go_grown)))))).mono ?_
 rintro e w14 ⟨q14,rfl,hq14,hi14,b14⟩
 replace b14:=zAa (a:=w13) (by go_grown) b14
 replace hok13:=hok13.below b14
 replace hs13:=hs13.below b14
 replace Bz:=zAa Bz b14
 clear b14
 go_wp2_with fail
 with_reducible refine(query_is (Sl.below hs13 (by go_grown)) (LysOk.below hok13 (by go_grown)) (by omega) (by omega) (QyOk.below hq14 (by go_grown)) (zh (Tab.below hT.out (zAa hB (zAa (b:=w14) Bz (by go_grown))))) 23 (zh ((query_val hp13.out.one hi14.out rfl (by omega)).trans (by decide)))).mono ?_
 rintro e w15 ⟨rfl,b15⟩
 replace b15:=zAa (a:=w14) (by go_grown) b15
 replace Bz:=zAa Bz b15
 clear b15
 go_wp2_with fail
 with_reducible refine(small_is 1 (zh (Tab.below hT.out (zAa hB (zAa (b:=w15) Bz (by go_grown)))))).mono ?_
 rintro e w16 ⟨A16,n16,c16,L16,rfl,hs16,hn16,hok16,hp16,b16⟩
 replace b16:=zAa (a:=w15) (by go_grown) b16
 replace Bz:=zAa Bz b16
 clear b16
 go_wp2_with fail
 with_reducible refine(exQuery_is 2 2 rfl (by omega) 0 1 1 (by omega) (by omega) (zh (Tab.below hT.out (zAa hB (zAa (b:=w16) Bz (by go_grown)))))).mono ?_
 rintro e w17 ⟨q17,rfl,hq17,hi17,b17⟩
 replace b17:=zAa (a:=w16) (by go_grown) b17
 replace hok16:=hok16.below b17
 replace hs16:=hs16.below b17
 replace Bz:=zAa Bz b17
 clear b17
 go_wp2_with fail
 with_reducible refine(query_is (Sl.below hs16 (by go_grown)) (LysOk.below hok16 (by go_grown)) (by omega) (by omega) (QyOk.below hq17 (by go_grown)) (zh (Tab.below hT.out (zAa hB (zAa (b:=w17) Bz (by go_grown))))) 24 (zh ((query_val hp16.out.one hi17.out rfl (by omega)).trans (by decide)))).mono ?_
 rintro e w18 ⟨rfl,b18⟩
 replace b18:=zAa (a:=w17) (by go_grown) b18
 replace Bz:=zAa Bz b18
 clear b18
 go_wp2_with fail
 with_reducible refine(small_is 1 (zh (Tab.below hT.out (zAa hB (zAa (b:=w18) Bz (by go_grown)))))).mono ?_
 rintro e w19 ⟨A19,n19,c19,L19,rfl,hs19,hn19,hok19,hp19,b19⟩
 replace b19:=zAa (a:=w18) (by go_grown) b19
 replace Bz:=zAa Bz b19
 clear b19
 go_wp2_with fail
 with_reducible refine(exQuery_is 2 2 rfl (by omega) 0 1 0 (by omega) (by omega) (zh (Tab.below hT.out (zAa hB (zAa (b:=w19) Bz (by go_grown)))))).mono ?_
 rintro e w20 ⟨q20,rfl,hq20,hi20,b20⟩
 replace b20:=zAa (a:=w19) (by go_grown) b20
 replace hok19:=hok19.below b20
 replace hs19:=hs19.below b20
 replace Bz:=zAa Bz b20
 clear b20
 go_wp2_with fail
 with_reducible refine(query_is (Sl.below hs19 (by go_grown)) (LysOk.below hok19 (by go_grown)) (by omega) (by omega) (QyOk.below hq20 (by go_grown)) (zh (Tab.below hT.out (zAa hB (zAa (b:=w20) Bz (by go_grown))))) 0 (zh ((query_val hp19.out.one hi20.out rfl (by omega)).trans (by decide)))).mono ?_
 rintro e w21 ⟨rfl,b21⟩
 replace b21:=zAa (a:=w20) (by go_grown) b21
 replace Bz:=zAa Bz b21
 clear b21
 go_wp2_with fail
 go_ret
 have hF:=zAa (c:=w21) hB Bz
 exact⟨rfl,zAa hF (by go_grown)⟩
open Go.RowKit Tw
def picY (kind:Int) (rA:Option Addr) (rn rc:Nat) (rows:List Vc) (bA:Option Addr) (bn bc:Nat) (bias:List Fr) (ch kh st pad:Int) (kA:Option Addr) (kn kc:Nat) (kern:List Fr):Ly :=
 ⟨kind,rA,rn,rc,rows,bA,bn,bc,bias,ch,2,2,1,kh,2,st,pad,kA,kn,kc,kern,none,0,0,[]⟩
def bareY (kind:Int) (rA:Option Addr) (rn rc:Nat) (rows:List Vc) (bA:Option Addr) (bn bc:Nat) (bias:List Fr) (gA:Option Addr) (gn gc:Nat) (groups:List Gp):Ly :=
 ⟨kind,rA,rn,rc,rows,bA,bn,bc,bias,0,0,0,0,0,0,0,0,none,0,0,[],gA,gn,gc,groups⟩
section
variable {rA bA kA gA:Option Addr} {b:Fr}
theorem sn_0:zAc 4 [picY 2 none 0 0 [] bA 1 1 [zFr] 1 2 1 2 kA 4 4 [zFr,zFr,zFr,zFr]]=.error 22:=by
 simp[zAc,picY,stepsF,zAe,convF,sides,zFr]
theorem sn_1:zAc 4 [picY 2 none 0 0 [] bA 1 1 [zFr] 1 2 1 (-1) kA 4 4 [zFr,zFr,zFr,zFr]]=.error 22:=by
 simp[zAc,picY,stepsF,zAe,convF,sides,zFr]
theorem sn_2:zAc 4 [picY 2 none 0 0 [] bA 1 1 [zFr] 1 2 0 1 kA 4 4 [zFr,zFr,zFr,zFr]]=.error 22:=by
 simp[zAc,picY,stepsF,zAe,convF,sides,zFr]
theorem sn_3:zAc 4 [picY 2 none 0 0 [] bA 1 1 [zFr] 1 2 1 1 kA 3 4 [zFr,zFr,zFr]]=.error 22:=by
 simp[zAc,picY,stepsF,zAe,convF,sides,cHigh,cWide,cEach,zFr]
theorem sn_4:zAc 4 [picY 2 none 0 0 [] none 0 0 [] 1 2 1 1 kA 4 4 [zFr,zFr,zFr,zFr]]=.error 22:=by
 simp[zAc,picY,stepsF,zAe,convF,sides,cHigh,cWide,cEach,zFr]
theorem sn_5:zAc 4 [picY 2 none 0 0 [] bA 1 1 [zFr] 2 2 1 1 kA 4 4 [zFr,zFr,zFr,zFr]]=.error 22:=by
 simp[zAc,picY,stepsF,zAe,convF,sides,zFr]
theorem sn_6:zAc 4 [picY 2 none 0 0 [] bA 1 1 [zFr] 1 5 1 1 kA 10 10 (List.replicate 10 zFr)]=.error 22:=by
 simp[zAc,picY,stepsF,zAe,convF,sides,cHigh,zFr]
theorem sn_7 (hb:b.ex=false):zAc 4 [picY 2 none 0 0 [] bA 1 1 [zFr] 1 2 1 1 kA 4 4 [b,zFr,zFr,zFr]]=.error 22:=by
 simp[zAc,picY,stepsF,zAe,convF,sides,cHigh,cWide,cEach,zFr,hb]
theorem sn_8 {v:Vc}:zAc 4 [picY 2 rA 1 1 [v] bA 1 1 [zFr] 1 2 1 1 kA 4 4 [zFr,zFr,zFr,zFr]]=.error 22:=by
 simp[zAc,picY,stepsF,zAe,convF,sides,cHigh,cWide,cEach,zFr]
theorem sn_9:zAc 4 [picY 3 none 0 0 [] bA 1 1 [zFr] 1 2 1 1 kA 4 4 [zFr,zFr,zFr,zFr]]=.error 22:=by
 simp[zAc,picY,stepsF,zAe,reluB,plainB,nums]
theorem sn_10:zAc 4 [bareY 4 none 0 0 [] none 0 0 [] none 0 0 []]=.error 22:=by
 simp[zAc,bareY,stepsF,zAe,poolF,plainB,nums]
theorem sn_11 {a:Option Addr}:zAc 4 [bareY 4 none 0 0 [] none 0 0 [] gA 1 1 [⟨a,2,2,[0,0]⟩]]=.error 22:=by
 simp[zAc,bareY,stepsF,zAe,poolF,plainB,nums,groupB,risesB]
theorem sn_12 {a:Option Addr}:zAc 4 [bareY 4 none 0 0 [] none 0 0 [] gA 1 1 [⟨a,2,2,[0,4]⟩]]=.error 22:=by
 simp[zAc,bareY,stepsF,zAe,poolF,plainB,nums,groupB,risesB]
theorem sn_13 {a:Option Addr}:zAc 4 [bareY 4 none 0 0 [] none 0 0 [] gA 1 1 [⟨a,2,2,[1,0]⟩]]=.error 22:=by
 simp[zAc,bareY,stepsF,zAe,poolF,plainB,nums,groupB,risesB]
theorem sn_14 {v:Vc}:zAc 4 [bareY 1 rA 1 1 [v] none 0 0 [] none 0 0 []]=.error 22:=by
 simp[zAc,bareY,stepsF,zAe,affineF,plainB,nums]
theorem sn_15:zAc 4 [bareY 3 none 0 0 [] bA 1 1 [zFr] none 0 0 []]=.error 22:=by
 simp[zAc,bareY,stepsF,zAe,reluB,plainB,nums]
theorem sn_16 {a:Option Addr}:zAc 4 [bareY 4 none 0 0 [] none 0 0 [] gA 1 1 [⟨a,0,0,[]⟩]]=.error 22:=by
 simp[zAc,bareY,stepsF,zAe,poolF,plainB,nums,groupB,risesB]
theorem sn_st:zAc 4 [picY 2 none 0 0 [] bA 1 1 [zFr] 1 2 2 1 kA 4 4 [zFr,zFr,zFr,zFr]]=.ok [4,4]:=by
 simp[zAc,picY,stepsF,zAe,convF,sides,cHigh,cWide,cEach,cUnits,zFr,Except.map]
theorem sn_pool {a c:Option Addr}:zAc 3 [bareY 4 none 0 0 [] none 0 0 [] gA 2 2 [⟨a,2,2,[0,2]⟩,⟨c,1,1,[1]⟩]]=.ok [3,2]:=by
 simp[zAc,bareY,stepsF,zAe,poolF,plainB,nums,groupB,risesB,glens,Except.map]
theorem sn_nil:zAc 0 []=.error 25:=rfl
theorem sn_64:zAc 64 []=.ok [64]:=rfl
theorem sn_deep {L:List Ly} (h:16<L.length):zAc 1 L=.error 25:=by
 unfold zAc;rw[if_neg (by decide),if_neg (by decide),if_pos h]
theorem sn_wide (n:Nat) (hn:0<n):zAc 1 [bareY 1 rA n n (List.replicate n ⟨none,0,0,[]⟩) bA n n (List.replicate n zFr) none 0 0 []]=if 256<n then .error 25 else .ok [1,n]:=by
 have e1:((List.replicate n (⟨none,0,0,[]⟩:Vc)).all fun v=>rightB v.L 1)=true:=List.all_eq_true.2 fun v hv=>by rw[List.eq_of_mem_replicate hv];rfl
 have e2:((List.replicate n zFr).all fun x=>x.ex)=true:=List.all_eq_true.2 fun v hv=>by rw[List.eq_of_mem_replicate hv];rfl
 have e3:lens (List.replicate n (⟨none,0,0,[]⟩:Vc))=0:=by unfold lens;rw[List.map_replicate];simp
 have e4:affineF (bareY 1 rA n n (List.replicate n ⟨none,0,0,[]⟩) bA n n (List.replicate n zFr) none 0 0 []) 1=some ((n:Int),0):=by
  unfold affineF
  rw[if_neg (by simp[plainB,nums,bareY]),if_neg (by simp[bareY]),if_neg (by simp[bareY];omega),if_neg (by simp[bareY]),if_neg (by simp only[bareY];rw[e1];simp),if_neg (by simp only[bareY];rw[e2];simp)]
  simp only[bareY]
  rw[e3]
  rfl
 unfold zAc
 rw[if_neg (by decide),if_neg (by decide),if_neg (by simp)]
 have e5:zAe (bareY 1 rA n n (List.replicate n ⟨none,0,0,[]⟩) bA n n (List.replicate n zFr) none 0 0 []) 1=some ((n:Int),0):=by
  unfold zAe;simpa [bareY] using e4
 unfold stepsF
 rw[e5]
 by_cases h:256<n
 ·simp only
  rw[if_pos (by omega),if_pos h]
 ·simp only
  rw[if_neg (by omega),if_neg (by omega),if_neg h]
  simp[stepsF,Except.map]
end
open Go.RowKit Tw
def TellsQo (w:World) (n:Nat) (ql qh:Rat) (label:Int) (e:Ending) (w':World):Prop :=
 ∃q:Qy,e=.returned (.agg #[.slice q.xA q.xn q.xc,.int .i64 q.label,.slice q.oA q.on q.oc,.slice q.hA q.hn q.hc,.int .u8 q.norm])∧QyOk w' 1 q∧q.label=label∧q.norm=1∧q.xn=n∧q.on=n∧q.hn=n∧AllQ w' 0 q.X∧AllQ w' ql q.O∧AllQ w' qh q.H∧Below w.heap.size w w'∧(OwnR w' w.heap.size 27 4 (.slice q.xA q.xn q.xc) q.xn (flat Fr.cs q.X)∧OwnR w' w.heap.size 27 4 (.slice q.oA q.on q.oc) q.on (flat Fr.cs q.O)∧OwnR w' w.heap.size 27 4 (.slice q.hA q.hn q.hc) q.hn (flat Fr.cs q.H))∧Ap (.slice q.xA q.xn q.xc) (.slice q.oA q.on q.oc)∧Ap (.slice q.xA q.xn q.xc) (.slice q.hA q.hn q.hc)
theorem exQuery_own {w:World} (n:Nat) (hn:n≤1000) (lo hi label:Int) (hlo:-1000≤lo∧lo≤1000) (hhi:-1000≤hi∧hi≤1000) (hT:Hid (Tab w)) :
  Calls Tryd.prog 9 #[.int .i64 (n:Int),.int .i64 lo,.int .i64 hi,.int .i64 label] w (TellsQo w n (qof lo 1) (qof hi 1) label):=by
 have hszl:sz (qof lo 1)≤1:=sz_one (by omega) (by decide) (by decide)
 have hszh:sz (qof hi 1)≤1:=sz_one (by omega) (by decide) (by decide)
 obtain⟨W,hW,x0,hB⟩:=zAb w #[.slice none 0 0,.int .i64 0,.slice none 0 0,.slice none 0 0,.int .u8 0] 47
 have HX0:=zh x0
 clear x0
 have Bz:=Below.refl W.heap.size W
 go_enter Tryd.func9,Tryd.ntmps9
 go_upto_region 1 with(fail)
 rw[←hW]
 clear hW
 go_upto_region 2 with(fail)
 obtain⟨V1,hW,x1,hN⟩:=zAb W #[.slice none 0 0,.int .i64 label,.slice none 0 0,.slice none 0 0,.int .u8 1] 47
 rw[←hW]
 clear hW
 obtain⟨v1,hb1⟩:∃b,b=W.heap.size:=⟨_,rfl⟩
 rw[←hb1] at x1 ⊢
 have o0_1:w.heap.size<v1:=by have:=(zx HX0 Bz).lt;omega
 have ow_1:w.heap.size≤v1:=by have:=zw hB Bz;omega
 replace hB:=zAa (zAa hB Bz) hN
 replace HX0:=zh ((zx HX0 Bz).below hN)
 have HX1:=zh x1
 clear x1 hN Bz hb1
 have Bz:=Below.refl V1.heap.size V1
 go_wp2_with fail
 have HB1:=zh (zAa hB Bz)
 have XX0:=zh (zx HX0 Bz)
 have XX1:=zh (zx HX1 Bz)
 clear hB Bz HX0 HX1
 go_loopg [10] n (fun gk s wr=>QE w v1 label (qof lo 1) (qof hi 1) n gk s wr)
 case atStart=>exact⟨0,none,none,none,0,0,0,[],[],[],Nat.zero_le _,rfl,rfl,HB1.out,XX0.out,XX1.out,OwnR.nil _ _ _ _,OwnR.nil _ _ _ _,OwnR.nil _ _ _ _,Ap.nil _,Ap.nil _,Ap.nil _,rfl,rfl,rfl,(fun x hx=>(by cases hx)),(fun x hx=>(by cases hx)),(fun x hx=>(by cases hx))⟩
 case round =>
  clear HB1 XX0 XX1
  obtain⟨i,xA,oA,hA,xc,oc,hc,X,O,H,hi',hgk,rfl,hB,hx0,hx1,hoX,hoO,hoH,apXO,apXH,apOH,hXL,hOL,hHL,haX,haO,haH⟩:=hrel
  have HGK:=zh hgk
  have HXL:=zh hXL
  have HOL:=zh hOL
  have HHL:=zh hHL
  have HX0:=zh hx0
  have HX1:=zh hx1
  have apOX:=apXO.symm
  have apHX:=apXH.symm
  have apHO:=apOH.symm
  clear hgk hXL hOL hHL hx0 hx1
  by_cases hlt:i<n
  ·have i1:(i:Int)<(n:Int):=by omega
   have Bz:=Below.refl wr.heap.size wr
   have p1_0:=(zx HX1 Bz).cell 0 (.slice xA i xc) rfl
   go_wp2_with (at_builtin;refine And.left (b:=True) ?_)
   refine⟨?_,trivial⟩
   obtain⟨V1,hW,x2,hN⟩:=zAb wr #[.bool false,.slice none 0 0,.bool false,.slice none 0 0] 27
   rw[←hW]
   clear hW
   obtain⟨v2,hb2⟩:∃b,b=wr.heap.size:=⟨_,rfl⟩
   rw[←hb2] at x2 ⊢
   have o0_2:w.heap.size<v2:=by have:=(zx HX0 Bz).lt;omega
   have o1_2:v1<v2:=by have:=(zx HX1 Bz).lt;omega
   have ow_2:w.heap.size≤v2:=by have:=zw hB Bz;omega
   replace haH:=haH.below hN
   replace haO:=haO.below hN
   replace haX:=haX.below hN
   replace hoH:=hoH.below hN
   replace hoO:=hoO.below hN
   replace hoX:=hoX.below hN
   replace hB:=zAa (zAa hB Bz) hN
   replace HX0:=zh ((zx HX0 Bz).below hN)
   replace HX1:=zh ((zx HX1 Bz).below hN)
   have HX2:=zh x2
   clear x2 hN Bz hb2
   have Bz:=Below.refl V1.heap.size V1
   clear p1_0
   have hdr:V1.drew.heap.size=V1.heap.size:=rfl
   have hdr2:V1.drew.drew.heap.size=V1.heap.size:=rfl
   refine Elt.app elt_rat rfl _ _ rfl (v1+1) (.slice xA i xc) (i) (X) rfl hoX (.slice (some ⟨v2,0,none⟩) 1 1) (1) ([zFr]) rfl (From.one (HX2.out.below (zAa Bz (by go_grown))) (zFr) rfl (elt_rat.len _)) (by omega) (by have:=(zx HX1 Bz).lt;omega) ?_
   intro H1 c1 w1 ho1 hg1
   replace hB:=(zAa (zAa hB Bz) (by go_grown)).trans (hg1.below (by have:=zw hB Bz;omega) (fun g hg=>by have:=hoX.base g hg;omega))
   replace HX0:=zh (hg1.bx (zx HX0 Bz) (hoX.off (by omega)))
   replace HX1:=zh (hg1.bx (zx HX1 Bz) (hoX.off (by omega)))
   clear HX2
   have apOX':=hg1.ap hoO apOX
   have apXO':=apOX'.symm
   replace hoO:=hoO.grown hg1 apOX
   clear apOX apXO
   have apOX:=apOX'
   have apXO:=apXO'
   clear apOX' apXO'
   have apHX':=hg1.ap hoH apHX
   have apXH':=apHX'.symm
   replace hoH:=hoH.grown hg1 apHX
   clear apHX apXH
   have apHX:=apHX'
   have apXH:=apXH'
   clear apHX' apXH'
   clear hdr hdr2
   replace haH:=haH.k hg1.k
   replace haO:=haO.k hg1.k
   replace haX:=haX.k hg1.k
   clear hg1 Bz
   have Bz:=Below.refl w1.heap.size w1
   have p1_0:=(zx HX1 Bz).cell 0 (.slice xA i xc) rfl
   have f1_0:=(zx HX1 Bz).frozen 0
   have y1:=(zx HX1 Bz).lt
   go_upto_region 6 with(fail)
   obtain⟨V2,hW,x,kk,far,bel⟩:=st5_0_1 (.slice H1 (i+1) c1) (zx HX1 Bz) nofun
   rw[←hW]
   clear hW
   replace haH:=haH.k kk
   replace haO:=haO.k kk
   replace haX:=haX.k kk
   replace ho1:=ho1.far far (by omega)
   replace hoH:=hoH.far far (by omega)
   replace hoO:=hoO.far far (by omega)
   replace hB:=bel w.heap.size w (by omega) (zAa hB Bz)
   replace HX0:=zh (far _ _ _ (by omega) (zx HX0 Bz))
   replace HX1:=zh x
   clear x kk far bel Bz
   have Bz:=Below.refl V2.heap.size V2
   clear p1_0 f1_0 y1
   have p1_2:=(zx HX1 Bz).cell 2 (.slice oA i oc) rfl
   have f1_2:=(zx HX1 Bz).frozen 2
   have y1:=(zx HX1 Bz).lt
   go_wp2_with fail
   (try simp only[List.append_eq,List.cons_append,List.nil_append])
   refine wp_region_plan (.pure 0 (.take 1 (.pure 2 (.only 3 (.only 4 (.only 5 (.pure 6 (.only 7 .done)))))))) [5,7] (fun w'=>w'.cell? ⟨v1,2,none⟩=some (.slice oA i oc)) (by kernel_rfl) (by kernel_rfl) p1_2 ?_
   refine zP rfl rfl (fun w'=>by go_simp<;>with_reducible rfl) ?_
   try simp only[Act.put,uX,uY,uZ]
   refine zT rfl rfl (fun w' p1_2=>by go_simp<;>with_reducible rfl) ?_
   try simp only[Act.put,uX,uY,uZ]
   refine zP rfl rfl (fun w'=>by go_simp<;>with_reducible rfl) ?_
   try simp only[Act.put,uX,uY,uZ]
   refine zC 27 rfl rfl (fun K hK=>?_)
   go_simp
   with_reducible refine(of_q lo 1 (zh (by omega)) (zh (by omega)) (zh (Tab.below hT.out (zAa hB (zAa (b:=V2) Bz (by go_grown)))))).mono ?_
   rintro e w2 ⟨s2,A2,c2,l2,s2r,A2r,c2r,l2r,rfl,h2,b2⟩
   replace b2:=zAa (a:=V2) (by go_grown) b2
   replace haH:=haH.below b2
   replace haO:=haO.below b2
   replace haX:=haX.below b2
   replace ho1:=ho1.below b2
   replace hoH:=hoH.below b2
   replace hoO:=hoO.below b2
   replace Bz:=zAa Bz b2
   clear b2
   clear p1_2 f1_2 y1
   have p1_2:=(zx HX1 Bz).cell 2 (.slice oA i oc) rfl
   have f1_2:=(zx HX1 Bz).frozen 2
   have y1:=(zx HX1 Bz).lt
   refine hK.out _ _ p1_2 (fun _=>?_)
   try simp only[Act.put,uX,uY,uZ]
   clear hK K
   refine zC 28 rfl rfl (fun K hK=>?_)
   go_simp
   refine hK.out _ _ (cell_al p1_2) (fun _=>?_)
   try simp only[Act.put,uX,uY,uZ]
   clear hK K
   refine wpPlan_late (o:=⟨some 29,_,_,_,_,_⟩) rfl rfl (by decide) (fun K hK=>?_)
   obtain⟨V3,hW,x2,hN⟩:=zAb w2 #[.bool s2,.slice A2 l2 c2,.bool s2r,.slice A2r l2r c2r] 27
   rw[←hW]
   clear hW
   obtain⟨v2,hb2⟩:∃b,b=w2.heap.size:=⟨_,rfl⟩
   rw[←hb2] at x2 ⊢
   have o0_2:w.heap.size<v2:=by have:=(zx HX0 Bz).lt;omega
   have o1_2:v1<v2:=by have:=(zx HX1 Bz).lt;omega
   have ow_2:w.heap.size≤v2:=by have:=zw hB Bz;omega
   replace haH:=haH.below hN
   replace haO:=haO.below hN
   replace haX:=haX.below hN
   replace h2:=h2.below hN
   replace ho1:=ho1.below hN
   replace hoH:=hoH.below hN
   replace hoO:=hoO.below hN
   replace hB:=zAa (zAa hB Bz) hN
   replace HX0:=zh ((zx HX0 Bz).below hN)
   replace HX1:=zh ((zx HX1 Bz).below hN)
   have HX2:=zh x2
   clear x2 hN Bz hb2
   have Bz:=Below.refl V3.heap.size V3
   clear p1_2 f1_2 y1
   have hdr:V3.drew.heap.size=V3.heap.size:=rfl
   have hdr2:V3.drew.drew.heap.size=V3.heap.size:=rfl
   refine Elt.wp elt_rat _ _ rfl (v1+1) (.slice oA i oc) (i) (O) rfl hoO (.slice (some ⟨v2,0,none⟩) 1 1) (1) ([⟨s2,A2,c2,l2,s2r,A2r,c2r,l2r,qof lo 1,true⟩]) rfl (From.one (HX2.out.below (zAa Bz (by go_grown))) (⟨s2,A2,c2,l2,s2r,A2r,c2r,l2r,qof lo 1,true⟩) rfl (elt_rat.len _)) (by omega) (by have:=(zx HX1 Bz).lt;omega) ?_
   intro H3 c3 w3 ho3 hg3
   refine hK.out _ _ ?_
   try simp only[Act.put,uX,uY,uZ]
   clear hK K
   replace hB:=(zAa (zAa hB Bz) (by go_grown)).trans (hg3.below (by have:=zw hB Bz;omega) (fun g hg=>by have:=hoO.base g hg;omega))
   replace HX0:=zh (hg3.bx (HX0.out.below (zAa Bz (by go_grown))) (hoO.off (by omega)))
   replace HX1:=zh (hg3.bx (HX1.out.below (zAa Bz (by go_grown))) (hoO.off (by omega)))
   clear HX2
   have apHO':=hg3.ap hoH apHO
   have apOH':=apHO'.symm
   replace hoH:=(OwnR.below hoH (by go_grown)).grown hg3 apHO
   clear apHO apOH
   have apHO:=apHO'
   have apOH:=apOH'
   clear apHO' apOH'
   have apXO':=hg3.ap ho1 apXO
   have apOX':=apXO'.symm
   replace ho1:=(OwnR.below ho1 (by go_grown)).grown hg3 apXO
   clear apXO apOX
   have apXO:=apXO'
   have apOX:=apOX'
   clear apXO' apOX'
   clear hdr hdr2
   replace haH:=haH.k hg3.k
   replace haO:=haO.k hg3.k
   replace haX:=haX.k hg3.k
   replace h2:=h2.k hg3.k
   clear hg3 Bz
   have Bz:=Below.refl w3.heap.size w3
   have p1_2:=(zx HX1 Bz).cell 2 (.slice oA i oc) rfl
   have f1_2:=(zx HX1 Bz).frozen 2
   have y1:=(zx HX1 Bz).lt
   refine zP rfl rfl (fun w'=>by go_simp<;>with_reducible rfl) ?_
   try simp only[Act.put,uX,uY,uZ]
   refine wpPlan_late (o:=⟨none,_,_,_,_,_⟩) rfl rfl (by decide) (fun K hK=>?_)
   go_simp
   refine hK.out _ _ ?_
   try simp only[Act.put,uX,uY,uZ]
   clear hK K
   refine wpPlan_done ?_
   obtain⟨V4,hW,x,kk,far,bel⟩:=st5_2_1 (.slice H3 (i+1) c3) (zx HX1 Bz) nofun
   rw[←hW]
   clear hW
   replace haH:=haH.k kk
   replace haO:=haO.k kk
   replace haX:=haX.k kk
   replace h2:=h2.k kk
   replace ho1:=ho1.far far (by omega)
   replace ho3:=ho3.far far (by omega)
   replace hoH:=hoH.far far (by omega)
   replace hB:=bel w.heap.size w (by omega) (zAa hB Bz)
   replace HX0:=zh (far _ _ _ (by omega) (zx HX0 Bz))
   replace HX1:=zh x
   clear x kk far bel Bz
   have Bz:=Below.refl V4.heap.size V4
   clear p1_2 f1_2 y1
   have p1_3:=(zx HX1 Bz).cell 3 (.slice hA i hc) rfl
   have f1_3:=(zx HX1 Bz).frozen 3
   have y1:=(zx HX1 Bz).lt
   go_wp2_with fail
   (try simp only[List.append_eq,List.cons_append,List.nil_append])
   refine wp_region_plan (.pure 0 (.take 1 (.pure 2 (.only 3 (.only 4 (.only 5 (.pure 6 (.only 7 .done)))))))) [5,7] (fun w'=>w'.cell? ⟨v1,3,none⟩=some (.slice hA i hc)) (by kernel_rfl) (by kernel_rfl) p1_3 ?_
   refine zP rfl rfl (fun w'=>by go_simp<;>with_reducible rfl) ?_
   try simp only[Act.put,uX,uY,uZ]
   refine zT rfl rfl (fun w' p1_3=>by go_simp<;>with_reducible rfl) ?_
   try simp only[Act.put,uX,uY,uZ]
   refine zP rfl rfl (fun w'=>by go_simp<;>with_reducible rfl) ?_
   try simp only[Act.put,uX,uY,uZ]
   refine zC 34 rfl rfl (fun K hK=>?_)
   go_simp
   with_reducible refine(of_q hi 1 (zh (by omega)) (zh (by omega)) (zh (Tab.below hT.out (zAa hB (zAa (b:=V4) Bz (by go_grown)))))).mono ?_
   rintro e w4 ⟨s4,A4,c4,l4,s4r,A4r,c4r,l4r,rfl,h4,b4⟩
   replace b4:=zAa (a:=V4) (by go_grown) b4
   replace haH:=haH.below b4
   replace haO:=haO.below b4
   replace haX:=haX.below b4
   replace h2:=h2.below b4
   replace ho1:=ho1.below b4
   replace ho3:=ho3.below b4
   replace hoH:=hoH.below b4
   replace Bz:=zAa Bz b4
   clear b4
   clear p1_3 f1_3 y1
   have p1_3:=(zx HX1 Bz).cell 3 (.slice hA i hc) rfl
   have f1_3:=(zx HX1 Bz).frozen 3
   have y1:=(zx HX1 Bz).lt
   refine hK.out _ _ p1_3 (fun _=>?_)
   try simp only[Act.put,uX,uY,uZ]
   clear hK K
   refine zC 35 rfl rfl (fun K hK=>?_)
   go_simp
   refine hK.out _ _ (cell_al p1_3) (fun _=>?_)
   try simp only[Act.put,uX,uY,uZ]
   clear hK K
   refine wpPlan_late (o:=⟨some 36,_,_,_,_,_⟩) rfl rfl (by decide) (fun K hK=>?_)
   obtain⟨V5,hW,x2,hN⟩:=zAb w4 #[.bool s4,.slice A4 l4 c4,.bool s4r,.slice A4r l4r c4r] 27
   rw[←hW]
   clear hW
   obtain⟨v2,hb2⟩:∃b,b=w4.heap.size:=⟨_,rfl⟩
   rw[←hb2] at x2 ⊢
   have o0_2:w.heap.size<v2:=by have:=(zx HX0 Bz).lt;omega
   have o1_2:v1<v2:=by have:=(zx HX1 Bz).lt;omega
   have ow_2:w.heap.size≤v2:=by have:=zw hB Bz;omega
   replace haH:=haH.below hN
   replace haO:=haO.below hN
   replace haX:=haX.below hN
   replace h2:=h2.below hN
   replace h4:=h4.below hN
   replace ho1:=ho1.below hN
   replace ho3:=ho3.below hN
   replace hoH:=hoH.below hN
   replace hB:=zAa (zAa hB Bz) hN
   replace HX0:=zh ((zx HX0 Bz).below hN)
   replace HX1:=zh ((zx HX1 Bz).below hN)
   have HX2:=zh x2
   clear x2 hN Bz hb2
   have Bz:=Below.refl V5.heap.size V5
   clear p1_3 f1_3 y1
   have hdr:V5.drew.heap.size=V5.heap.size:=rfl
   have hdr2:V5.drew.drew.heap.size=V5.heap.size:=rfl
   refine Elt.wp elt_rat _ _ rfl (v1+1) (.slice hA i hc) (i) (H) rfl hoH (.slice (some ⟨v2,0,none⟩) 1 1) (1) ([⟨s4,A4,c4,l4,s4r,A4r,c4r,l4r,qof hi 1,true⟩]) rfl (From.one (HX2.out.below (zAa Bz (by go_grown))) (⟨s4,A4,c4,l4,s4r,A4r,c4r,l4r,qof hi 1,true⟩) rfl (elt_rat.len _)) (by omega) (by have:=(zx HX1 Bz).lt;omega) ?_
   intro H5 c5 w5 ho5 hg5
   refine hK.out _ _ ?_
   try simp only[Act.put,uX,uY,uZ]
   clear hK K
   replace hB:=(zAa (zAa hB Bz) (by go_grown)).trans (hg5.below (by have:=zw hB Bz;omega) (fun g hg=>by have:=hoH.base g hg;omega))
   replace HX0:=zh (hg5.bx (HX0.out.below (zAa Bz (by go_grown))) (hoH.off (by omega)))
   replace HX1:=zh (hg5.bx (HX1.out.below (zAa Bz (by go_grown))) (hoH.off (by omega)))
   clear HX2
   have apXH':=hg5.ap ho1 apXH
   have apHX':=apXH'.symm
   replace ho1:=(OwnR.below ho1 (by go_grown)).grown hg5 apXH
   clear apXH apHX
   have apXH:=apXH'
   have apHX:=apHX'
   clear apXH' apHX'
   have apOH':=hg5.ap ho3 apOH
   have apHO':=apOH'.symm
   replace ho3:=(OwnR.below ho3 (by go_grown)).grown hg5 apOH
   clear apOH apHO
   have apOH:=apOH'
   have apHO:=apHO'
   clear apOH' apHO'
   clear hdr hdr2
   replace haH:=haH.k hg5.k
   replace haO:=haO.k hg5.k
   replace haX:=haX.k hg5.k
   replace h2:=h2.k hg5.k
   replace h4:=h4.k hg5.k
   clear hg5 Bz
   have Bz:=Below.refl w5.heap.size w5
   have p1_3:=(zx HX1 Bz).cell 3 (.slice hA i hc) rfl
   have f1_3:=(zx HX1 Bz).frozen 3
   have y1:=(zx HX1 Bz).lt
   refine zP rfl rfl (fun w'=>by go_simp<;>with_reducible rfl) ?_
   try simp only[Act.put,uX,uY,uZ]
   refine wpPlan_late (o:=⟨none,_,_,_,_,_⟩) rfl rfl (by decide) (fun K hK=>?_)
   go_simp
   refine hK.out _ _ ?_
   try simp only[Act.put,uX,uY,uZ]
   clear hK K
   refine wpPlan_done ?_
   obtain⟨V6,hW,x,kk,far,bel⟩:=st5_3_1 (.slice H5 (i+1) c5) (zx HX1 Bz) nofun
   rw[←hW]
   clear hW
   replace haH:=haH.k kk
   replace haO:=haO.k kk
   replace haX:=haX.k kk
   replace h2:=h2.k kk
   replace h4:=h4.k kk
   replace ho1:=ho1.far far (by omega)
   replace ho3:=ho3.far far (by omega)
   replace ho5:=ho5.far far (by omega)
   replace hB:=bel w.heap.size w (by omega) (zAa hB Bz)
   replace HX0:=zh (far _ _ _ (by omega) (zx HX0 Bz))
   replace HX1:=zh x
   clear x kk far bel Bz
   have Bz:=Below.refl V6.heap.size V6
   clear p1_3 f1_3 y1
   go_wp2_with fail
   go_roundg (n-(i+1))
   case measure=>have:=HGK.out;omega
   case rel=>exact⟨i+1,_,_,_,_,_,_,_,_,_,by omega,rfl,by go_num,zAa hB Bz,HX0.out.below Bz,HX1.out.below Bz,ho1,ho3,ho5,apXO,apXH,apOH,by have:=HXL.out;simp;omega,by have:=HOL.out;simp;omega,by have:=HHL.out;simp;omega,haX.snoc ⟨zFr_ok _ (Nat.le_refl _),rfl,rfl⟩,haO.snoc ⟨(h2).fr hszl,rfl,rfl⟩,haH.snoc ⟨(h4).fr hszh,rfl,rfl⟩⟩
  ·obtain rfl:i=n:=by omega
   have i1:¬(i:Int)<(i:Int):=by omega
   have Bz:=Below.refl wr.heap.size wr
   obtain⟨p0_0,p0_1,p0_2,p0_3,p0_4,-⟩:=(zx HX0 Bz).cz
   have f0_0:=(zx HX0 Bz).frozen 0
   have f0_1:=(zx HX0 Bz).frozen 1
   have f0_2:=(zx HX0 Bz).frozen 2
   have f0_3:=(zx HX0 Bz).frozen 3
   have f0_4:=(zx HX0 Bz).frozen 4
   have y0:=(zx HX0 Bz).lt
   obtain⟨p1_0,p1_1,p1_2,p1_3,p1_4,-⟩:=(zx HX1 Bz).cz
   go_wp2_with fail
   (try simp only[Exit.inBlock,Exit.then])
   refine bodyPost_ret (by simp[results,Tryd.results9,go_sem,p0_0,p0_1,p0_2,p0_3,p0_4];try rfl) rfl ?_
   obtain⟨V1,hW,x,kk,far,bel⟩:=store5 (.slice xA i xc) (.int .i64 label) (.slice oA i oc) (.slice hA i hc) (.int .u8 1) (zx HX0 Bz) nofun nofun nofun nofun nofun
   rw[←hW]
   clear hW
   replace haH:=haH.k kk
   replace haO:=haO.k kk
   replace haX:=haX.k kk
   replace hoH:=hoH.far far (by omega)
   replace hoO:=hoO.far far (by omega)
   replace hoX:=hoX.far far (by omega)
   replace hB:=bel w.heap.size w (by omega) (zAa hB Bz)
   replace HX1:=zh (far _ _ _ (by omega) (zx HX1 Bz))
   replace HX0:=zh x
   clear x kk far bel Bz
   have Bz:=Below.refl V1.heap.size V1
   have hF:=zAa (c:=V1) hB Bz
   exact⟨⟨xA,i,xc,X,label,oA,i,oc,O,hA,i,hc,H,1⟩,rfl,⟨⟨hoX.sl' elt_rat HXL.out,fun x hx=>(haX x hx).1,(by show i≤100000;omega)⟩,⟨hoO.sl' elt_rat HOL.out,fun x hx=>(haO x hx).1,(by show i≤100000;omega)⟩,⟨hoH.sl' elt_rat HHL.out,fun x hx=>(haH x hx).1,(by show i≤100000;omega)⟩⟩,rfl,rfl,rfl,rfl,rfl,haX,haO,haH,hF,⟨hoX.rebase (by omega),hoO.rebase (by omega),hoH.rebase (by omega)⟩,apXO,apXH⟩
end Go.Proofs.YtfgbiccpecldfaaDoor
