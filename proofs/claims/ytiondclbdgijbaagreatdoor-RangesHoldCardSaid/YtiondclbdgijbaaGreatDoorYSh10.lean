import Derived.Test.YtiondclbdgijbaaGreatDoorYSh7b
import Derived.Test.YtiondclbdgijbaaGreatDoorYRdV
set_option maxHeartbeats 4000000
set_option maxRecDepth 100000
namespace Go.Proofs.YtiondclbdgijbaaGreatDoor
open Go.RowKit Tw
variable {W w':World} {l:List Int} {inp:Int} {lc ln m:Nat} {lA:Option Addr}
theorem TellsZs.er {w:World} {e:Ending} {f:Except Int (List Int)} {k:Int} (h:TellsZs w f e w') (hf:f=.error k):e=.returned (.tuple #[.slice none 0 0,.int .i64 k])∧Below w.heap.size w w':=by subst hf;exact h
theorem TellsZs.ok {w:World} {e:Ending} {f:Except Int (List Int)} (h:TellsZs w f e w') (hf:f=.ok l):∃A n c,e=.returned (.tuple #[.slice A n c,.int .i64 0])∧Sl ics 1 w' A n c l∧n≤c∧Below w.heap.size w w':=by subst hf;exact h
theorem steps_err {L:List Ly}:∀{n s k:Int},stepsF L n s=.error k→k=22∨k=25:=by
 induction L with
 | nil=>intro n s k h;cases h
 | cons y L ih =>
  intro n s k h;rw[steps_cons] at h;split at h
  ·cases h;exact .inl rfl
  ·split at h
   ·cases h;exact .inr rfl
   ·split at h
    ·cases h;exact .inr rfl
    ·rename_i u t _ _ _
     cases hs:stepsF L u (s+t) with
     | error e=>rw[hs] at h;simp[Except.map] at h;subst h;exact ih hs
     | ok l=>rw[hs] at h;cases h
theorem sizes_err {k:Int} {L:List Ly} (h:sizesF inp L=.error k):k=22∨k=25:=by
 unfold sizesF at h
 (repeat' split at h)<;>first | (cases h;exact .inr rfl) | exact steps_err h
theorem steps_ok {L:List Ly}:∀{n s:Int} {l:List Int},stepsF L n s=.ok l→l.length=L.length+1∧l[0]?=some n:=by
 induction L with
 | nil=>intro n s l h;cases h;exact⟨rfl,rfl⟩
 | cons y L ih =>
  intro n s l h;rw[steps_cons] at h;split at h
  ·cases h
  ·split at h
   ·cases h
   ·split at h
    ·cases h
    ·rename_i u t _ _ _
     cases hs:stepsF L u (s+t) with
     | error e=>rw[hs] at h;cases h
     | ok l2=>rw[hs] at h;simp[Except.map] at h;subst h;exact⟨by simp[(ih hs).1],rfl⟩
theorem sizes_steps {L:List Ly} (h:sizesF inp L=.ok l):1≤inp∧inp≤64∧L.length≤16∧stepsF L inp 0=.ok l:=by
 unfold sizesF at h
 split at h
 ·cases h
 ·split at h
  ·cases h
  ·split at h
   ·cases h
   ·exact⟨zo,zo,zo,h⟩
def checkF (i:Int) (L:List Ly):Int:=match sizesF i L with | .error k=>k | .ok _=>0
def listF (i:Int) (L:List Ly):List Int:=match sizesF i L with | .error _=>[] | .ok l=>l
def TellsL (w:World) (l:List Int) (e:Ending) (w':World):Prop:=∃A n c,e=.returned (.slice A n c)∧Sl ics 1 w' A n c l∧n≤c∧Below w.heap.size w w'
theorem Sizes_er {w:World} {L:List Ly} (h:Sl Ly.cs 13 w lA ln lc L) (hok:Hid (∀y∈L,LyOk w m y)) (hm:m≤20000) (hln:ln≤9223372036854775807) {z:Int} (HZ:Hid (sizesF inp L=.error z)) (HA:Hid (listF inp L=[])) (hT:Hid (Tab w)) :
  Calls Tryz.prog 15 #[.agg #[.int .i64 inp,.slice lA ln lc]] w (TellsL w (listF inp L)):=by
 obtain⟨W,hW,x0,hB⟩:=zAb w #[.int .i64 inp,.slice lA ln lc] 24;have HX0:=zh x0;clear x0;have Bz:=zr W;obtain⟨pa0,pa1,-⟩:=(zx HX0 Bz).cz;go_enter Tryz.func15,Tryz.ntmps15
 go_wp2_with fail
 rw[←hW];clear hW;go_wp2_with fail
 with_reducible refine((sizes_q (h.below (bT hB (bT (b:=W) Bz))) (zh fun y hy=>(hok.out y hy).below (bT hB (bT (b:=W) Bz))) hm hln (zt hT hB Bz)).mono fun _ _ hx=>TellsZs.er hx HZ.out).mono ?_
 rintro e w1 ⟨rfl,q⟩;replace q:=zq (a:=W) q;replace Bz:=bT Bz q;clear q;clear pa0 pa1;go_wp2_with fail
 go_ret
 have hF:=bT (c:=w1) hB Bz;exact⟨_,_,_,rfl,by rw[HA.out];exact Sl.nil _,aA _,bT hF⟩
theorem Sizes_ok {w:World} {L:List Ly} (h:Sl Ly.cs 13 w lA ln lc L) (hok:Hid (∀y∈L,LyOk w m y)) (hm:m≤20000) (hln:ln≤9223372036854775807) (HZ:Hid (sizesF inp L=.ok l)) (HA:Hid (listF inp L=l)) (hT:Hid (Tab w)) :
  Calls Tryz.prog 15 #[.agg #[.int .i64 inp,.slice lA ln lc]] w (TellsL w (listF inp L)):=by
 obtain⟨W,hW,x0,hB⟩:=zAb w #[.int .i64 inp,.slice lA ln lc] 24;have HX0:=zh x0;clear x0;have Bz:=zr W;obtain⟨pa0,pa1,-⟩:=(zx HX0 Bz).cz;go_enter Tryz.func15,Tryz.ntmps15
 go_wp2_with fail
 rw[←hW];clear hW;go_wp2_with fail
 with_reducible refine((sizes_q (h.below (bT hB (bT (b:=W) Bz))) (zh fun y hy=>(hok.out y hy).below (bT hB (bT (b:=W) Bz))) hm hln (zt hT hB Bz)).mono fun _ _ hx=>TellsZs.ok hx HZ.out).mono ?_
 rintro e w1 ⟨A1,n1,c1,rfl,h1,hc1,q⟩;replace q:=zq (a:=W) q;replace Bz:=bT Bz q;clear q;clear pa0 pa1;go_wp2_with fail
 go_ret
 have hF:=bT (c:=w1) hB Bz;exact⟨_,_,_,rfl,by rw[HA.out];exact h1,hc1,bT hF⟩
theorem sizesT_q {w:World} {L:List Ly} (h:Sl Ly.cs 13 w lA ln lc L) (hok:Hid (∀y∈L,LyOk w m y)) (hm:m≤20000) (hln:ln≤9223372036854775807) (hT:Hid (Tab w)) :
  Calls Tryz.prog 15 #[.agg #[.int .i64 inp,.slice lA ln lc]] w (TellsL w (listF inp L)):=by
 cases hz:sizesF inp L with
 | error z=>exact Sizes_er h hok hm hln (zh hz) (zh (by unfold listF;rw[hz])) hT
 | ok l=>exact Sizes_ok h hok hm hln (zh hz) (zh (by unfold listF;rw[hz])) hT
theorem Check_er {w:World} {L:List Ly} (h:Sl Ly.cs 13 w lA ln lc L) (hok:Hid (∀y∈L,LyOk w m y)) (hm:m≤20000) (hln:ln≤9223372036854775807) {z:Int} (HZ:Hid (sizesF inp L=.error z)) (HA:Hid (checkF inp L=z)) (hT:Hid (Tab w)) :
  Calls Tryz.prog 14 #[.agg #[.int .i64 inp,.slice lA ln lc]] w fun e w'=>e=.returned (.int .i64 (checkF inp L))∧Below w.heap.size w w':=by
 obtain⟨W,hW,x0,hB⟩:=zAb w #[.int .i64 inp,.slice lA ln lc] 24;have HX0:=zh x0;clear x0;have Bz:=zr W;obtain⟨pa0,pa1,-⟩:=(zx HX0 Bz).cz;go_enter Tryz.func14,Tryz.ntmps14
 go_wp2_with fail
 rw[←hW];clear hW;go_wp2_with fail
 with_reducible refine((sizes_q (h.below (bT hB (bT (b:=W) Bz))) (zh fun y hy=>(hok.out y hy).below (bT hB (bT (b:=W) Bz))) hm hln (zt hT hB Bz)).mono fun _ _ hx=>TellsZs.er hx HZ.out).mono ?_
 rintro e w1 ⟨rfl,q⟩;replace q:=zq (a:=W) q;replace Bz:=bT Bz q;clear q;clear pa0 pa1;go_wp2_with fail
 go_ret
 have hF:=bT (c:=w1) hB Bz;exact⟨by rw[HA.out];rfl,bT hF⟩
theorem Check_ok {w:World} {L:List Ly} (h:Sl Ly.cs 13 w lA ln lc L) (hok:Hid (∀y∈L,LyOk w m y)) (hm:m≤20000) (hln:ln≤9223372036854775807) (HZ:Hid (sizesF inp L=.ok l)) (HA:Hid (checkF inp L=0)) (hT:Hid (Tab w)) :
  Calls Tryz.prog 14 #[.agg #[.int .i64 inp,.slice lA ln lc]] w fun e w'=>e=.returned (.int .i64 (checkF inp L))∧Below w.heap.size w w':=by
 obtain⟨W,hW,x0,hB⟩:=zAb w #[.int .i64 inp,.slice lA ln lc] 24;have HX0:=zh x0;clear x0;have Bz:=zr W;obtain⟨pa0,pa1,-⟩:=(zx HX0 Bz).cz;go_enter Tryz.func14,Tryz.ntmps14
 go_wp2_with fail
 rw[←hW];clear hW;go_wp2_with fail
 with_reducible refine((sizes_q (h.below (bT hB (bT (b:=W) Bz))) (zh fun y hy=>(hok.out y hy).below (bT hB (bT (b:=W) Bz))) hm hln (zt hT hB Bz)).mono fun _ _ hx=>TellsZs.ok hx HZ.out).mono ?_
 rintro e w1 ⟨A1,n1,c1,rfl,h1,hc1,q⟩;replace q:=zq (a:=W) q;replace Bz:=bT Bz q;clear h1;clear q;clear pa0 pa1;go_wp2_with fail
 go_ret
 have hF:=bT (c:=w1) hB Bz;exact⟨by rw[HA.out];rfl,bT hF⟩
theorem checkT_q {w:World} {L:List Ly} (h:Sl Ly.cs 13 w lA ln lc L) (hok:Hid (∀y∈L,LyOk w m y)) (hm:m≤20000) (hln:ln≤9223372036854775807) (hT:Hid (Tab w)) :
  Calls Tryz.prog 14 #[.agg #[.int .i64 inp,.slice lA ln lc]] w fun e w'=>e=.returned (.int .i64 (checkF inp L))∧Below w.heap.size w w':=by
 cases hz:sizesF inp L with
 | error z=>exact Check_er h hok hm hln (zh hz) (zh (by unfold checkF;rw[hz])) hT
 | ok l=>exact Check_ok h hok hm hln (zh hz) (zh (by unfold checkF;rw[hz])) hT
theorem FrIn.below {w:World} {x:Fr} (h:FrIn w x) (hb:Below w.heap.size w w':=by go_grown):FrIn w' x:=⟨h.1,h.2.1,fun m h1 h2=>(h.2.2 m h1 h2).below hb⟩
theorem TmIn.below {w:World} {x:Tm} (h:TmIn w x) (hb:Below w.heap.size w w':=by go_grown):TmIn w' x:=⟨h.1.below hb,h.2⟩
theorem VcIn.below {w:World} {x:Vc} (h:VcIn w x) (hb:Below w.heap.size w w':=by go_grown):VcIn w' x:=⟨h.1,h.2.1.below hb,fun t ht=>(h.2.2.1 t ht).below hb,h.2.2.2⟩
theorem GpIn.below {w:World} {x:Gp} (h:GpIn w x) (hb:Below w.heap.size w w':=by go_grown):GpIn w' x:=⟨h.1,h.2.1.below hb,h.2.2⟩
theorem LyIn.below {w:World} {y:Ly} (h:LyIn w y) (hb:Below w.heap.size w w':=by go_grown):LyIn w' y :=
 ⟨h.rows.below hb,fun v hv=>(h.rok v hv).below hb,h.bias.below hb,fun v hv=>(h.bok v hv).below hb,h.kern.below hb,fun v hv=>(h.kok v hv).below hb,h.groups.below hb,fun v hv=>(h.gok v hv).below hb,h.ints,h.kind,h.lens⟩
theorem VcIn.ok {v:Vc} {units digits:Int} (h:VcIn W v) (hs:shortVc units digits v=true) (hd:digits≤m) (hu:units≤100000):VcOk W m v:=by
 unfold shortVc at hs
 simp only[dB,wB,sB] at hs
 refine⟨h.2.1,fun t ht=>?_,zo⟩;have h1:=hs.2 t ht;unfold shortFr at h1
 simp only[dB,wB] at h1
 exact(h.2.2.1 t ht).1.2.2 m zo zo
theorem FrIn.okAll {L:List Fr} {n:Nat} {units digits:Int} (h:∀x∈L,FrIn W x) (hs:shortFrs units digits n L=true) (hd:digits≤m):∀x∈L,FrOk W m x:=fun x hx=>by
 unfold shortFrs at hs
 simp only[dB,wB,sB] at hs
 have h1:=hs.2 x hx;unfold shortFr at h1
 simp only[dB,wB] at h1
 exact(h x hx).2.2 m zo zo
theorem LyIn.ok {y:Ly} {units digits:Int} (h:LyIn W y) (hs:smallLy units digits y=true) (hd:digits≤m) (hu:units≤25000):LyOk W m y:=by
 unfold smallLy at hs
 simp only[dB,wB] at hs
 obtain⟨h1,h2,h3,h4,h5,h6,h7,h8,h9⟩:=hs;have l2:(y.bn:Int)≤units:=by unfold shortFrs at h2;simp only[dB,wB] at h2;exact h2.1
 have l3:(y.kn:Int)≤4*units:=by unfold shortFrs at h3;simp only[dB,wB] at h3;exact h3.1
 unfold shortVcs at h1
 simp only[dB,wB,sB] at h1
 refine⟨h.rows,fun v hv=>(h.rok v hv).ok (h1.2 v hv) hd zo,h.bias,FrIn.okAll h.bok h2 hd,h.kern,FrIn.okAll h.kok h3 hd,h.groups,fun v hv=>⟨(h.gok v hv).2.1,?_⟩,⟨zo,zo,zo,zo⟩⟩;have:=sB.1 h9 v hv;simp only[wB] at this
 omega
theorem steps_rng {w:World} {L:List Ly} (hok:∀y∈L,LyOk w m y):∀{n s:Int} {l:List Int},1≤n→n≤256→stepsF L n s=.ok l→∀x∈l,1≤x∧x≤256:=by
 induction L with
 | nil=>intro n s l h1 h2 h x hx;cases h;obtain rfl:=uC.1 hx;exact⟨h1,h2⟩
 | cons y L ih =>
  intro n s l h1 h2 h x hx;rw[steps_cons] at h;cases hb:zAc y n with
  | none=>rw[hb] at h;cases h
  | some p =>
   obtain⟨u,t⟩:=p;have hbd:=behind_bd (hok y kB) h1 h2 hb;rw[hb] at h;simp only at h
   by_cases h3:256<u
   ·rw[bB h3] at h;cases h
   ·rw[dA h3] at h;by_cases h4:16384<s+t
    ·rw[bB h4] at h;cases h
    ·rw[dA h4] at h;cases hs:stepsF L u (s+t) with
     | error e=>rw[hs] at h;cases h
     | ok l2 =>
      rw[hs] at h;simp[Except.map] at h
      subst h;rcases rB.1 hx with rfl | hx
      ·exact⟨h1,h2⟩
      ·exact ih (fun y hy=>hok y (jB _ hy)) hbd.1 zo hs x hx
end Go.Proofs.YtiondclbdgijbaaGreatDoor
