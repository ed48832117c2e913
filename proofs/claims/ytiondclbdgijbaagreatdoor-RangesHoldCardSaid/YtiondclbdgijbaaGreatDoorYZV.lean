import Derived.Test.YtiondclbdgijbaaGreatDoorYZDiv
import Derived.Deep.RegionHeld3
set_option maxHeartbeats 4000000
set_option maxRecDepth 100000
namespace Go.Proofs.YtiondclbdgijbaaGreatDoor
open Go.RowKit Tw
theorem divmod_less (A A':Option Addr) (c c':Nat) (xs ys:List Nat) (w:World) (h:Nums w A c xs) (h':Nums w A' c' ys) (hs:xs.length≤900000000000) (hs':ys.length≤900000000000) (hlt:val xs<val ys) :
  Calls Tryz.prog 105 #[.slice A xs.length c,.slice A' ys.length c'] w (Ret2 w (val xs / val ys) (val xs % val ys)):=by
 rw[vD hlt,cD hlt];have HU:=zh (used_any A' c' ys w h' zo);have p1:(((nl (val ys):Nat):Int)==0)=false:=by simp[nl_eq_zero];omega
 have HC:=zh (cmp_any A A' c c' xs ys w h h' zo zo);have t:decide (cmpI ((val xs:Nat):Int) ((val ys:Nat):Int)<0)=true:=by rw[cmpI_lt zo];rfl
 clear hlt;go_enter Tryz.func105,Tryz.ntmps105
 go_wp2_with fail
 refine HU.out.mono ?_;rintro e w1 ⟨rfl,rfl⟩;go_wp2_with fail
 refine HC.out.mono ?_;rintro e w1 ⟨rfl,m,rfl⟩;go_wp2_with fail
 refine(trim_any A c xs _ (h.drewN m) zo).mono ?_;rintro e w1 ⟨A1,c1,rfl,ho1,hb1⟩;go_wp2_with fail
 go_ret2
 exact⟨none,0,A1,c1,rfl,.inl ⟨rfl,rfl,rfl⟩,ho1,(below_drewN (Below.refl _ _) m).trans hb1⟩
theorem one_digit {ys:List Nat} (h:Ok ys) (hn:nl (val ys)=1):val ys=dg ys 0∧0<dg ys 0:=by
 have e2:=val_take_nl h (n:=1) zo;have e3:=val_take_succ' ys 0;rw[mC,e2,List.take_zero,val_nil,mC,Nat.pow_zero,fE] at e3;have e4:val ys=dg ys 0:=e3;refine⟨e4,?_⟩;rw[←e4];rcases qC (val ys) with e | e
 ·rw[e,nl_zero] at hn;omega
 ·exact e
theorem short_front (A:Option Addr) (c:Nat) (xs ys:List Nat) (W:World) (hW:Nums W A c xs) (hs:xs.length≤900000000000) (hy:Ok ys) (hn:nl (val ys)=1) :
  Calls Tryz.prog 127 #[.slice A (nl (val xs)) c,.int .u64 ((dg ys 0:Nat):Int)] W (Ret2 W (val xs / val ys) (val xs % val ys)):=by
 obtain⟨hd,hd0⟩:=one_digit hy hn;have hl:=nl_val hW.ok;have hlen:(xs.take (nl (val xs))).length=nl (val xs):=by rw[mB];omega
 have:=short_any A c (dg ys 0) (nl (val xs)) (xs.take (nl (val xs))) W (hW.front _) hlen zo ⟨hd0,dg_lt hy 0⟩;rw[val_take_nl hW.ok (aA _)] at this;rw[hd];exact this
theorem divmod_short (A A':Option Addr) (c c':Nat) (xs ys:List Nat) (w:World) (h:Nums w A c xs) (h':Nums w A' c' ys) (hs:xs.length≤900000000000) (hs':ys.length≤900000000000) (hle:val ys≤val xs) (hn:nl (val ys)=1) :
  Calls Tryz.prog 105 #[.slice A xs.length c,.slice A' ys.length c'] w (Ret2 w (val xs / val ys) (val xs % val ys)):=by
 have HU:=zh (used_any A' c' ys w h' zo);have hl':=nl_val h'.ok;have hl:=nl_val h.ok;have hnx:nl (val ys)≤nl (val xs):=nl_mono hle;have HC:=zh (cmp_any A A' c c' xs ys w h h' zo zo);have t:decide (cmpI ((val xs:Nat):Int) ((val ys:Nat):Int)<0)=false:=by
  rcases Nat.lt_or_eq_of_le hle with e | e
  ·rw[cmpI_gt zo];rfl
  ·rw[e,cmpI_eq];rfl
 have HU2:=zh (fun W (hW:Nums W A c xs)=>used_any A c xs W hW zo);obtain⟨b,off,rfl,hcx⟩:=h.cells zo;obtain⟨b',off',rfl,hcy⟩:=h'.cells zo;have c0:=hcy 0 zo;rw[bD] at c0;have hi0:(0:Int)<ys.length:=zo;have hc:=h.le;have HS:=zh (fun W (hW:Nums W (some ⟨b,off,none⟩) c xs)=>short_front (some ⟨b,off,none⟩) c xs ys W hW hs h'.ok hn);rw[hn] at HU;have HNN:=zh hn;clear hle hn hcx hcy hnx;go_enter Tryz.func105,Tryz.ntmps105
 go_wp2_with fail
 refine HU.out.mono ?_;rintro e w1 ⟨rfl,rfl⟩;go_wp2_with fail
 refine HC.out.mono ?_;rintro e w1 ⟨rfl,m,rfl⟩;go_wp2_with fail
 go_region_with ((first | (go_at_call 95;refine(HU2.out _ (h.drewN _).drew).mono ?_;rintro e w' ⟨rfl,rfl⟩) | (go_at_call 127;refine(HS.out _ (h.drewN _).drew).mono ?_;rintro e w' ⟨A1,c1,A2,c2,rfl,ho1,ho2,hb1⟩)))
 all_goals
  go_wp2_with fail
  go_ret2
  exact⟨_,_,_,_,rfl,‹Own _ _ A1 c1 _›,‹Own _ _ A2 c2 _›,((below_drewN (Below.refl _ _) m).drew).trans hb1⟩
theorem long_front (A A':Option Addr) (c c':Nat) (xs ys:List Nat) (W:World) (hW:Nums W A c xs) (hW':Nums W A' c' ys) (hs:xs.length≤900000000000) (hle:val ys≤val xs) (hn:2≤nl (val ys)) :
  Calls Tryz.prog 128 #[.slice A (nl (val xs)) c,.slice A' (nl (val ys)) c'] W (Ret2 W (val xs / val ys) (val xs % val ys)):=by
 have hl:=nl_val hW.ok;have hl':=nl_val hW'.ok;have h0:val ys≠0:=fun e=>by rw[e,nl_zero] at hn;omega
 have ht:dg (ys.take (nl (val ys))) (nl (val ys)-1)≠0:=by
  rw[limbs_take hW'.ok];exact top_ne h0
 have hI:LongIn (xs.take (nl (val xs))) (ys.take (nl (val ys))) (nl (val xs)) (nl (val ys)) _ _ _:=⟨hW.ok.take _,hW'.ok.take _,by rw[mB];omega,by rw[mB];omega,hn,ht,nl_mono hle,rfl,rfl,rfl⟩;have:=long_any A A' c c' _ _ _ _ _ _ _ W (hW.front _) (hW'.front _) hI zo;rw[val_take_nl hW.ok (aA _),val_take_nl hW'.ok (aA _)] at this;exact this
theorem divmod_long (A A':Option Addr) (c c':Nat) (xs ys:List Nat) (w:World) (h:Nums w A c xs) (h':Nums w A' c' ys) (hs:xs.length≤900000000000) (hs':ys.length≤900000000000) (hle:val ys≤val xs) (hn:2≤nl (val ys)) :
  Calls Tryz.prog 105 #[.slice A xs.length c,.slice A' ys.length c'] w (Ret2 w (val xs / val ys) (val xs % val ys)):=by
 have HU:=zh (used_any A' c' ys w h' zo);have hl':=nl_val h'.ok;have hl:=nl_val h.ok;have hnx:nl (val ys)≤nl (val xs):=nl_mono hle;have HC:=zh (cmp_any A A' c c' xs ys w h h' zo zo);have t:decide (cmpI ((val xs:Nat):Int) ((val ys:Nat):Int)<0)=false:=by
  rcases Nat.lt_or_eq_of_le hle with e | e
  ·rw[cmpI_gt zo];rfl
  ·rw[e,cmpI_eq];rfl
 have p1:(((nl (val ys):Nat):Int)==0)=false:=by simp;omega
 have p2:(((nl (val ys):Nat):Int)==1)=false:=by simp;omega
 have HU2:=zh (fun W (hW:Nums W A c xs)=>used_any A c xs W hW zo);obtain⟨b,off,rfl,hcx⟩:=h.cells zo;obtain⟨b',off',rfl,hcy⟩:=h'.cells zo;have hc:=h.le;have hc':=h'.le;have HS:=zh (fun W (hW:Nums W (some ⟨b,off,none⟩) c xs) (hW':Nums W (some ⟨b',off',none⟩) c' ys)=>long_front (some ⟨b,off,none⟩) (some ⟨b',off',none⟩) c c' xs ys W hW hW' hs hle hn);have i1:(0:Int)≤((nl (val ys):Nat):Int):=zo;have i2:((nl (val ys):Nat):Int)≤(c':Int):=zo;have i3:(0:Int)≤((nl (val xs):Nat):Int):=zo;have i4:((nl (val xs):Nat):Int)≤(c:Int):=zo;clear hle hcx hcy;go_enter Tryz.func105,Tryz.ntmps105
 go_wp2_with fail
 refine HU.out.mono ?_;rintro e w1 ⟨rfl,rfl⟩;go_wp2_with fail
 refine HC.out.mono ?_;rintro e w1 ⟨rfl,m,rfl⟩;go_wp2_with fail
 go_region_with ((first | (go_at_call 95;refine(HU2.out _ (h.drewN _).drew).mono ?_;rintro e w' ⟨rfl,rfl⟩) | (go_at_call 128;refine(HS.out _ (h.drewN _).drew (h'.drewN _).drew).mono ?_;rintro e w' ⟨A1,c1,A2,c2,rfl,ho1,ho2,hb1⟩)))
 all_goals
  go_wp2_with fail
  go_ret2
  exact⟨_,_,_,_,rfl,‹Own _ _ A1 c1 _›,‹Own _ _ A2 c2 _›,((below_drewN (Below.refl _ _) m).drew).trans hb1⟩
theorem divmod_any (A A':Option Addr) (c c':Nat) (xs ys:List Nat) (w:World) (h:Nums w A c xs) (h':Nums w A' c' ys) (hs:xs.length≤900000000000) (hs':ys.length≤900000000000) (hy:val ys≠0) :
  Calls Tryz.prog 105 #[.slice A xs.length c,.slice A' ys.length c'] w (Ret2 w (val xs / val ys) (val xs % val ys)):=by
 rcases eB (val xs) (val ys) with hlt | hge
 ·exact divmod_less A A' c c' xs ys w h h' hs hs' hlt
 ·have hp:0<nl (val ys):=Nat.pos_of_ne_zero fun e=>hy (nl_eq_zero.1 e);rcases eB (nl (val ys)) 2 with h1 | h2
  ·exact divmod_short A A' c c' xs ys w h h' hs hs' hge zo
  ·exact divmod_long A A' c c' xs ys w h h' hs hs' hge h2
def V (w:World) (A:Option Addr) (c l n:Nat):Prop:=∃xs,Nums w A c xs∧xs.length=l∧val xs=n
def C (w:World) (A:Option Addr) (c l n:Nat):Prop:=Nums w A c (limbs n)∧nl n=l
theorem C.v {w:World} {A:Option Addr} {c l n:Nat} (h:C w A c l n):V w A c l n:=⟨limbs n,h.1,h.2,val_limbs n⟩
theorem V.below {w w':World} {A:Option Addr} {c l n:Nat} (h:V w A c l n) (hb:Below w.heap.size w w'):V w' A c l n:=by
 obtain⟨xs,h1,h2⟩:=h;exact⟨xs,h1.below hb,h2⟩
theorem C.below {w w':World} {A:Option Addr} {c l n:Nat} (h:C w A c l n) (hb:Below w.heap.size w w'):C w' A c l n:=⟨h.1.below hb,h.2⟩
theorem Own.c {w:World} {B:Nat} {A:Option Addr} {c n:Nat} (h:Own w B A c n):C w A c (nl n) n:=⟨h.nums,rfl⟩
theorem V.lt {w:World} {A:Option Addr} {c l n:Nat} (h:V w A c l n):n<B ^ l:=by
 obtain⟨xs,h1,rfl,rfl⟩:=h;exact val_lt h1.ok
theorem V.le {w:World} {A:Option Addr} {c l n:Nat} (h:V w A c l n):nl n≤l:=nl_le_of_lt h.lt
def Tells (w:World) (n m:Nat) (e:Ending) (w':World):Prop:=∃A c l,e=.returned (.slice A l c)∧C w' A c l n∧l≤m∧Below w.heap.size w w'
theorem Ret.tells {w:World} {n m:Nat} {e:Ending} {w':World} (h:Ret w n e w') (hm:nl n≤m):Tells w n m e w':=by
 obtain⟨A,c,he,ho,hb⟩:=h;exact⟨A,c,nl n,he,ho.c,hm,hb⟩
section
variable {w:World} {A A':Option Addr} {c c' l l' a b:Nat}
theorem trim_v (h:V w A c l a) (hl:l≤800000000000):Calls Tryz.prog 80 #[.slice A l c] w (Tells w a l):=by
 have hle:=h.le;obtain⟨xs,h1,rfl,rfl⟩:=h;exact(trim_any A c xs w h1 zo).mono fun _ _ hr=>hr.tells hle
theorem add_v (h:V w A c l a) (h':V w A' c' l' b) (hl:l+l'≤800000000000):Calls Tryz.prog 78 #[.slice A l c,.slice A' l' c'] w (Tells w (a+b) (max l l'+1)):=by
 have hle:nl (a+b)≤max l l'+1:=by
  refine nl_le_of_lt ?_;have h1:=h.lt;have h2:=h'.lt;have h3:B ^ l≤B ^ max l l':=wD B_pos zo;have h4:B ^ l'≤B ^ max l l':=wD B_pos zo;have h5:B ^ max l l'*2≤B ^ max l l'*B:=aC _ B_two;rw[yB];omega
 obtain⟨xs,h1,rfl,rfl⟩:=h;obtain⟨ys,h2,rfl,rfl⟩:=h';exact(add_any A A' c c' xs ys w h1 h2 zo zo).mono fun _ _ hr=>hr.tells hle
theorem sub_v (h:V w A c l a) (h':V w A' c' l' b) (hl:l+l'≤800000000000):Calls Tryz.prog 79 #[.slice A l c,.slice A' l' c'] w (Tells w (a-b) l):=by
 have hle:nl (a-b)≤l:=wA (nl_mono zo) h.le;obtain⟨xs,h1,rfl,rfl⟩:=h;obtain⟨ys,h2,rfl,rfl⟩:=h';exact(sub_any A A' c c' xs ys w h1 h2 zo zo).mono fun _ _ hr=>hr.tells hle
theorem mul_v (h:V w A c l a) (h':V w A' c' l' b) (hl:l+l'≤800000000000):Calls Tryz.prog 67 #[.slice A l c,.slice A' l' c'] w (Tells w (a*b) (l+l')):=by
 have hle:nl (a*b)≤l+l':=by
  refine nl_le_of_lt ?_;rw[tC];exact Nat.mul_lt_mul'' h.lt h'.lt
 obtain⟨xs,h1,rfl,rfl⟩:=h;obtain⟨ys,h2,rfl,rfl⟩:=h';exact(mul_any A A' c c' xs ys w h1 h2 zo zo).mono fun _ _ hr=>hr.tells hle
theorem bits_v (h:V w A c l a) (hl:l≤800000000000):Calls Tryz.prog 93 #[.slice A l c] w fun e w'=>e=.returned (.int .i64 (nbits a))∧w=w':=by
 obtain⟨xs,h1,rfl,rfl⟩:=h;exact bits_any A c xs w h1 zo
theorem cmp_v (z:Int) (h:V w A c l a) (h':V w A' c' l' b) (hl:l+l'≤800000000000) (hz:cmpI (a:Int) (b:Int)=z):Calls Tryz.prog 65 #[.slice A l c,.slice A' l' c'] w fun e w'=>e=.returned (.int .i64 z)∧Below w.heap.size w w':=by
 obtain⟨xs,h1,rfl,rfl⟩:=h;obtain⟨ys,h2,rfl,rfl⟩:=h';exact(cmp_any A A' c c' xs ys w h1 h2 zo zo).mono fun e w' ⟨he,n,hw⟩=>⟨by rw[he,hz],by rw[hw];exact below_drewN (Below.refl _ _) n⟩
def Tells2 (w:World) (q r m m':Nat) (e:Ending) (w':World):Prop :=
 ∃A c l A' c' l',e=.returned (.tuple #[.slice A l c,.slice A' l' c'])∧C w' A c l q∧C w' A' c' l' r∧l≤m∧l'≤m'∧Below w.heap.size w w'
theorem divmod_v (h:V w A c l a) (h':V w A' c' l' b) (hl:l+l'≤800000000000) (h0:b≠0):Calls Tryz.prog 105 #[.slice A l c,.slice A' l' c'] w (Tells2 w (a / b) (a % b) l l'):=by
 have hle:nl (a / b)≤l:=wA (nl_mono (tE _ _)) h.le;have hle':nl (a % b)≤l':=wA (nl_mono (Nat.le_of_lt (fC _ (Nat.pos_of_ne_zero h0)))) h'.le;obtain⟨xs,h1,rfl,rfl⟩:=h;obtain⟨ys,h2,rfl,rfl⟩:=h';exact(divmod_any A A' c c' xs ys w h1 h2 zo zo h0).mono fun _ _ ⟨A1,c1,A2,c2,he,o1,o2,hb⟩=>⟨A1,c1,_,A2,c2,_,he,o1.c,o2.c,hle,hle',hb⟩
end
theorem lit_v (w:World) (xs:List Nat) (l n:Nat) (ho:Ok xs) (hl:xs.length=l) (hn:val xs=n):V (w.alloc (.cells (cellsOf xs) 114)) (some ⟨w.heap.size,0,none⟩) l l n:=by
 subst hl;exact⟨xs,(Row.new w xs).nums ho,rfl,hn⟩
theorem zAe (w:World) (o:Obj):Below w.heap.size w (w.alloc o):=(Below.refl _ _).alloc (aA _) _
end Go.Proofs.YtiondclbdgijbaaGreatDoor
