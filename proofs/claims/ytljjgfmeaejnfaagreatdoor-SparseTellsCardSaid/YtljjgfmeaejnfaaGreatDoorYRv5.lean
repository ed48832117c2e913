/-
  tripwireref05.Put, Dense, sameWords, Right. Written by wip/gen/rv5.py.
-/
import Derived.Test.YtljjgfmeaejnfaaGreatDoorYAl
import Derived.Test.YtljjgfmeaejnfaaGreatDoorYCp0
set_option maxHeartbeats 16000000
set_option maxRecDepth 100000
namespace Go.Proofs.YtljjgfmeaejnfaaGreatDoor
open Go.RowKit Tw
theorem own_cap {w:World} {B n size:Nat} {e:TypeId} {A:Option Addr} {c:Nat} {xs:List Value} (h:OwnR w B e size (.slice A n c) n xs):A=none→c=0:=fun e=>by
 obtain⟨_,_,e9,h9,_⟩:=h.slice
 cases e9
 exact(h9 e).2
theorem gv_put {w:World} {A:Option Addr} {n c M mq:Nat} {L:List Tm} {at_:Int} {fr:Fr} (hsl:Sl Tm.cs 5 w A n c (L.filter (offT at_)++[⟨at_,fr⟩])) (hok:OkT w L) (hfr:FrOk w mq fr) (hws:∀a,wsum L a≤M) (hA:A=none→c=0):GV w A n c (putF (prs L) at_ fr.q) (M+mq+2):=by
 refine⟨_,hsl,fun t ht=>?_,?_,fun a=>?_,hA⟩
 ·rcases List.mem_append.1 ht with h | h
  ·exact hok t (List.mem_filter.1 h).1
  ·rw[List.mem_singleton.1 h]
   exact hfr.rep
 ·rw[prs_append]
  unfold putF
  rw[←filter_prs L fun x=>decide (x.1≠at_)]
  rfl
 ·rw[wsum_append]
  have h1:=Nat.le_trans (wsum_filter L (offT at_) a) (hws a)
  have h2:=hfr.r.len
  show _+((if at_=a then max fr.l fr.l'+2 else 0)+0)≤_
  split<;>omega
def PTR (w:World) (cs:Array Value) (L:List Tm) (at_:Int) (n gk:Nat) (s7 s8:Value) (wr:World):Prop :=
 ∃(i k:Nat) (H:Option Addr) (hc:Nat),s7=.slice H k hc∧s8=.int .i64 (i:Int)∧i≤n∧n-i=gk∧OwnR wr (w.heap.size+1) 114 5 (.slice H k hc) k (flat Tm.cs ((L.take i).filter (offT at_)))∧Bx wr w.heap.size cs 50∧Below w.heap.size w wr
theorem putR_q {w:World} {s s':Bool} {A A':Option Addr} {l c l' c':Nat} {q:Rat} {mq:Nat} {X:Option Addr} {n cx M:Nat} {P:List (Int×Rat)} (h:GV w X n cx P M) (at_:Int) (ha:R w s A c l s' A' c' l' q mq) (hM:M+mq≤860) (hn:n≤90000) (hT:Hid (Tab w)) :
  Calls Tryz.prog 33 #[.slice X n cx,.int .i64 at_,.agg #[.bool s,.slice A l c,.bool s',.slice A' l' c']] w (TellsV w (nrm (putF P at_ q)) (M+mq+8)):=by
 obtain⟨L,x1,x2,rfl,x4,x5⟩:=h
 obtain⟨ex,hfa⟩:=ha.fr
 have HS:=zh x1
 have HLN:=zh x1.1
 have HOK:=zh x2
 have HWS:=zh x4
 have HFA:=zh hfa
 clear x1 x2 x4 x5 hfa ha
 obtain⟨W,hW,x0,hB⟩:=zAe w #[.bool s,.slice A l c,.bool s',.slice A' l' c'] 50
 have HX0:=zh x0
 clear x0
 have Bz:=Below.refl W.heap.size W
 go_enter Tryz.func33,Tryz.ntmps33
 go_wp2_with fail
 rw[←hW]
 clear hW
 go_wp2_with fail
 have HB1:=zh (zAa hB Bz)
 have XX0:=zh (zxb HX0 Bz)
 clear hB Bz HX0
 go_loopg [7,8] n (fun gk s7 s8 wr=>PTR w #[.bool s,.slice A l c,.bool s',.slice A' l' c'] L at_ n gk s7 s8 wr)
 case atStart=>exact⟨0,0,none,0,rfl,by go_num,Nat.zero_le _,rfl,OwnR.nil _ _ _ _,XX0.out.below (by go_grown),zAa HB1.out (by go_grown)⟩
 case round =>
  clear HB1 XX0
  obtain⟨i,k,H,hc,rfl,rfl,hi,hgk,ho,hx0,hB⟩:=hrel
  have HGK:=zh hgk
  have HX0:=zh hx0
  have HLT0:Hid (w.heap.size<wr.heap.size):=zh hx0.lt
  have hki:k≤n:=by
   have h1:=ho.eltn elt_term (by omega)
   have h2:=List.length_filter_le (offT at_) (L.take i)
   rw[List.length_take] at h2
   omega
  clear hgk hx0
  by_cases hlt:i<n
  ·obtain⟨b,off,rfl,hel⟩:=HS.out.at Tm.cs_len (by omega) (by omega)
   obtain⟨x,hx⟩:∃x,L[i]?=some x:=⟨L[i]'(by rw[HLN.out];exact hlt),List.getElem?_eq_getElem _⟩
   have hnd:=hel i x hx
   have hfs:=off_snoc hx (at_:=at_)
   have i1:(i:Int)<(n:Int):=by omega
   have i2:(0:Int)≤(i:Int):=by omega
   clear hel hx
   by_cases hq:x.at_=at_
   ·have g1:(x.at_ != at_)=false:=by simpa using hq
    have HFS:Hid ((L.take (i+1)).filter (offT at_)=(L.take i).filter (offT at_)):=zh (by rw[hfs,if_pos hq,List.append_nil])
    clear hfs hq
    have Bz:=Below.refl wr.heap.size wr
    have p50_0:=(hnd.below (zAa hB Bz)).c0 (u:=.int .i64 x.at_) rfl
    go_wp2_with fail
    go_roundg (n-(i+1))
    case measure=>have:=HGK.out;omega
    case rel=>exact⟨i+1,k,_,_,rfl,by go_num,by omega,rfl,by rw[HFS.out];exact OwnR.below ho (by go_grown),HX0.out.below (zAa Bz (by go_grown)),zAa (zAa hB Bz) (by go_grown)⟩
   ·have g1:(x.at_ != at_)=true:=by simpa using hq
    have HFS:Hid ((L.take (i+1)).filter (offT at_)=(L.take i).filter (offT at_)++[x]):=zh (by rw[hfs,if_neg hq])
    clear hfs hq
    have Bz:=Below.refl wr.heap.size wr
    obtain⟨p50_0,p50_1,p50_2,p50_3,p50_4,-⟩:=(hnd.below (zAa hB Bz)).ez
    go_wp2_with (at_builtin;refine And.left (b:=True) ?_)
    refine⟨?_,trivial⟩
    obtain⟨V11,hW,x1,hN⟩:=zAe wr #[.int .i64 x.at_,.bool x.x.s,.slice x.x.A x.x.l x.x.c,.bool x.x.s',.slice x.x.A' x.x.l' x.x.c'] 114
    rw[←hW]
    clear hW
    obtain⟨v1,hb1⟩:∃b,b=wr.heap.size:=⟨_,rfl⟩
    rw[←hb1] at x1 ⊢
    have o0_1:w.heap.size<v1:=by have:=(zxb HX0 Bz).lt;omega
    have ow_1:w.heap.size≤v1:=by have:=zw hB Bz;omega
    have nv1_own:=OwnR.off' (b:=v1) ho (by omega)
    replace ho:=ho.below hN
    replace hB:=zAa (zAa hB Bz) hN
    replace HX0:=zh ((zxb HX0 Bz).below hN)
    have HX1:=zh x1
    clear x1 hN Bz hb1
    have Bz:=Below.refl V11.heap.size V11
    clear p50_0 p50_1 p50_2 p50_3 p50_4
    have hdr:V11.drew.heap.size=V11.heap.size:=rfl
    have hdr2:V11.drew.drew.heap.size=V11.heap.size:=rfl
    refine Elt.app elt_term rfl _ _ rfl ((w.heap.size+1)) (.slice H k hc) (k) (((L.take i).filter (offT at_))) rfl ho (.slice (some ⟨v1,0,none⟩) 1 1) (1) ([x]) rfl (From.one (HX1.out.below (zAa Bz (by go_grown))) (x) rfl (elt_term.len _)) (by omega) (by have:=(zxb HX0 Bz).lt;have:=hB.size;have:=Bz.size;omega) ?_
    intro H11 c11 w11 ho11 hg11
    replace hB:=(zAa (zAa hB Bz) (by go_grown)).trans (hg11.below (by have:=zw hB Bz;omega) (fun g hg=>by have:=ho.base g hg;omega))
    replace HX0:=zh (hg11.bx (zxb HX0 Bz) (ho.off (by omega)))
    clear HX1
    clear hdr hdr2
    clear hg11 Bz
    have Bz:=Below.refl w11.heap.size w11
    go_wp2_with fail
    go_roundg (n-(i+1))
    case measure=>have:=HGK.out;omega
    case rel=>exact⟨i+1,k+1,_,_,rfl,by go_num,by omega,rfl,by rw[HFS.out];exact OwnR.below ho11 (by go_grown),HX0.out.below (zAa Bz (by go_grown)),zAa (zAa hB Bz) (by go_grown)⟩
  ·obtain rfl:i=n:=by omega
   have i1:¬(i:Int)<(i:Int):=by omega
   rw[List.take_of_length_le (by rw[HLN.out];exact Nat.le_refl _)] at ho
   have Bz:=Below.refl wr.heap.size wr
   obtain⟨p0_0,p0_1,p0_2,p0_3,-⟩:=(zxb HX0 Bz).cz
   go_wp2_with (at_builtin;refine And.left (b:=True) ?_)
   refine⟨?_,trivial⟩
   obtain⟨V11,hW,x1,hN⟩:=zAe wr #[.int .i64 at_,.bool s,.slice A l c,.bool s',.slice A' l' c'] 114
   rw[←hW]
   clear hW
   obtain⟨v1,hb1⟩:∃b,b=wr.heap.size:=⟨_,rfl⟩
   rw[←hb1] at x1 ⊢
   have o0_1:w.heap.size<v1:=by have:=(zxb HX0 Bz).lt;omega
   have ow_1:w.heap.size≤v1:=by have:=zw hB Bz;omega
   have nv1_own:=OwnR.off' (b:=v1) ho (by omega)
   replace ho:=ho.below hN
   replace hB:=zAa (zAa hB Bz) hN
   replace HX0:=zh ((zxb HX0 Bz).below hN)
   have HX1:=zh x1
   clear x1 hN Bz hb1
   have Bz:=Below.refl V11.heap.size V11
   clear p0_0 p0_1 p0_2 p0_3
   have hdr:V11.drew.heap.size=V11.heap.size:=rfl
   have hdr2:V11.drew.drew.heap.size=V11.heap.size:=rfl
   refine Elt.app elt_term rfl _ _ rfl ((w.heap.size+1)) (.slice H k hc) (k) ((L.filter (offT at_))) rfl ho (.slice (some ⟨v1,0,none⟩) 1 1) (1) ([⟨at_,⟨s,A,c,l,s',A',c',l',q,ex⟩⟩]) rfl (From.one (HX1.out.below (zAa Bz (by go_grown))) (⟨at_,⟨s,A,c,l,s',A',c',l',q,ex⟩⟩) rfl (elt_term.len _)) (by omega) (by have:=(zxb HX0 Bz).lt;have:=hB.size;have:=Bz.size;omega) ?_
   intro H11 c11 w11 ho11 hg11
   replace hB:=(zAa (zAa hB Bz) (by go_grown)).trans (hg11.below (by have:=zw hB Bz;omega) (fun g hg=>by have:=ho.base g hg;omega))
   replace HX0:=zh (hg11.bx (zxb HX0 Bz) (ho.off (by omega)))
   clear HX1
   clear hdr hdr2
   clear hg11 Bz
   have Bz:=Below.refl w11.heap.size w11
   go_wp2_with fail
   with_reducible refine(normR_q (gv_put (OwnR.sl' elt_term ho11 (OwnR.eltn elt_term (by omega) ho11)) (HOK.out.below (zAa hB Bz)) (HFA.out.below (zAa hB Bz)) HWS.out (own_cap ho11)) (by omega) (by omega) (zh (Tab.below hT.out (zAa hB (zAa (b:=w11) Bz (by go_grown)))))).mono ?_
   rintro e w12 ⟨A12,n12,c12,rfl,h12,b12⟩
   replace b12:=zAa (a:=w11) (by go_grown) b12
   replace Bz:=zAa Bz b12
   clear b12
   go_wp2_with fail
   go_ret
   have hF:=zAa (c:=w12) hB Bz
   exact⟨_,_,_,rfl,(NV.below h12 (by go_grown)).mono (by omega),zAa hF (by go_grown)⟩
theorem AllRn.snoc {w:World} {K:Nat} {L:List Fr} (h:AllRn w K L) {x:Fr} (hx:RN w x.s x.A x.c x.l x.s' x.A' x.c' x.l' x.q∧x.ex=true∧sz x.q+1≤K):AllRn w K (L++[x]):=fun y hy=>by
 rcases List.mem_append.1 hy with hy | hy
 ·exact h y hy
 ·rw[List.mem_singleton.1 hy];exact hx
theorem dense_snoc (P:List (Int×Rat)) (i:Nat):denseF P (i+1)=denseF P i++[pget P (i:Int)]:=by
 unfold denseF
 rw[List.range_succ,List.map_append]
 rfl
def DR1 (w:World) (P:List (Int×Rat)) (K m gk:Nat) (s5 s6:Value) (wr:World):Prop :=
 ∃(i:Nat) (H:Option Addr) (hc:Nat) (D:List Fr),s5=.slice H i hc∧s6=.int .i64 (i:Int)∧i≤m∧m-i=gk∧OwnR wr w.heap.size 50 4 (.slice H i hc) i (flat Fr.cs D)∧D.map (fun x=>x.q)=denseF P i∧AllRn wr K D∧Below w.heap.size w wr
theorem denseR_q {w:World} {X:Option Addr} {n cx M:Nat} {P:List (Int×Rat)} (kk:Int) (m:Nat) (h:GV w X n cx P M) (hM:M≤880) (hn:n≤100000) (hk:kk.toNat=m) (hm:m≤65536) :
  Calls Tryz.prog 45 #[.slice X n cx,.int .i64 kk] w (TellsFs w (denseF P m) (M+2)):=by
 have HGX:=zh h
 have HZX:=zh (gv_sz h)
 clear h
 go_enter Tryz.func45,Tryz.ntmps45
 go_wp2_with fail
 go_loopg [5,6] m (fun gk s5 s6 wr=>DR1 w P (M+2) m gk s5 s6 wr)
 case atStart=>exact⟨0,none,0,[],rfl,rfl,Nat.zero_le _,rfl,OwnR.nil _ _ _ _,rfl,(fun x hx=>by cases hx),Below.refl _ _⟩
 case round =>
  obtain⟨i,H,hc,D,rfl,rfl,hi,hgk,ho,hd,hfr,hB⟩:=hrel
  have HGK:=zh hgk
  have HD:=zh hd
  clear hgk hd
  by_cases hlt:i<m
  ·have i1:(i:Int)<kk:=by omega
   have i2:(i:Int)<65536:=by omega
   have hgx:=HGX.out.below hB
   have Bz:=Below.refl wr.heap.size wr
   go_wp2_with fail
   with_reducible refine(getR_q (i:Int) (GV.below hgx (by go_grown)) (by omega) (by omega)).mono ?_
   rintro e w11 ⟨s11,A11,c11,l11,s11r,A11r,c11r,l11r,rfl,h11,b11⟩
   replace b11:=zAa (a:=wr) (by go_grown) b11
   replace hfr:=hfr.below b11
   replace ho:=ho.below b11
   replace Bz:=zAa Bz b11
   clear b11
   have z11:=HZX.out (i:Int)
   go_wp2_with (at_builtin;refine And.left (b:=True) ?_)
   refine⟨?_,trivial⟩
   obtain⟨V11,hW,x0,hN⟩:=zAe w11 #[.bool s11,.slice A11 l11 c11,.bool s11r,.slice A11r l11r c11r] 50
   rw[←hW]
   clear hW
   obtain⟨v0,hb0⟩:∃b,b=w11.heap.size:=⟨_,rfl⟩
   rw[←hb0] at x0 ⊢
   have ow_0:w.heap.size≤v0:=by have:=zw hB Bz;omega
   have nv0_own:=OwnR.off' (b:=v0) ho (by omega)
   replace hfr:=hfr.below hN
   replace h11:=h11.below hN
   replace ho:=ho.below hN
   replace hB:=zAa (zAa hB Bz) hN
   have HX0:=zh x0
   clear x0 hN Bz hb0
   have Bz:=Below.refl V11.heap.size V11
   have hdr:V11.drew.heap.size=V11.heap.size:=rfl
   have hdr2:V11.drew.drew.heap.size=V11.heap.size:=rfl
   refine Elt.app elt_frs rfl _ _ rfl (w.heap.size) (.slice H i hc) (i) (D) rfl ho (.slice (some ⟨v0,0,none⟩) 1 1) (1) ([⟨s11,A11,c11,l11,s11r,A11r,c11r,l11r,pget P (i:Int),true⟩]) rfl (From.one (HX0.out.below (zAa Bz (by go_grown))) (⟨s11,A11,c11,l11,s11r,A11r,c11r,l11r,pget P (i:Int),true⟩) rfl (elt_frs.len _)) (by omega) (by have:=zw hB Bz;omega) ?_
   intro H12 c12 w12 ho12 hg12
   replace hB:=(zAa (zAa hB Bz) (by go_grown)).trans (hg12.below (by have:=zw hB Bz;omega) (fun g hg=>by have:=ho.base g hg;omega))
   clear HX0
   clear hdr hdr2
   replace hfr:=hfr.k hg12.k
   replace h11:=h11.k hg12.k
   clear hg12 Bz
   have Bz:=Below.refl w12.heap.size w12
   go_wp2_with fail
   go_roundg (m-(i+1))
   case measure=>have:=HGK.out;omega
   case rel=>exact⟨i+1,_,_,_,rfl,by go_num,by omega,rfl,OwnR.below ho12 (by go_grown),by rw[List.map_append,HD.out,dense_snoc];rfl,AllRn.snoc (AllRn.below hfr (by go_grown)) (AllRn.put (RN.below h11 (by go_grown)) (by show sz (pget P (i:Int))+1≤_;omega)),zAa (zAa hB Bz) (by go_grown)⟩
  ·obtain rfl:i=m:=by omega
   have i1:¬(i:Int)<kk:=by omega
   have HSL:=zh (ho.sl' elt_frs (ho.eltn elt_frs (by omega)))
   have HFR:=zh hfr
   clear ho hfr
   go_wp2_with fail
   go_ret
   exact⟨H,i,hc,D,rfl,HSL.out,HFR.out,HD.out,hB⟩
theorem sameWordsR_any {w:World} {A A':Option Addr} {c c':Nat} {xs ys:List Nat} (h:Nums w A c xs) (h':Nums w A' c' ys) (hl:xs.length≤800000) (hl':ys.length≤800000) (t:Bool) (ht:decide (xs=ys)=t) :
  Calls Tryz.prog 106 #[.slice A xs.length c,.slice A' ys.length c'] w fun e w'=>e=.returned (.bool t)∧Below w.heap.size w w':=by
 by_cases hn:xs.length=ys.length
 ·obtain⟨n,hn1⟩:∃n,n=xs.length:=⟨_,rfl⟩
  rw[←hn,←hn1]
  rw[←hn1] at hl
  have g0:((n:Int) !=(n:Int))=false:=by simp
  have H:=zh h
  have H':=zh h'
  have HN:=zh hn
  have HN1:=zh hn1
  have HT:=zh ht
  have hst:EQ1 w xs ys n n (.int .i64 ((0:Nat):Int)) w:=⟨0,Nat.zero_le _,rfl,rfl,Below.refl _ _,fun j hj=>by omega⟩
  have HST:=zh hst
  clear h h' hn hn1 ht hst hl'
  go_enter Tryz.func106,Tryz.ntmps106
  go_wp2_with fail
  go_loopg [5] n (fun gk s wr=>EQ1 w xs ys n gk s wr)
  case atStart=>exact HST.out
  case round =>
   clear HST
   obtain⟨i,hi,hgk,rfl,hB,hd⟩:=hrel
   have HGK:=zh hgk
   have HD:=zh hd
   clear hgk hd
   by_cases hlt:i<n
   ·obtain⟨b1,o1,rfl,e1⟩:=H.out.cells (by rw[←HN1.out];omega)
    obtain⟨b2,o2,rfl,e2⟩:=H'.out.cells (by rw[←HN.out,←HN1.out];omega)
    replace e1:=e1 i (by rw[←HN1.out];exact hlt)
    replace e2:=e2 i (by rw[←HN.out,←HN1.out];exact hlt)
    obtain⟨d1,h1⟩:∃d,d=dg xs i:=⟨_,rfl⟩
    obtain⟨d2,h2⟩:∃d,d=dg ys i:=⟨_,rfl⟩
    rw[←h1] at e1
    rw[←h2] at e2
    have D1:=zh h1
    have D2:=zh h2
    replace e1:=(hB.cell (World.block_lt_of_cell? w _ e1)).trans e1
    replace e2:=(hB.cell (World.block_lt_of_cell? w _ e2)).trans e2
    have i1:(i:Int)<(n:Int):=by omega
    have i2:(0:Int)≤(i:Int):=by omega
    clear h1 h2
    by_cases he:d1=d2
    ·have g1:((d1:Int) !=(d2:Int))=false:=by simp[he]
     have HE:=zh he
     clear he
     have Bz:=Below.refl wr.heap.size wr
     have p51_0:=(Bz.cell (World.block_lt_of_cell? wr _ e1)).trans e1
     have p52_0:=(Bz.cell (World.block_lt_of_cell? wr _ e2)).trans e2
     go_wp2_with fail
     (try simp only[List.append_eq,List.cons_append,List.nil_append])
     refine zAb (.take 0 (.take 1 (.take 2 (.take 3 (.take 4 (.take 5 (.take 6 (.take 7 (.take 8 .done))))))))) [] (fun w'=>w'.cell? ⟨b1,o1+i,none⟩=some (.int .u64 (d1:Int))∧w'.cell? ⟨b2,o2+i,none⟩=some (.int .u64 (d2:Int))) (by kernel_rfl) (by kernel_rfl) ⟨p51_0,p52_0⟩ ?_
     iterate 9 (refine zT rfl rfl (fun w' ⟨p51_0,p52_0⟩=>by go_simp<;>with_reducible rfl) ?_;try simp only[uW,uX,uY,uZ])
     refine zAc ?_
     go_wp2_with fail
     go_roundg (n-(i+1))
     case measure=>have:=HGK.out;omega
     case rel=>exact⟨i+1,by omega,rfl,by go_num,zAa (zAa hB Bz) (by go_grown),fun j hj=>by
      rcases Nat.lt_or_ge j i with h1 | h1
      ·exact HD.out j h1
      ·obtain rfl:j=i:=by omega
       rw[←D1.out,←D2.out];exact HE.out⟩
    ·have g1:((d1:Int) !=(d2:Int))=true:=by simp;omega
     have HE:=zh he
     clear he
     have Bz:=Below.refl wr.heap.size wr
     have p51_0:=(Bz.cell (World.block_lt_of_cell? wr _ e1)).trans e1
     have p52_0:=(Bz.cell (World.block_lt_of_cell? wr _ e2)).trans e2
     go_wp2_with fail
     (try simp only[List.append_eq,List.cons_append,List.nil_append])
     refine zAb (.take 0 (.take 1 (.take 2 (.take 3 (.take 4 (.take 5 (.take 6 (.take 7 (.take 8 .done))))))))) [] (fun w'=>w'.cell? ⟨b1,o1+i,none⟩=some (.int .u64 (d1:Int))∧w'.cell? ⟨b2,o2+i,none⟩=some (.int .u64 (d2:Int))) (by kernel_rfl) (by kernel_rfl) ⟨p51_0,p52_0⟩ ?_
     iterate 9 (refine zT rfl rfl (fun w' ⟨p51_0,p52_0⟩=>by go_simp<;>with_reducible rfl) ?_;try simp only[uW,uX,uY,uZ])
     refine zAc ?_
     go_wp2_with fail
     go_ret
     have hF:=zAa (c:=wr) hB Bz
     obtain rfl:t=false:=by rw[←HT.out];simp;intro e;apply HE.out;rw[D1.out,D2.out,e]
     exact⟨rfl,zAa (zAa hB Bz) (by go_grown)⟩
   ·obtain rfl:i=n:=by omega
    have i1:¬(i:Int)<(i:Int):=by omega
    obtain rfl:t=true:=by rw[←HT.out];simp;exact dg_ext HN.out (by rw[←HN1.out];exact HD.out)
    go_wp2_with fail
    go_ret
    exact⟨rfl,hB⟩
 ·obtain rfl:t=false:=by rw[←ht];simp;rintro rfl;exact hn rfl
  have g1:((xs.length:Int) !=(ys.length:Int))=true:=by simp;omega
  clear ht h h' hn
  go_enter Tryz.func106,Tryz.ntmps106
  go_wp2_with fail
  go_ret
  exact⟨rfl,Below.refl _ _⟩
theorem sameWordsR_n {w:World} {A A':Option Addr} {c c' l l':Nat} {xs ys:List Nat} (h:Nx w A c l xs) (h':Nx w A' c' l' ys) (hl:l≤800000) (hl':l'≤800000) (t:Bool) (ht:Hid (decide (xs=ys)=t)) :
  Calls Tryz.prog 106 #[.slice A l c,.slice A' l' c'] w fun e w'=>e=.returned (.bool t)∧Below w.heap.size w w':=by
 obtain⟨h1,rfl⟩:=h
 obtain⟨h2,rfl⟩:=h'
 exact sameWordsR_any h1 h2 hl hl' t ht.out
theorem I.inj {w:World} {b:Bool} {A:Option Addr} {c l:Nat} {y z:Int} (h:I w b A c l y) (k:I w b A c l z):y=z:=by
 obtain⟨n,⟨xs,h1,h2,h3⟩,rfl⟩:=h
 obtain⟨m,⟨ys,k1,k2,k3⟩,rfl⟩:=k
 rw[←h3,←k3,h1.inj k1 (h2.trans k2.symm)]
theorem R.inj {w:World} {s s':Bool} {A A':Option Addr} {c l c' l':Nat} {p q:Rat} {m m':Nat} (h:R w s A c l s' A' c' l' p m) (k:R w s A c l s' A' c' l' q m'):p=q:=by
 obtain⟨n,d,h1,h2,h3,_⟩:=h
 obtain⟨n',d',k1,k2,k3,_⟩:=k
 rw[h3,k3,h1.inj k1,h2.inj k2]
theorem j_dg {w:World} {b:Bool} {A:Option Addr} {c l:Nat} {z:Int} {xs:List Nat} (h:J w b A c l z) (k:Nx w A c l xs):xs=limbs z.natAbs:=k.1.inj h.1.1 (k.2.trans (by have:=h.1.2;rw[←this];rfl))
theorem rr_pass {w:World} {x y:Fr} {d e:Dg} {m:Nat} (hx:FrOk w m x) (hy:RN w y.s y.A y.c y.l y.s' y.A' y.c' y.l' y.q) (hd:FrD w d x) (he:FrD w e y) (h1:x.s=y.s) (h2:x.s'=y.s') (h3:d.xs=e.xs) (h4:d.xs'=e.xs'):x.ex=true∧x.q=y.q:=by
 have e1:=j_dg hy.1 he.2.2.1
 have e2:=j_dg hy.2 he.2.2.2
 have l1:x.l=y.l:=by rw[←hd.2.2.1.2,←he.2.2.1.2,h3]
 have l2:x.l'=y.l':=by rw[←hd.2.2.2.2,←he.2.2.2.2,h4]
 have hj:RN w x.s x.A x.c x.l x.s' x.A' x.c' x.l' y.q:=by
  refine⟨⟨⟨?_,?_⟩,?_⟩,⟨⟨?_,?_⟩,?_⟩⟩
  ·rw[←e1,←h3];exact hd.2.2.1.1
  ·rw[l1];exact hy.1.1.2
  ·rw[h1];exact hy.1.2
  ·rw[←e2,←h4];exact hd.2.2.2.1
  ·rw[l2];exact hy.2.1.2
  ·rw[h2];exact hy.2.2
 have hq:x.q=y.q:=hx.r.inj hj.r
 refine⟨hx.rn.2 ?_,hq⟩
 rw[hq]
 exact hj
theorem rr_same {w:World} {x y:Fr} {d e:Dg} {m:Nat} (hx:FrOk w m x) (hex:x.ex=true) (hy:RN w y.s y.A y.c y.l y.s' y.A' y.c' y.l' y.q) (hq:x.q=y.q) (hd:FrD w d x) (he:FrD w e y):x.s=y.s∧x.s'=y.s'∧d.xs=e.xs∧d.xs'=e.xs':=by
 have hn:=hx.rn.1 hex
 rw[hq] at hn
 exact⟨hn.1.2.trans hy.1.2.symm,hn.2.2.trans hy.2.2.symm,(j_dg hn.1 hd.2.2.1).trans (j_dg hy.1 he.2.2.1).symm,(j_dg hn.2 hd.2.2.2).trans (j_dg hy.2 he.2.2.2).symm⟩
def RRi (L Y:List Tm) (kn:Int) (i:Nat):Prop:=∀(j:Nat) x y,j<i→L[j]?=some x→Y[j]?=some y→x.at_=y.at_∧0≤x.at_∧x.at_<kn∧x.x.ex=true∧x.x.q=y.x.q
theorem RRi.step {L Y:List Tm} {kn:Int} {i:Nat} {x y:Tm} (h:RRi L Y kn i) (hx:L[i]?=some x) (hy:Y[i]?=some y) (ha:x.at_=y.at_∧0≤x.at_∧x.at_<kn∧x.x.ex=true∧x.x.q=y.x.q):RRi L Y kn (i+1):=fun j u v hj hu hv=>by
 rcases Nat.lt_or_ge j i with h1 | h1
 ·exact h j u v h1 hu hv
 ·obtain rfl:j=i:=by omega
  rw[hx,Option.some.injEq] at hu
  rw[hy,Option.some.injEq] at hv
  rw[←hu,←hv]
  exact ha
theorem rr_no {w:World} {L Y:List Tm} {kn:Int} {i m:Nat} {x y:Tm} {d e:Dg} {r:Bool} (hr:rightB L kn=r) (hY:prs Y=nrm (prs L)) (hx:L[i]?=some x) (hy:Y[i]?=some y) (fx:FrOk w m x.x) (fy:RN w y.x.s y.x.A y.x.c y.x.l y.x.s' y.x.A' y.x.c' y.x.l' y.x.q) (hd:FrD w d x.x) (he:FrD w e y.x)
  (hn:¬(x.at_=y.at_∧0≤x.at_∧x.at_<kn∧x.x.s=y.x.s∧x.x.s'=y.x.s'∧d.xs=e.xs∧d.xs'=e.xs')):r=false:=by
 rw[←hr]
 cases h:rightB L kn
 ·rfl
 ·have h1:=rightB_nrm h
  have h2:prs Y=prs L:=hY.trans (nrm_eq h1.1 fun a=>rfl)
  have h3:(prs Y)[i]?=(prs L)[i]?:=by rw[h2]
  rw[prs_get hx,prs_get hy,Option.some.injEq,Prod.mk.injEq] at h3
  have h4:=h1.2 x (List.mem_of_getElem? hx)
  exact absurd ⟨h3.1.symm,h4.1,h4.2.1,rr_same fx h4.2.2 fy h3.2.symm hd he⟩ hn
theorem rr_len {L:List Tm} {kn:Int} {n:Nat} {r:Bool} (hr:rightB L kn=r) (hl:(nrm (prs L)).length=n) (hn:n≠L.length):r=false:=by
 rw[←hr]
 cases h:rightB L kn
 ·rfl
 ·have h1:=rightB_nrm h
  rw[nrm_eq h1.1 fun a=>rfl,prs_len] at hl
  exact absurd hl.symm hn
theorem rr_yes {L Y:List Tm} {kn:Int} {i:Nat} {r:Bool} (hr:rightB L kn=r) (hY:prs Y=nrm (prs L)) (hl:L.length=i) (hl':Y.length=i) (h:RRi L Y kn i):r=true:=by
 have h1:prs L=prs Y:=by
  apply List.ext_getElem?
  intro j
  rcases Nat.lt_or_ge j i with hj | hj
  ·have e1:L[j]?=some (L[j]'(by omega)):=List.getElem?_eq_getElem _
   have e2:Y[j]?=some (Y[j]'(by omega)):=List.getElem?_eq_getElem _
   have h2:=h j _ _ hj e1 e2
   rw[prs_get e1,prs_get e2,h2.1,h2.2.2.2.2]
  ·rw[List.getElem?_eq_none (by rw[prs_len];omega),List.getElem?_eq_none (by rw[prs_len];omega)]
 rw[←hr]
 refine rightB_of (by rw[h1,hY];exact nrm_nrm _) fun t ht=>?_
 obtain⟨j,hj⟩:=List.getElem?_of_mem ht
 have hji:=(List.getElem?_eq_some_iff.1 hj).1
 have e2:Y[j]?=some (Y[j]'(by omega)):=List.getElem?_eq_getElem _
 have h2:=h j _ _ (by omega) hj e2
 exact⟨h2.2.1,h2.2.2.1,h2.2.2.2.1⟩
def RR1 (w W:World) (L Y:List Tm) (kn:Int) (n gk:Nat) (s:Value) (wr:World):Prop:=∃i:Nat,i≤n∧n-i=gk∧s=.int .i64 (i:Int)∧RRi L Y kn i∧Below w.heap.size w wr∧Below W.heap.size W wr
theorem rightR_q {w:World} {X:Option Addr} {n cx M:Nat} {L:List Tm} {kn:Int} (h:GV w X n cx (prs L) M) (hs:Sl Tm.cs 5 w X n cx L) (hok:Hid (∀t∈L,FrOk w 800000 t.x)) (hM:M≤870) (hn:n≤1000) (r:Bool) (hr:Hid (rightB L kn=r)) (hT:Hid (Tab w)) :
  Calls Tryz.prog 42 #[.slice X n cx,.int .i64 kn] w fun e w'=>e=.returned (.bool r)∧Below w.heap.size w w':=by
 have HGX:=zh h
 have HSX:=zh hs
 have HLN:=zh hs.1
 clear h hs
 have hB:=Below.refl w.heap.size w
 have Bz:=Below.refl w.heap.size w
 go_enter Tryz.func42,Tryz.ntmps42
 go_wp2_with fail
 with_reducible refine(normR_q (HGX.out.below (zAa hB (zAa (b:=w) Bz (by go_grown)))) hM (by omega) (zh (Tab.below hT.out (zAa hB (zAa (b:=w) Bz (by go_grown)))))).mono ?_
 rintro e w1 ⟨A1,n1,c1,rfl,h1,b1⟩
 replace b1:=zAa (a:=w) (by go_grown) b1
 replace Bz:=zAa Bz b1
 clear b1
 have HV:=zh h1
 clear h1
 by_cases hnn:n1=n
 ·have hnn2:=hnn.symm
  subst hnn2
  have g0:((n:Int) !=(n:Int))=false:=by simp
  obtain⟨Y,y1,y2,y3,y4⟩:=HV.out
  have HSY:=zh y1
  have HLY:=zh y1.1
  have HOY:=zh y2
  have HYP:=zh y3
  clear y1 y2 y3 y4 hnn
  go_wp2_with fail
  have HB1:=zh (zAa hB Bz)
  clear hB Bz HV
  go_loopg [6] n (fun gk s wr=>RR1 w w1 L Y kn n gk s wr)
  case atStart=>exact⟨0,Nat.zero_le _,rfl,by go_num,(fun j x y hj=>by omega),zAa HB1.out (by go_grown),by go_grown⟩
  case round =>
   clear HB1
   obtain⟨i,hi,hgk,rfl,hrr,hB,hBW⟩:=hrel
   have HGK:=zh hgk
   have HRR:=zh hrr
   clear hgk hrr
   by_cases hlt:i<n
   ·obtain⟨b,off,rfl,hel⟩:=HSX.out.at Tm.cs_len (by omega) (by omega)
    obtain⟨b',off',rfl,hel'⟩:=HSY.out.at Tm.cs_len (by omega) (by omega)
    obtain⟨x,ex⟩:∃x,L[i]?=some x:=⟨L[i]'(by rw[HLN.out];exact hlt),List.getElem?_eq_getElem _⟩
    obtain⟨y,ey⟩:∃y,Y[i]?=some y:=⟨Y[i]'(by rw[HLY.out];exact hlt),List.getElem?_eq_getElem _⟩
    have hnd:=hel i x ex
    have hnd':=hel' i y ey
    have HEX:=zh ex
    have HEY:=zh ey
    have hfx0:=hok.out x (List.mem_of_getElem? ex)
    have hfy0:=(HOY.out y (List.mem_of_getElem? ey)).1
    have hfy1:=(HOY.out.fr (fun _=>Nat.le_refl _)) y (List.mem_of_getElem? ey)
    have i1:(i:Int)<(n:Int):=by omega
    have i2:(0:Int)≤(i:Int):=by omega
    clear hel hel' ex ey
    go_upto_region 7 with(fail)
    go_cut [7,8] (fun p q wx=>∃b7 b8:Nat,p=.pointer (some ⟨b7,0,none⟩)∧q=.pointer (some ⟨b8,0,none⟩)∧Bx wx b7 #[.bool x.x.s,.slice x.x.A x.x.l x.x.c,.bool x.x.s',.slice x.x.A' x.x.l' x.x.c'] 50∧Bx wx b8 #[.bool y.x.s,.slice y.x.A y.x.l y.x.c,.bool y.x.s',.slice y.x.A' y.x.l' y.x.c'] 50∧Below w.heap.size w wx∧Below w1.heap.size w1 wx∧b7≠b8)
    case first =>
     have Bz:=Below.refl wr.heap.size wr
     obtain⟨-,p50_1,p50_2,p50_3,p50_4,-⟩:=(hnd.below (zAa hB Bz)).ez
     obtain⟨-,p51_1,p51_2,p51_3,p51_4,-⟩:=(hnd'.below (zAa hBW Bz)).ez
     go_wp2_with fail
     (try simp only[List.append_eq,List.cons_append,List.nil_append])
     refine zAb (.pure 0 (.pure 1 (.pure 2 (.pure 3 (.take 4 (.pure 5 (.pure 6 (.pure 7 (.pure 8 (.take 9 (.two 10 (.only 11 (.only 12 (.only 13 .done))) 11 (.only 10 (.only 12 (.only 13 .done)))))))))))))) [13] (fun w'=>w'.cell? ⟨b,off+i*5+1,none⟩=some (.bool x.x.s)∧w'.cell? ⟨b,off+i*5+2,none⟩=some (.slice x.x.A x.x.l x.x.c)∧w'.cell? ⟨b,off+i*5+3,none⟩=some (.bool x.x.s')∧w'.cell? ⟨b,off+i*5+4,none⟩=some (.slice x.x.A' x.x.l' x.x.c')∧w'.cell? ⟨b',off'+i*5+1,none⟩=some (.bool y.x.s)∧w'.cell? ⟨b',off'+i*5+2,none⟩=some (.slice y.x.A y.x.l y.x.c)∧w'.cell? ⟨b',off'+i*5+3,none⟩=some (.bool y.x.s')∧w'.cell? ⟨b',off'+i*5+4,none⟩=some (.slice y.x.A' y.x.l' y.x.c')) (by kernel_rfl) (by kernel_rfl) ⟨p50_1,p50_2,p50_3,p50_4,p51_1,p51_2,p51_3,p51_4⟩ ?_
     iterate 4 (refine zP rfl rfl (fun w'=>by go_simp<;>with_reducible rfl) ?_;try simp only[uW,uX,uY,uZ])
     refine zT rfl rfl (fun w' ⟨p50_1,p50_2,p50_3,p50_4,p51_1,p51_2,p51_3,p51_4⟩=>by go_simp<;>with_reducible rfl) ?_
     try simp only[uW,uX,uY,uZ]
     iterate 4 (refine zP rfl rfl (fun w'=>by go_simp<;>with_reducible rfl) ?_;try simp only[uW,uX,uY,uZ])
     refine zT rfl rfl (fun w' ⟨p50_1,p50_2,p50_3,p50_4,p51_1,p51_2,p51_3,p51_4⟩=>by go_simp<;>with_reducible rfl) ?_
     try simp only[uW,uX,uY,uZ]
     refine wpPlan_two (o:=⟨some 7,_,_,_,_,_⟩) (o':=⟨some 8,_,_,_,_,_⟩) rfl rfl rfl rfl (fun K hK=>?_) (fun K hK=>?_)
     ·go_simp
      refine hK.out _ _ ⟨(zAd p50_1),(zAd p50_2),(zAd p50_3),(zAd p50_4),(zAd p51_1),(zAd p51_2),(zAd p51_3),(zAd p51_4)⟩ (fun _=>?_)
      try simp only[uW,uX,uY,uZ]
      clear hK K
      refine zC 8 rfl rfl (fun K hK=>?_)
      go_simp
      refine hK.out _ _ ⟨(zAd (zAd p50_1)),(zAd (zAd p50_2)),(zAd (zAd p50_3)),(zAd (zAd p50_4)),(zAd (zAd p51_1)),(zAd (zAd p51_2)),(zAd (zAd p51_3)),(zAd (zAd p51_4))⟩ (fun _=>?_)
      try simp only[uW,uX,uY,uZ]
      clear hK K
      refine wpPlan_call (o:=⟨none,_,_,_,_,_⟩) rfl rfl (fun K hK=>?_)
      go_simp
      refine hK.out _ _ ⟨(zAd (zAd p50_1)),(zAd (zAd p50_2)),(zAd (zAd p50_3)),(zAd (zAd p50_4)),(zAd (zAd p51_1)),(zAd (zAd p51_2)),(zAd (zAd p51_3)),(zAd (zAd p51_4))⟩ (fun _=>?_)
      try simp only[Act.put,uX,uY,uZ]
      clear hK K
      refine zAf (o:=⟨none,_,_,_,_,_⟩) rfl rfl (by decide) (fun K hK=>?_)
      go_simp
      refine hK.out _ _ ?_
      try simp only[Act.put,uX,uY,uZ]
      clear hK K
      refine zAc ?_
      obtain⟨V11,hW,x0,x1,hN⟩:=boxes2 wr #[.bool x.x.s,.slice x.x.A x.x.l x.x.c,.bool x.x.s',.slice x.x.A' x.x.l' x.x.c'] 50 #[.bool y.x.s,.slice y.x.A y.x.l y.x.c,.bool y.x.s',.slice y.x.A' y.x.l' y.x.c'] 50
      rw[←hW]
      clear hW
      obtain⟨v1,hb1⟩:∃b,b=wr.heap.size+1:=⟨_,rfl⟩
      rw[←hb1] at x1 ⊢
      obtain⟨v0,hb0⟩:∃b,b=wr.heap.size:=⟨_,rfl⟩
      rw[←hb0] at x0 ⊢
      have ow_0:w.heap.size≤v0:=by have:=zw hB Bz;omega
      have o0_1:v0<v1:=by omega
      have ow_1:w.heap.size≤v1:=by have:=zw hB Bz;omega
      replace hB:=zAa (zAa hB Bz) hN
      replace hBW:=zAa (zAa hBW Bz) hN
      have HX0:=zh x0
      have HX1:=zh x1
      clear x0 x1 hN Bz hb0 hb1
      have Bz:=Below.refl V11.heap.size V11
      clear p50_1 p50_2 p50_3 p50_4 p51_1 p51_2 p51_3 p51_4
      go_wp2_with fail
      go_meet
      case rel=>exact⟨_,_,rfl,rfl,HX0.out.below (zAa Bz (by go_grown)),HX1.out.below (zAa Bz (by go_grown)),zAa (zAa hB Bz) (by go_grown),zAa (zAa hBW Bz) (by go_grown),by omega⟩
     ·go_simp
      refine hK.out _ _ ⟨(zAd p50_1),(zAd p50_2),(zAd p50_3),(zAd p50_4),(zAd p51_1),(zAd p51_2),(zAd p51_3),(zAd p51_4)⟩ (fun _=>?_)
      try simp only[uW,uX,uY,uZ]
      clear hK K
      refine zC 7 rfl rfl (fun K hK=>?_)
      go_simp
      refine hK.out _ _ ⟨(zAd (zAd p50_1)),(zAd (zAd p50_2)),(zAd (zAd p50_3)),(zAd (zAd p50_4)),(zAd (zAd p51_1)),(zAd (zAd p51_2)),(zAd (zAd p51_3)),(zAd (zAd p51_4))⟩ (fun _=>?_)
      try simp only[uW,uX,uY,uZ]
      clear hK K
      refine wpPlan_call (o:=⟨none,_,_,_,_,_⟩) rfl rfl (fun K hK=>?_)
      go_simp
      refine hK.out _ _ ⟨(zAd (zAd p50_1)),(zAd (zAd p50_2)),(zAd (zAd p50_3)),(zAd (zAd p50_4)),(zAd (zAd p51_1)),(zAd (zAd p51_2)),(zAd (zAd p51_3)),(zAd (zAd p51_4))⟩ (fun _=>?_)
      try simp only[Act.put,uX,uY,uZ]
      clear hK K
      refine zAf (o:=⟨none,_,_,_,_,_⟩) rfl rfl (by decide) (fun K hK=>?_)
      go_simp
      refine hK.out _ _ ?_
      try simp only[Act.put,uX,uY,uZ]
      clear hK K
      refine zAc ?_
      obtain⟨V11,hW,x0,x1,hN⟩:=boxes2 wr #[.bool y.x.s,.slice y.x.A y.x.l y.x.c,.bool y.x.s',.slice y.x.A' y.x.l' y.x.c'] 50 #[.bool x.x.s,.slice x.x.A x.x.l x.x.c,.bool x.x.s',.slice x.x.A' x.x.l' x.x.c'] 50
      rw[←hW]
      clear hW
      obtain⟨v1,hb1⟩:∃b,b=wr.heap.size+1:=⟨_,rfl⟩
      rw[←hb1] at x1 ⊢
      obtain⟨v0,hb0⟩:∃b,b=wr.heap.size:=⟨_,rfl⟩
      rw[←hb0] at x0 ⊢
      have ow_0:w.heap.size≤v0:=by have:=zw hB Bz;omega
      have o0_1:v0<v1:=by omega
      have ow_1:w.heap.size≤v1:=by have:=zw hB Bz;omega
      replace hB:=zAa (zAa hB Bz) hN
      replace hBW:=zAa (zAa hBW Bz) hN
      have HX0:=zh x0
      have HX1:=zh x1
      clear x0 x1 hN Bz hb0 hb1
      have Bz:=Below.refl V11.heap.size V11
      clear p50_1 p50_2 p50_3 p50_4 p51_1 p51_2 p51_3 p51_4
      go_wp2_with fail
      go_meet
      case rel=>exact⟨_,_,rfl,rfl,HX1.out.below (zAa Bz (by go_grown)),HX0.out.below (zAa Bz (by go_grown)),zAa (zAa hB Bz) (by go_grown),zAa (zAa hBW Bz) (by go_grown),by omega⟩
    case rest =>
     obtain⟨b7,b8,rfl,rfl,hx7,hx8,hB2,hBW2,h78⟩:=hcut
     obtain⟨wx,rfl,hB3⟩:∃wx,wx=_∧Below w.heap.size w wx:=⟨_,rfl,hB2⟩
     replace hB:=hB3
     replace hBW:=hBW2
     clear hB2 hB3 hBW2
     have HX0:=zh hx7
     have HX1:=zh hx8
     have hfx:=hfx0.below hB
     have hfy:=hfy0.below hBW
     obtain⟨d,hd⟩:=hfx.dg
     obtain⟨e,he⟩:=(hfy1.below hBW).dg
     have HDX:=zh hd
     have HDY:=zh he
     have HFX:=zh hfx
     have HFY:=zh hfy
     have q1:=hfx.r.len
     have q2:=(hfy1.below hBW).r.len
     clear hx7 hx8 hd he hfx hfy hfx0 hfy0 hfy1
     by_cases hc:x.at_=y.at_
     rotate_left
     ·have HC:Hid (¬x.at_=y.at_):=zh hc
      have g1:(x.at_ != y.at_)=true:=by simpa using hc
      clear hc
      have Bz:=Below.refl wx.heap.size wx
      have p50_0:=(hnd.below (zAa hB Bz)).c0 (u:=.int .i64 x.at_) rfl
      have p51_0:=(hnd'.below (zAa hBW Bz)).c0 (u:=.int .i64 y.at_) rfl
      go_wp2_with fail
      (try simp only[List.append_eq,List.cons_append,List.nil_append])
      refine zAb (.take 0 (.take 1 (.take 2 (.take 3 (.take 4 (.take 5 (.take 6 (.take 7 (.take 8 (.take 9 (.take 10 (.take 11 (.take 12 (.take 13 (.take 14 (.take 15 (.take 16 (.take 17 (.take 18 (.take 19 (.take 20 (.take 21 (.take 22 (.take 23 (.take 24 (.take 25 (.take 26 (.take 27 (.take 28 (.take 29 (.take 30 (.take 31 (.take 32 (.take 33 (.take 34 (.take 35 (.take 36 (.take 37 (.take 38 (.take 39 (.take 40 (.take 41 (.take 42 (.take 43 (.take 44 (.take 45 (.take 46 (.take 47 (.take 48 (.take 49 (.take 50 (.take 51 (.take 52 (.only 53 (.take 54 (.take 55 (.take 56 (.take 57 (.take 58 (.take 59 (.take 60 (.take 61 (.take 62 (.only 63 (.take 64 (.take 65 .done)))))))))))))))))))))))))))))))))))))))))))))))))))))))))))))))))) [] (fun w'=>w'.cell? ⟨b,off+i*5,none⟩=some (.int .i64 x.at_)∧w'.cell? ⟨b',off'+i*5,none⟩=some (.int .i64 y.at_)) (by kernel_rfl) (by kernel_rfl) ⟨p50_0,p51_0⟩ ?_
      iterate 12 (refine zT rfl rfl (fun w' ⟨p50_0,p51_0⟩=>by go_simp<;>with_reducible rfl) ?_;try simp only[uW,uX,uY,uZ])
      iterate 6 (refine zN rfl rfl ?_;try simp only[uW,uX,uY,uZ])
      iterate 2 (refine zT rfl rfl (fun w' ⟨p50_0,p51_0⟩=>by go_simp<;>with_reducible rfl) ?_;try simp only[uW,uX,uY,uZ])
      iterate 7 (refine zN rfl rfl ?_;try simp only[uW,uX,uY,uZ])
      iterate 2 (refine zT rfl rfl (fun w' ⟨p50_0,p51_0⟩=>by go_simp<;>with_reducible rfl) ?_;try simp only[uW,uX,uY,uZ])
      iterate 7 (refine zN rfl rfl ?_;try simp only[uW,uX,uY,uZ])
      iterate 2 (refine zT rfl rfl (fun w' ⟨p50_0,p51_0⟩=>by go_simp<;>with_reducible rfl) ?_;try simp only[uW,uX,uY,uZ])
      iterate 7 (refine zN rfl rfl ?_;try simp only[uW,uX,uY,uZ])
      iterate 2 (refine zT rfl rfl (fun w' ⟨p50_0,p51_0⟩=>by go_simp<;>with_reducible rfl) ?_;try simp only[uW,uX,uY,uZ])
      iterate 6 (refine zN rfl rfl ?_;try simp only[uW,uX,uY,uZ])
      refine wpPlan_pass (o:=⟨some 85,_,_,_,_,_⟩) rfl rfl ⟨p50_0,p51_0⟩ ?_
      try simp only[uW,uX,uY,uZ]
      refine zN rfl rfl ?_
      try simp only[uW,uX,uY,uZ]
      iterate 2 (refine zT rfl rfl (fun w' ⟨p50_0,p51_0⟩=>by go_simp<;>with_reducible rfl) ?_;try simp only[uW,uX,uY,uZ])
      iterate 6 (refine zN rfl rfl ?_;try simp only[uW,uX,uY,uZ])
      refine wpPlan_pass (o:=⟨some 95,_,_,_,_,_⟩) rfl rfl ⟨p50_0,p51_0⟩ ?_
      try simp only[uW,uX,uY,uZ]
      refine zN rfl rfl ?_
      try simp only[uW,uX,uY,uZ]
      refine zT rfl rfl (fun w' ⟨p50_0,p51_0⟩=>by go_simp<;>with_reducible rfl) ?_
      try simp only[uW,uX,uY,uZ]
      refine zAc ?_
      go_wp2_with fail
      go_ret
      have hF:=zAa (c:=wx) hB Bz
      obtain rfl:r=false:=rr_no hr.out HYP.out HEX.out HEY.out HFX.out HFY.out HDX.out HDY.out (fun h=>HC.out h.1)
      exact⟨rfl,zAa hF (by go_grown)⟩
     have HK0:=zh hc
     have g1:(x.at_ != y.at_)=false:=by simpa using hc
     clear hc
     by_cases hc:0≤x.at_
     rotate_left
     ·have HC:Hid (¬0≤x.at_):=zh hc
      have g2:decide (x.at_<0)=true:=decide_eq_true (by omega)
      clear hc
      have Bz:=Below.refl wx.heap.size wx
      have p50_0:=(hnd.below (zAa hB Bz)).c0 (u:=.int .i64 x.at_) rfl
      have p51_0:=(hnd'.below (zAa hBW Bz)).c0 (u:=.int .i64 y.at_) rfl
      go_wp2_with fail
      (try simp only[List.append_eq,List.cons_append,List.nil_append])
      refine zAb (.take 0 (.take 1 (.take 2 (.take 3 (.take 4 (.take 5 (.take 6 (.take 7 (.take 8 (.take 9 (.take 10 (.take 11 (.take 12 (.take 13 (.take 14 (.take 15 (.take 16 (.take 17 (.take 18 (.take 19 (.take 20 (.take 21 (.take 22 (.take 23 (.take 24 (.take 25 (.take 26 (.take 27 (.take 28 (.take 29 (.take 30 (.take 31 (.take 32 (.take 33 (.take 34 (.take 35 (.take 36 (.take 37 (.take 38 (.take 39 (.take 40 (.take 41 (.take 42 (.take 43 (.take 44 (.take 45 (.take 46 (.take 47 (.take 48 (.take 49 (.take 50 (.take 51 (.take 52 (.only 53 (.take 54 (.take 55 (.take 56 (.take 57 (.take 58 (.take 59 (.take 60 (.take 61 (.take 62 (.only 63 (.take 64 (.take 65 .done)))))))))))))))))))))))))))))))))))))))))))))))))))))))))))))))))) [] (fun w'=>w'.cell? ⟨b,off+i*5,none⟩=some (.int .i64 x.at_)∧w'.cell? ⟨b',off'+i*5,none⟩=some (.int .i64 y.at_)) (by kernel_rfl) (by kernel_rfl) ⟨p50_0,p51_0⟩ ?_
      iterate 20 (refine zT rfl rfl (fun w' ⟨p50_0,p51_0⟩=>by go_simp<;>with_reducible rfl) ?_;try simp only[uW,uX,uY,uZ])
      iterate 7 (refine zN rfl rfl ?_;try simp only[uW,uX,uY,uZ])
      iterate 2 (refine zT rfl rfl (fun w' ⟨p50_0,p51_0⟩=>by go_simp<;>with_reducible rfl) ?_;try simp only[uW,uX,uY,uZ])
      iterate 7 (refine zN rfl rfl ?_;try simp only[uW,uX,uY,uZ])
      iterate 2 (refine zT rfl rfl (fun w' ⟨p50_0,p51_0⟩=>by go_simp<;>with_reducible rfl) ?_;try simp only[uW,uX,uY,uZ])
      iterate 7 (refine zN rfl rfl ?_;try simp only[uW,uX,uY,uZ])
      iterate 2 (refine zT rfl rfl (fun w' ⟨p50_0,p51_0⟩=>by go_simp<;>with_reducible rfl) ?_;try simp only[uW,uX,uY,uZ])
      iterate 6 (refine zN rfl rfl ?_;try simp only[uW,uX,uY,uZ])
      refine wpPlan_pass (o:=⟨some 85,_,_,_,_,_⟩) rfl rfl ⟨p50_0,p51_0⟩ ?_
      try simp only[uW,uX,uY,uZ]
      refine zN rfl rfl ?_
      try simp only[uW,uX,uY,uZ]
      iterate 2 (refine zT rfl rfl (fun w' ⟨p50_0,p51_0⟩=>by go_simp<;>with_reducible rfl) ?_;try simp only[uW,uX,uY,uZ])
      iterate 6 (refine zN rfl rfl ?_;try simp only[uW,uX,uY,uZ])
      refine wpPlan_pass (o:=⟨some 95,_,_,_,_,_⟩) rfl rfl ⟨p50_0,p51_0⟩ ?_
      try simp only[uW,uX,uY,uZ]
      refine zN rfl rfl ?_
      try simp only[uW,uX,uY,uZ]
      refine zT rfl rfl (fun w' ⟨p50_0,p51_0⟩=>by go_simp<;>with_reducible rfl) ?_
      try simp only[uW,uX,uY,uZ]
      refine zAc ?_
      go_wp2_with fail
      go_ret
      have hF:=zAa (c:=wx) hB Bz
      obtain rfl:r=false:=rr_no hr.out HYP.out HEX.out HEY.out HFX.out HFY.out HDX.out HDY.out (fun h=>absurd h.2.1 (by have:=HC.out;omega))
      exact⟨rfl,zAa hF (by go_grown)⟩
     have HK1:=zh hc
     have g2:decide (x.at_<0)=false:=decide_eq_false (by omega)
     clear hc
     by_cases hc:x.at_<kn
     rotate_left
     ·have HC:Hid (¬x.at_<kn):=zh hc
      have g3:decide (kn≤x.at_)=true:=decide_eq_true (by omega)
      clear hc
      have Bz:=Below.refl wx.heap.size wx
      have p50_0:=(hnd.below (zAa hB Bz)).c0 (u:=.int .i64 x.at_) rfl
      have p51_0:=(hnd'.below (zAa hBW Bz)).c0 (u:=.int .i64 y.at_) rfl
      go_wp2_with fail
      (try simp only[List.append_eq,List.cons_append,List.nil_append])
      refine zAb (.take 0 (.take 1 (.take 2 (.take 3 (.take 4 (.take 5 (.take 6 (.take 7 (.take 8 (.take 9 (.take 10 (.take 11 (.take 12 (.take 13 (.take 14 (.take 15 (.take 16 (.take 17 (.take 18 (.take 19 (.take 20 (.take 21 (.take 22 (.take 23 (.take 24 (.take 25 (.take 26 (.take 27 (.take 28 (.take 29 (.take 30 (.take 31 (.take 32 (.take 33 (.take 34 (.take 35 (.take 36 (.take 37 (.take 38 (.take 39 (.take 40 (.take 41 (.take 42 (.take 43 (.take 44 (.take 45 (.take 46 (.take 47 (.take 48 (.take 49 (.take 50 (.take 51 (.take 52 (.only 53 (.take 54 (.take 55 (.take 56 (.take 57 (.take 58 (.take 59 (.take 60 (.take 61 (.take 62 (.only 63 (.take 64 (.take 65 .done)))))))))))))))))))))))))))))))))))))))))))))))))))))))))))))))))) [] (fun w'=>w'.cell? ⟨b,off+i*5,none⟩=some (.int .i64 x.at_)∧w'.cell? ⟨b',off'+i*5,none⟩=some (.int .i64 y.at_)) (by kernel_rfl) (by kernel_rfl) ⟨p50_0,p51_0⟩ ?_
      iterate 29 (refine zT rfl rfl (fun w' ⟨p50_0,p51_0⟩=>by go_simp<;>with_reducible rfl) ?_;try simp only[uW,uX,uY,uZ])
      iterate 7 (refine zN rfl rfl ?_;try simp only[uW,uX,uY,uZ])
      iterate 2 (refine zT rfl rfl (fun w' ⟨p50_0,p51_0⟩=>by go_simp<;>with_reducible rfl) ?_;try simp only[uW,uX,uY,uZ])
      iterate 7 (refine zN rfl rfl ?_;try simp only[uW,uX,uY,uZ])
      iterate 2 (refine zT rfl rfl (fun w' ⟨p50_0,p51_0⟩=>by go_simp<;>with_reducible rfl) ?_;try simp only[uW,uX,uY,uZ])
      iterate 6 (refine zN rfl rfl ?_;try simp only[uW,uX,uY,uZ])
      refine wpPlan_pass (o:=⟨some 85,_,_,_,_,_⟩) rfl rfl ⟨p50_0,p51_0⟩ ?_
      try simp only[uW,uX,uY,uZ]
      refine zN rfl rfl ?_
      try simp only[uW,uX,uY,uZ]
      iterate 2 (refine zT rfl rfl (fun w' ⟨p50_0,p51_0⟩=>by go_simp<;>with_reducible rfl) ?_;try simp only[uW,uX,uY,uZ])
      iterate 6 (refine zN rfl rfl ?_;try simp only[uW,uX,uY,uZ])
      refine wpPlan_pass (o:=⟨some 95,_,_,_,_,_⟩) rfl rfl ⟨p50_0,p51_0⟩ ?_
      try simp only[uW,uX,uY,uZ]
      refine zN rfl rfl ?_
      try simp only[uW,uX,uY,uZ]
      refine zT rfl rfl (fun w' ⟨p50_0,p51_0⟩=>by go_simp<;>with_reducible rfl) ?_
      try simp only[uW,uX,uY,uZ]
      refine zAc ?_
      go_wp2_with fail
      go_ret
      have hF:=zAa (c:=wx) hB Bz
      obtain rfl:r=false:=rr_no hr.out HYP.out HEX.out HEY.out HFX.out HFY.out HDX.out HDY.out (fun h=>absurd h.2.2.1 (by have:=HC.out;omega))
      exact⟨rfl,zAa hF (by go_grown)⟩
     have HK2:=zh hc
     have g3:decide (kn≤x.at_)=false:=decide_eq_false (by omega)
     clear hc
     by_cases hc:x.x.s=y.x.s
     rotate_left
     ·have HC:Hid (¬x.x.s=y.x.s):=zh hc
      have g4:(x.x.s==y.x.s)=false:=by simpa using hc
      clear hc
      have Bz:=Below.refl wx.heap.size wx
      have p0_0:=(zxb HX0 Bz).cell 0 (.bool x.x.s) rfl
      have p1_0:=(zxb HX1 Bz).cell 0 (.bool y.x.s) rfl
      have p50_0:=(hnd.below (zAa hB Bz)).c0 (u:=.int .i64 x.at_) rfl
      have p51_0:=(hnd'.below (zAa hBW Bz)).c0 (u:=.int .i64 y.at_) rfl
      go_wp2_with fail
      (try simp only[List.append_eq,List.cons_append,List.nil_append])
      refine zAb (.take 0 (.take 1 (.take 2 (.take 3 (.take 4 (.take 5 (.take 6 (.take 7 (.take 8 (.take 9 (.take 10 (.take 11 (.take 12 (.take 13 (.take 14 (.take 15 (.take 16 (.take 17 (.take 18 (.take 19 (.take 20 (.take 21 (.take 22 (.take 23 (.take 24 (.take 25 (.take 26 (.take 27 (.take 28 (.take 29 (.take 30 (.take 31 (.take 32 (.take 33 (.take 34 (.take 35 (.take 36 (.take 37 (.take 38 (.take 39 (.take 40 (.take 41 (.take 42 (.take 43 (.take 44 (.take 45 (.take 46 (.take 47 (.take 48 (.take 49 (.take 50 (.take 51 (.take 52 (.only 53 (.take 54 (.take 55 (.take 56 (.take 57 (.take 58 (.take 59 (.take 60 (.take 61 (.take 62 (.only 63 (.take 64 (.take 65 .done)))))))))))))))))))))))))))))))))))))))))))))))))))))))))))))))))) [] (fun w'=>w'.cell? ⟨b7,0,none⟩=some (.bool x.x.s)∧w'.cell? ⟨b8,0,none⟩=some (.bool y.x.s)∧w'.cell? ⟨b,off+i*5,none⟩=some (.int .i64 x.at_)∧w'.cell? ⟨b',off'+i*5,none⟩=some (.int .i64 y.at_)) (by kernel_rfl) (by kernel_rfl) ⟨p0_0,p1_0,p50_0,p51_0⟩ ?_
      iterate 38 (refine zT rfl rfl (fun w' ⟨p0_0,p1_0,p50_0,p51_0⟩=>by go_simp<;>with_reducible rfl) ?_;try simp only[uW,uX,uY,uZ])
      iterate 7 (refine zN rfl rfl ?_;try simp only[uW,uX,uY,uZ])
      iterate 2 (refine zT rfl rfl (fun w' ⟨p0_0,p1_0,p50_0,p51_0⟩=>by go_simp<;>with_reducible rfl) ?_;try simp only[uW,uX,uY,uZ])
      iterate 6 (refine zN rfl rfl ?_;try simp only[uW,uX,uY,uZ])
      refine wpPlan_pass (o:=⟨some 85,_,_,_,_,_⟩) rfl rfl ⟨p0_0,p1_0,p50_0,p51_0⟩ ?_
      try simp only[uW,uX,uY,uZ]
      refine zN rfl rfl ?_
      try simp only[uW,uX,uY,uZ]
      iterate 2 (refine zT rfl rfl (fun w' ⟨p0_0,p1_0,p50_0,p51_0⟩=>by go_simp<;>with_reducible rfl) ?_;try simp only[uW,uX,uY,uZ])
      iterate 6 (refine zN rfl rfl ?_;try simp only[uW,uX,uY,uZ])
      refine wpPlan_pass (o:=⟨some 95,_,_,_,_,_⟩) rfl rfl ⟨p0_0,p1_0,p50_0,p51_0⟩ ?_
      try simp only[uW,uX,uY,uZ]
      refine zN rfl rfl ?_
      try simp only[uW,uX,uY,uZ]
      refine zT rfl rfl (fun w' ⟨p0_0,p1_0,p50_0,p51_0⟩=>by go_simp<;>with_reducible rfl) ?_
      try simp only[uW,uX,uY,uZ]
      refine zAc ?_
      go_wp2_with fail
      go_ret
      have hF:=zAa (c:=wx) hB Bz
      obtain rfl:r=false:=rr_no hr.out HYP.out HEX.out HEY.out HFX.out HFY.out HDX.out HDY.out (fun h=>HC.out h.2.2.2.1)
      exact⟨rfl,zAa hF (by go_grown)⟩
     have HK3:=zh hc
     rw[←hc] at HX1
     clear hc
     by_cases hc:x.x.s'=y.x.s'
     rotate_left
     ·have HC:Hid (¬x.x.s'=y.x.s'):=zh hc
      have g5:(x.x.s'==y.x.s')=false:=by simpa using hc
      clear hc
      have Bz:=Below.refl wx.heap.size wx
      obtain⟨p0_0,-,p0_2,-⟩:=(zxb HX0 Bz).cz
      obtain⟨p1_0,-,p1_2,-⟩:=(zxb HX1 Bz).cz
      have p50_0:=(hnd.below (zAa hB Bz)).c0 (u:=.int .i64 x.at_) rfl
      have p51_0:=(hnd'.below (zAa hBW Bz)).c0 (u:=.int .i64 y.at_) rfl
      go_wp2_with fail
      (try simp only[List.append_eq,List.cons_append,List.nil_append])
      refine zAb (.take 0 (.take 1 (.take 2 (.take 3 (.take 4 (.take 5 (.take 6 (.take 7 (.take 8 (.take 9 (.take 10 (.take 11 (.take 12 (.take 13 (.take 14 (.take 15 (.take 16 (.take 17 (.take 18 (.take 19 (.take 20 (.take 21 (.take 22 (.take 23 (.take 24 (.take 25 (.take 26 (.take 27 (.take 28 (.take 29 (.take 30 (.take 31 (.take 32 (.take 33 (.take 34 (.take 35 (.take 36 (.take 37 (.take 38 (.take 39 (.take 40 (.take 41 (.take 42 (.take 43 (.take 44 (.take 45 (.take 46 (.take 47 (.take 48 (.take 49 (.take 50 (.take 51 (.take 52 (.only 53 (.take 54 (.take 55 (.take 56 (.take 57 (.take 58 (.take 59 (.take 60 (.take 61 (.take 62 (.only 63 (.take 64 (.take 65 .done)))))))))))))))))))))))))))))))))))))))))))))))))))))))))))))))))) [] (fun w'=>w'.cell? ⟨b7,0,none⟩=some (.bool x.x.s)∧w'.cell? ⟨b7,2,none⟩=some (.bool x.x.s')∧w'.cell? ⟨b8,0,none⟩=some (.bool x.x.s)∧w'.cell? ⟨b8,2,none⟩=some (.bool y.x.s')∧w'.cell? ⟨b,off+i*5,none⟩=some (.int .i64 x.at_)∧w'.cell? ⟨b',off'+i*5,none⟩=some (.int .i64 y.at_)) (by kernel_rfl) (by kernel_rfl) ⟨p0_0,p0_2,p1_0,p1_2,p50_0,p51_0⟩ ?_
      iterate 47 (refine zT rfl rfl (fun w' ⟨p0_0,p0_2,p1_0,p1_2,p50_0,p51_0⟩=>by go_simp<;>with_reducible rfl) ?_;try simp only[uW,uX,uY,uZ])
      iterate 6 (refine zN rfl rfl ?_;try simp only[uW,uX,uY,uZ])
      refine wpPlan_pass (o:=⟨some 85,_,_,_,_,_⟩) rfl rfl ⟨p0_0,p0_2,p1_0,p1_2,p50_0,p51_0⟩ ?_
      try simp only[uW,uX,uY,uZ]
      refine zN rfl rfl ?_
      try simp only[uW,uX,uY,uZ]
      iterate 2 (refine zT rfl rfl (fun w' ⟨p0_0,p0_2,p1_0,p1_2,p50_0,p51_0⟩=>by go_simp<;>with_reducible rfl) ?_;try simp only[uW,uX,uY,uZ])
      iterate 6 (refine zN rfl rfl ?_;try simp only[uW,uX,uY,uZ])
      refine wpPlan_pass (o:=⟨some 95,_,_,_,_,_⟩) rfl rfl ⟨p0_0,p0_2,p1_0,p1_2,p50_0,p51_0⟩ ?_
      try simp only[uW,uX,uY,uZ]
      refine zN rfl rfl ?_
      try simp only[uW,uX,uY,uZ]
      refine zT rfl rfl (fun w' ⟨p0_0,p0_2,p1_0,p1_2,p50_0,p51_0⟩=>by go_simp<;>with_reducible rfl) ?_
      try simp only[uW,uX,uY,uZ]
      refine zAc ?_
      go_wp2_with fail
      go_ret
      have hF:=zAa (c:=wx) hB Bz
      obtain rfl:r=false:=rr_no hr.out HYP.out HEX.out HEY.out HFX.out HFY.out HDX.out HDY.out (fun h=>HC.out h.2.2.2.2.1)
      exact⟨rfl,zAa hF (by go_grown)⟩
     have HK4:=zh hc
     rw[←hc] at HX1
     clear hc
     by_cases hc:d.xs=e.xs
     rotate_left
     ·have HC:Hid (¬d.xs=e.xs):=zh hc
      have HW1:Hid (decide (d.xs=e.xs)=false):=zh (decide_eq_false hc)
      clear hc
      have Bz:=Below.refl wx.heap.size wx
      obtain⟨p0_0,p0_1,p0_2,-⟩:=(zxb HX0 Bz).cz
      obtain⟨p1_0,p1_1,p1_2,-⟩:=(zxb HX1 Bz).cz
      have p50_0:=(hnd.below (zAa hB Bz)).c0 (u:=.int .i64 x.at_) rfl
      have p51_0:=(hnd'.below (zAa hBW Bz)).c0 (u:=.int .i64 y.at_) rfl
      go_wp2_with fail
      (try simp only[List.append_eq,List.cons_append,List.nil_append])
      refine zAb (.take 0 (.take 1 (.take 2 (.take 3 (.take 4 (.take 5 (.take 6 (.take 7 (.take 8 (.take 9 (.take 10 (.take 11 (.take 12 (.take 13 (.take 14 (.take 15 (.take 16 (.take 17 (.take 18 (.take 19 (.take 20 (.take 21 (.take 22 (.take 23 (.take 24 (.take 25 (.take 26 (.take 27 (.take 28 (.take 29 (.take 30 (.take 31 (.take 32 (.take 33 (.take 34 (.take 35 (.take 36 (.take 37 (.take 38 (.take 39 (.take 40 (.take 41 (.take 42 (.take 43 (.take 44 (.take 45 (.take 46 (.take 47 (.take 48 (.take 49 (.take 50 (.take 51 (.take 52 (.only 53 (.take 54 (.take 55 (.take 56 (.take 57 (.take 58 (.take 59 (.take 60 (.take 61 (.take 62 (.only 63 (.take 64 (.take 65 .done)))))))))))))))))))))))))))))))))))))))))))))))))))))))))))))))))) [] (fun w'=>w'.cell? ⟨b7,0,none⟩=some (.bool x.x.s)∧w'.cell? ⟨b7,1,none⟩=some (.slice x.x.A x.x.l x.x.c)∧w'.cell? ⟨b7,2,none⟩=some (.bool x.x.s')∧w'.cell? ⟨b8,0,none⟩=some (.bool x.x.s)∧w'.cell? ⟨b8,1,none⟩=some (.slice y.x.A y.x.l y.x.c)∧w'.cell? ⟨b8,2,none⟩=some (.bool x.x.s')∧w'.cell? ⟨b,off+i*5,none⟩=some (.int .i64 x.at_)∧w'.cell? ⟨b',off'+i*5,none⟩=some (.int .i64 y.at_)) (by kernel_rfl) (by kernel_rfl) ⟨p0_0,p0_1,p0_2,p1_0,p1_1,p1_2,p50_0,p51_0⟩ ?_
      iterate 53 (refine zT rfl rfl (fun w' ⟨p0_0,p0_1,p0_2,p1_0,p1_1,p1_2,p50_0,p51_0⟩=>by go_simp<;>with_reducible rfl) ?_;try simp only[uW,uX,uY,uZ])
      refine zC 85 rfl rfl (fun K hK=>?_)
      go_simp
      with_reducible refine(sameWordsR_n (FrD.below HDX.out (zAa Bz (by go_grown))).n1 (FrD.below HDY.out (zAa Bz (by go_grown))).n1 (by omega) (by omega) false HW1).mono ?_
      rintro e w11 ⟨rfl,b11⟩
      replace b11:=zAa (a:=wx) (by go_grown) b11
      replace Bz:=zAa Bz b11
      clear b11
      clear p0_0 p0_1 p0_2 p1_0 p1_1 p1_2 p50_0 p51_0
      obtain⟨p0_0,p0_1,p0_2,-⟩:=(zxb HX0 Bz).cz
      obtain⟨p1_0,p1_1,p1_2,-⟩:=(zxb HX1 Bz).cz
      have p50_0:=(hnd.below (zAa hB Bz)).c0 (u:=.int .i64 x.at_) rfl
      have p51_0:=(hnd'.below (zAa hBW Bz)).c0 (u:=.int .i64 y.at_) rfl
      refine hK.out _ _ ⟨p0_0,p0_1,p0_2,p1_0,p1_1,p1_2,p50_0,p51_0⟩ (fun _=>?_)
      try simp only[uW,uX,uY,uZ]
      clear hK K
      iterate 3 (refine zT rfl rfl (fun w' ⟨p0_0,p0_1,p0_2,p1_0,p1_1,p1_2,p50_0,p51_0⟩=>by go_simp<;>with_reducible rfl) ?_;try simp only[uW,uX,uY,uZ])
      iterate 6 (refine zN rfl rfl ?_;try simp only[uW,uX,uY,uZ])
      refine wpPlan_pass (o:=⟨some 95,_,_,_,_,_⟩) rfl rfl ⟨p0_0,p0_1,p0_2,p1_0,p1_1,p1_2,p50_0,p51_0⟩ ?_
      try simp only[uW,uX,uY,uZ]
      refine zN rfl rfl ?_
      try simp only[uW,uX,uY,uZ]
      refine zT rfl rfl (fun w' ⟨p0_0,p0_1,p0_2,p1_0,p1_1,p1_2,p50_0,p51_0⟩=>by go_simp<;>with_reducible rfl) ?_
      try simp only[uW,uX,uY,uZ]
      refine zAc ?_
      go_wp2_with fail
      go_ret
      have hF:=zAa (c:=w11) hB Bz
      obtain rfl:r=false:=rr_no hr.out HYP.out HEX.out HEY.out HFX.out HFY.out HDX.out HDY.out (fun h=>of_decide_eq_false HW1.out h.2.2.2.2.2.1)
      exact⟨rfl,zAa hF (by go_grown)⟩
     have HK5:=zh hc
     have HW1:Hid (decide (d.xs=e.xs)=true):=zh (decide_eq_true hc)
     clear hc
     by_cases hc:d.xs'=e.xs'
     rotate_left
     ·have HC:Hid (¬d.xs'=e.xs'):=zh hc
      have HW2:Hid (decide (d.xs'=e.xs')=false):=zh (decide_eq_false hc)
      clear hc
      have Bz:=Below.refl wx.heap.size wx
      obtain⟨p0_0,p0_1,p0_2,p0_3,-⟩:=(zxb HX0 Bz).cz
      obtain⟨p1_0,p1_1,p1_2,p1_3,-⟩:=(zxb HX1 Bz).cz
      have p50_0:=(hnd.below (zAa hB Bz)).c0 (u:=.int .i64 x.at_) rfl
      have p51_0:=(hnd'.below (zAa hBW Bz)).c0 (u:=.int .i64 y.at_) rfl
      go_wp2_with fail
      (try simp only[List.append_eq,List.cons_append,List.nil_append])
      refine zAb (.take 0 (.take 1 (.take 2 (.take 3 (.take 4 (.take 5 (.take 6 (.take 7 (.take 8 (.take 9 (.take 10 (.take 11 (.take 12 (.take 13 (.take 14 (.take 15 (.take 16 (.take 17 (.take 18 (.take 19 (.take 20 (.take 21 (.take 22 (.take 23 (.take 24 (.take 25 (.take 26 (.take 27 (.take 28 (.take 29 (.take 30 (.take 31 (.take 32 (.take 33 (.take 34 (.take 35 (.take 36 (.take 37 (.take 38 (.take 39 (.take 40 (.take 41 (.take 42 (.take 43 (.take 44 (.take 45 (.take 46 (.take 47 (.take 48 (.take 49 (.take 50 (.take 51 (.take 52 (.only 53 (.take 54 (.take 55 (.take 56 (.take 57 (.take 58 (.take 59 (.take 60 (.take 61 (.take 62 (.only 63 (.take 64 (.take 65 .done)))))))))))))))))))))))))))))))))))))))))))))))))))))))))))))))))) [] (fun w'=>w'.cell? ⟨b7,0,none⟩=some (.bool x.x.s)∧w'.cell? ⟨b7,1,none⟩=some (.slice x.x.A x.x.l x.x.c)∧w'.cell? ⟨b7,2,none⟩=some (.bool x.x.s')∧w'.cell? ⟨b7,3,none⟩=some (.slice x.x.A' x.x.l' x.x.c')∧w'.cell? ⟨b8,0,none⟩=some (.bool x.x.s)∧w'.cell? ⟨b8,1,none⟩=some (.slice y.x.A y.x.l y.x.c)∧w'.cell? ⟨b8,2,none⟩=some (.bool x.x.s')∧w'.cell? ⟨b8,3,none⟩=some (.slice y.x.A' y.x.l' y.x.c')∧w'.cell? ⟨b,off+i*5,none⟩=some (.int .i64 x.at_)∧w'.cell? ⟨b',off'+i*5,none⟩=some (.int .i64 y.at_)) (by kernel_rfl) (by kernel_rfl) ⟨p0_0,p0_1,p0_2,p0_3,p1_0,p1_1,p1_2,p1_3,p50_0,p51_0⟩ ?_
      iterate 53 (refine zT rfl rfl (fun w' ⟨p0_0,p0_1,p0_2,p0_3,p1_0,p1_1,p1_2,p1_3,p50_0,p51_0⟩=>by go_simp<;>with_reducible rfl) ?_;try simp only[uW,uX,uY,uZ])
      refine zC 85 rfl rfl (fun K hK=>?_)
      go_simp
      with_reducible refine(sameWordsR_n (FrD.below HDX.out (zAa Bz (by go_grown))).n1 (FrD.below HDY.out (zAa Bz (by go_grown))).n1 (by omega) (by omega) true HW1).mono ?_
      rintro e w11 ⟨rfl,b11⟩
      replace b11:=zAa (a:=wx) (by go_grown) b11
      replace Bz:=zAa Bz b11
      clear b11
      clear p0_0 p0_1 p0_2 p0_3 p1_0 p1_1 p1_2 p1_3 p50_0 p51_0
      obtain⟨p0_0,p0_1,p0_2,p0_3,-⟩:=(zxb HX0 Bz).cz
      obtain⟨p1_0,p1_1,p1_2,p1_3,-⟩:=(zxb HX1 Bz).cz
      have p50_0:=(hnd.below (zAa hB Bz)).c0 (u:=.int .i64 x.at_) rfl
      have p51_0:=(hnd'.below (zAa hBW Bz)).c0 (u:=.int .i64 y.at_) rfl
      refine hK.out _ _ ⟨p0_0,p0_1,p0_2,p0_3,p1_0,p1_1,p1_2,p1_3,p50_0,p51_0⟩ (fun _=>?_)
      try simp only[uW,uX,uY,uZ]
      clear hK K
      iterate 9 (refine zT rfl rfl (fun w' ⟨p0_0,p0_1,p0_2,p0_3,p1_0,p1_1,p1_2,p1_3,p50_0,p51_0⟩=>by go_simp<;>with_reducible rfl) ?_;try simp only[uW,uX,uY,uZ])
      refine zC 95 rfl rfl (fun K hK=>?_)
      go_simp
      with_reducible refine(sameWordsR_n (FrD.below HDX.out (zAa Bz (by go_grown))).n2 (FrD.below HDY.out (zAa Bz (by go_grown))).n2 (by omega) (by omega) false HW2).mono ?_
      rintro e w12 ⟨rfl,b12⟩
      replace b12:=zAa (a:=w11) (by go_grown) b12
      replace Bz:=zAa Bz b12
      clear b12
      clear p0_0 p0_1 p0_2 p0_3 p1_0 p1_1 p1_2 p1_3 p50_0 p51_0
      obtain⟨p0_0,p0_1,p0_2,p0_3,-⟩:=(zxb HX0 Bz).cz
      obtain⟨p1_0,p1_1,p1_2,p1_3,-⟩:=(zxb HX1 Bz).cz
      have p50_0:=(hnd.below (zAa hB Bz)).c0 (u:=.int .i64 x.at_) rfl
      have p51_0:=(hnd'.below (zAa hBW Bz)).c0 (u:=.int .i64 y.at_) rfl
      refine hK.out _ _ ⟨p0_0,p0_1,p0_2,p0_3,p1_0,p1_1,p1_2,p1_3,p50_0,p51_0⟩ (fun _=>?_)
      try simp only[uW,uX,uY,uZ]
      clear hK K
      iterate 2 (refine zT rfl rfl (fun w' ⟨p0_0,p0_1,p0_2,p0_3,p1_0,p1_1,p1_2,p1_3,p50_0,p51_0⟩=>by go_simp<;>with_reducible rfl) ?_;try simp only[uW,uX,uY,uZ])
      refine zAc ?_
      go_wp2_with fail
      go_ret
      have hF:=zAa (c:=w12) hB Bz
      obtain rfl:r=false:=rr_no hr.out HYP.out HEX.out HEY.out HFX.out HFY.out HDX.out HDY.out (fun h=>of_decide_eq_false HW2.out h.2.2.2.2.2.2)
      exact⟨rfl,zAa hF (by go_grown)⟩
     have HK6:=zh hc
     have HW2:Hid (decide (d.xs'=e.xs')=true):=zh (decide_eq_true hc)
     clear hc
     have HAL:=zh (And.intro HK0.out (And.intro HK1.out (And.intro HK2.out (rr_pass HFX.out HFY.out HDX.out HDY.out HK3.out HK4.out HK5.out HK6.out))))
     have Bz:=Below.refl wx.heap.size wx
     obtain⟨p0_0,p0_1,p0_2,p0_3,-⟩:=(zxb HX0 Bz).cz
     obtain⟨p1_0,p1_1,p1_2,p1_3,-⟩:=(zxb HX1 Bz).cz
     have p50_0:=(hnd.below (zAa hB Bz)).c0 (u:=.int .i64 x.at_) rfl
     have p51_0:=(hnd'.below (zAa hBW Bz)).c0 (u:=.int .i64 y.at_) rfl
     go_wp2_with fail
     (try simp only[List.append_eq,List.cons_append,List.nil_append])
     refine zAb (.take 0 (.take 1 (.take 2 (.take 3 (.take 4 (.take 5 (.take 6 (.take 7 (.take 8 (.take 9 (.take 10 (.take 11 (.take 12 (.take 13 (.take 14 (.take 15 (.take 16 (.take 17 (.take 18 (.take 19 (.take 20 (.take 21 (.take 22 (.take 23 (.take 24 (.take 25 (.take 26 (.take 27 (.take 28 (.take 29 (.take 30 (.take 31 (.take 32 (.take 33 (.take 34 (.take 35 (.take 36 (.take 37 (.take 38 (.take 39 (.take 40 (.take 41 (.take 42 (.take 43 (.take 44 (.take 45 (.take 46 (.take 47 (.take 48 (.take 49 (.take 50 (.take 51 (.take 52 (.only 53 (.take 54 (.take 55 (.take 56 (.take 57 (.take 58 (.take 59 (.take 60 (.take 61 (.take 62 (.only 63 (.take 64 (.take 65 .done)))))))))))))))))))))))))))))))))))))))))))))))))))))))))))))))))) [] (fun w'=>w'.cell? ⟨b7,0,none⟩=some (.bool x.x.s)∧w'.cell? ⟨b7,1,none⟩=some (.slice x.x.A x.x.l x.x.c)∧w'.cell? ⟨b7,2,none⟩=some (.bool x.x.s')∧w'.cell? ⟨b7,3,none⟩=some (.slice x.x.A' x.x.l' x.x.c')∧w'.cell? ⟨b8,0,none⟩=some (.bool x.x.s)∧w'.cell? ⟨b8,1,none⟩=some (.slice y.x.A y.x.l y.x.c)∧w'.cell? ⟨b8,2,none⟩=some (.bool x.x.s')∧w'.cell? ⟨b8,3,none⟩=some (.slice y.x.A' y.x.l' y.x.c')∧w'.cell? ⟨b,off+i*5,none⟩=some (.int .i64 x.at_)∧w'.cell? ⟨b',off'+i*5,none⟩=some (.int .i64 y.at_)) (by kernel_rfl) (by kernel_rfl) ⟨p0_0,p0_1,p0_2,p0_3,p1_0,p1_1,p1_2,p1_3,p50_0,p51_0⟩ ?_
     iterate 53 (refine zT rfl rfl (fun w' ⟨p0_0,p0_1,p0_2,p0_3,p1_0,p1_1,p1_2,p1_3,p50_0,p51_0⟩=>by go_simp<;>with_reducible rfl) ?_;try simp only[uW,uX,uY,uZ])
     refine zC 85 rfl rfl (fun K hK=>?_)
     go_simp
     with_reducible refine(sameWordsR_n (FrD.below HDX.out (zAa Bz (by go_grown))).n1 (FrD.below HDY.out (zAa Bz (by go_grown))).n1 (by omega) (by omega) true HW1).mono ?_
     rintro e w11 ⟨rfl,b11⟩
     replace b11:=zAa (a:=wx) (by go_grown) b11
     replace Bz:=zAa Bz b11
     clear b11
     clear p0_0 p0_1 p0_2 p0_3 p1_0 p1_1 p1_2 p1_3 p50_0 p51_0
     obtain⟨p0_0,p0_1,p0_2,p0_3,-⟩:=(zxb HX0 Bz).cz
     obtain⟨p1_0,p1_1,p1_2,p1_3,-⟩:=(zxb HX1 Bz).cz
     have p50_0:=(hnd.below (zAa hB Bz)).c0 (u:=.int .i64 x.at_) rfl
     have p51_0:=(hnd'.below (zAa hBW Bz)).c0 (u:=.int .i64 y.at_) rfl
     refine hK.out _ _ ⟨p0_0,p0_1,p0_2,p0_3,p1_0,p1_1,p1_2,p1_3,p50_0,p51_0⟩ (fun _=>?_)
     try simp only[uW,uX,uY,uZ]
     clear hK K
     iterate 9 (refine zT rfl rfl (fun w' ⟨p0_0,p0_1,p0_2,p0_3,p1_0,p1_1,p1_2,p1_3,p50_0,p51_0⟩=>by go_simp<;>with_reducible rfl) ?_;try simp only[uW,uX,uY,uZ])
     refine zC 95 rfl rfl (fun K hK=>?_)
     go_simp
     with_reducible refine(sameWordsR_n (FrD.below HDX.out (zAa Bz (by go_grown))).n2 (FrD.below HDY.out (zAa Bz (by go_grown))).n2 (by omega) (by omega) true HW2).mono ?_
     rintro e w12 ⟨rfl,b12⟩
     replace b12:=zAa (a:=w11) (by go_grown) b12
     replace Bz:=zAa Bz b12
     clear b12
     clear p0_0 p0_1 p0_2 p0_3 p1_0 p1_1 p1_2 p1_3 p50_0 p51_0
     obtain⟨p0_0,p0_1,p0_2,p0_3,-⟩:=(zxb HX0 Bz).cz
     obtain⟨p1_0,p1_1,p1_2,p1_3,-⟩:=(zxb HX1 Bz).cz
     have p50_0:=(hnd.below (zAa hB Bz)).c0 (u:=.int .i64 x.at_) rfl
     have p51_0:=(hnd'.below (zAa hBW Bz)).c0 (u:=.int .i64 y.at_) rfl
     refine hK.out _ _ ⟨p0_0,p0_1,p0_2,p0_3,p1_0,p1_1,p1_2,p1_3,p50_0,p51_0⟩ (fun _=>?_)
     try simp only[uW,uX,uY,uZ]
     clear hK K
     iterate 2 (refine zT rfl rfl (fun w' ⟨p0_0,p0_1,p0_2,p0_3,p1_0,p1_1,p1_2,p1_3,p50_0,p51_0⟩=>by go_simp<;>with_reducible rfl) ?_;try simp only[uW,uX,uY,uZ])
     refine zAc ?_
     go_wp2_with fail
     go_roundg (n-(i+1))
     case measure=>have:=HGK.out;omega
     case rel=>exact⟨i+1,by omega,rfl,by go_num,HRR.out.step HEX.out HEY.out HAL.out,zAa (zAa hB Bz) (by go_grown),zAa (zAa hBW Bz) (by go_grown)⟩
   ·obtain rfl:i=n:=by omega
    have i1:¬(i:Int)<(i:Int):=by omega
    obtain rfl:r=true:=rr_yes hr.out HYP.out HLN.out HLY.out HRR.out
    have Bz:=Below.refl wr.heap.size wr
    go_wp2_with fail
    go_ret
    have hF:=zAa (c:=wr) hB Bz
    exact⟨rfl,zAa hF (by go_grown)⟩
 ·have g0:((n1:Int) !=(n:Int))=true:=by simp;omega
  obtain rfl:r=false:=rr_len hr.out HV.out.len (by rw[HLN.out];exact hnn)
  go_wp2_with fail
  go_ret
  have hF:=zAa (c:=w1) hB Bz
  exact⟨rfl,zAa hF (by go_grown)⟩
open Go.RowKit Tw
theorem copy_w {w:World} {A:Option Addr} {c l:Nat} {xs:List Nat} (h:Nx w A c l xs) (hl:l≤800000) :
  Calls Tryz.prog 126 #[.slice A l c] w (TellsX w l xs):=by
 by_cases hc:A=none→c=0
 ·exact copy_v h hl hc
 ·have hA:A=none:=Classical.byContradiction fun e=>hc fun e2=>absurd e2 e
  have h0:xs.length=0:=by
   rcases Nat.eq_zero_or_pos xs.length with h1 | h1
   ·exact h1
   ·obtain⟨b,off,e,_⟩:=h.1.cells h1
    rw[hA] at e
    cases e
  obtain rfl:xs=[]:=List.eq_nil_of_length_eq_zero h0
  obtain rfl:0=l:=h.2
  subst hA
  clear h h0 hc
  go_enter Tryz.func126,Tryz.ntmps126
  go_wp2_with fail
  go_ret
  exact⟨none,0,rfl,⟨Nums.nil _ _ _,rfl⟩,Below.refl _ _⟩
def TellsCp (w:World) (x:Fr) (d:Dg) (e:Ending) (w':World):Prop:=∃A c A' c',e=.returned (.agg #[.bool x.s,.slice A x.l c,.bool x.s',.slice A' x.l' c'])∧Nx w' A c x.l d.xs∧Nx w' A' c' x.l' d.xs'∧Below w.heap.size w w'
theorem copyRat_q {w:World} {x:Fr} {d:Dg} (h:FrD w d x) (hl:x.l≤800000) (hl':x.l'≤800000) :
  Calls Tryz.prog 83 #[.agg #[.bool x.s,.slice x.A x.l x.c,.bool x.s',.slice x.A' x.l' x.c']] w (TellsCp w x d):=by
 have h1:=h.2.2.1
 have h2:=h.2.2.2
 clear h
 obtain⟨W,hW,x0,x1,hB⟩:=boxes2 w #[.bool x.s,.slice x.A x.l x.c,.bool x.s',.slice x.A' x.l' x.c'] 50 #[.bool false,.slice none 0 0,.bool false,.slice none 0 0] 50
 replace h1:=h1.below hB
 replace h2:=h2.below hB
 have HX0:=zh x0
 have HX1:=zh x1
 clear x0 x1
 have Bz:=Below.refl W.heap.size W
 obtain⟨p0_0,p0_1,p0_2,p0_3,-⟩:=(zxb HX0 Bz).cz
 obtain⟨p1_0,p1_1,p1_2,p1_3,-⟩:=(zxb HX1 Bz).cz
 have f1_0:=(zxb HX1 Bz).frozen 0
 have f1_1:=(zxb HX1 Bz).frozen 1
 have f1_2:=(zxb HX1 Bz).frozen 2
 have f1_3:=(zxb HX1 Bz).frozen 3
 have y1:=(zxb HX1 Bz).lt
 go_enter Tryz.func83,Tryz.ntmps83
 go_wp2_with fail
 rw[←hW]
 clear hW
 go_wp2_with fail
 (try simp only[List.append_eq,List.cons_append,List.nil_append])
 refine zAb (.pure 0 (.pure 1 (.take 2 (.pure 3 (.pure 4 (.take 5 (.pure 8 (.pure 9 (.take 10 (.pure 11 (.pure 12 (.take 13 (.only 6 (.pure 7 (.only 14 (.pure 15 (.pure 16 (.only 17 .done)))))))))))))))))) [17] (fun w'=>w'.cell? ⟨w.heap.size,0,none⟩=some (.bool x.s)∧w'.cell? ⟨w.heap.size,1,none⟩=some (.slice x.A x.l x.c)∧w'.cell? ⟨w.heap.size,2,none⟩=some (.bool x.s')∧w'.cell? ⟨w.heap.size,3,none⟩=some (.slice x.A' x.l' x.c')) (by kernel_rfl) (by kernel_rfl) ⟨p0_0,p0_1,p0_2,p0_3⟩ ?_
 iterate 2 (refine zP rfl rfl (fun w'=>by go_simp<;>with_reducible rfl) ?_;try simp only[uW,uX,uY,uZ])
 refine zT rfl rfl (fun w' ⟨p0_0,p0_1,p0_2,p0_3⟩=>by go_simp<;>with_reducible rfl) ?_
 try simp only[uW,uX,uY,uZ]
 iterate 2 (refine zP rfl rfl (fun w'=>by go_simp<;>with_reducible rfl) ?_;try simp only[uW,uX,uY,uZ])
 refine zT rfl rfl (fun w' ⟨p0_0,p0_1,p0_2,p0_3⟩=>by go_simp<;>with_reducible rfl) ?_
 try simp only[uW,uX,uY,uZ]
 iterate 2 (refine zP rfl rfl (fun w'=>by go_simp<;>with_reducible rfl) ?_;try simp only[uW,uX,uY,uZ])
 refine zT rfl rfl (fun w' ⟨p0_0,p0_1,p0_2,p0_3⟩=>by go_simp<;>with_reducible rfl) ?_
 try simp only[uW,uX,uY,uZ]
 iterate 2 (refine zP rfl rfl (fun w'=>by go_simp<;>with_reducible rfl) ?_;try simp only[uW,uX,uY,uZ])
 refine zT rfl rfl (fun w' ⟨p0_0,p0_1,p0_2,p0_3⟩=>by go_simp<;>with_reducible rfl) ?_
 try simp only[uW,uX,uY,uZ]
 refine zC 9 rfl rfl (fun K hK=>?_)
 go_simp
 with_reducible refine(copy_w (Nx.below h1 (by go_grown)) hl).mono ?_
 rintro e w1 ⟨A1,c1,rfl,h1,b1⟩
 replace b1:=zAa (a:=W) (by go_grown) b1
 replace h2:=h2.below b1
 replace Bz:=zAa Bz b1
 clear b1
 clear p0_0 p0_1 p0_2 p0_3 p1_0 p1_1 p1_2 p1_3 f1_0 f1_1 f1_2 f1_3 y1
 obtain⟨p0_0,p0_1,p0_2,p0_3,-⟩:=(zxb HX0 Bz).cz
 obtain⟨p1_0,p1_1,p1_2,p1_3,-⟩:=(zxb HX1 Bz).cz
 have f1_0:=(zxb HX1 Bz).frozen 0
 have f1_1:=(zxb HX1 Bz).frozen 1
 have f1_2:=(zxb HX1 Bz).frozen 2
 have f1_3:=(zxb HX1 Bz).frozen 3
 have y1:=(zxb HX1 Bz).lt
 refine hK.out _ _ ⟨p0_0,p0_1,p0_2,p0_3⟩ (fun _=>?_)
 try simp only[uW,uX,uY,uZ]
 clear hK K
 refine zP rfl rfl (fun w'=>by go_simp<;>with_reducible rfl) ?_
 try simp only[uW,uX,uY,uZ]
 refine zC 17 rfl rfl (fun K hK=>?_)
 go_simp
 with_reducible refine(copy_w (Nx.below h2 (by go_grown)) hl').mono ?_
 rintro e w2 ⟨A2,c2,rfl,h2,b2⟩
 replace b2:=zAa (a:=w1) (by go_grown) b2
 replace h1:=h1.below b2
 replace Bz:=zAa Bz b2
 clear b2
 clear p0_0 p0_1 p0_2 p0_3 p1_0 p1_1 p1_2 p1_3 f1_0 f1_1 f1_2 f1_3 y1
 obtain⟨p0_0,p0_1,p0_2,p0_3,-⟩:=(zxb HX0 Bz).cz
 obtain⟨p1_0,p1_1,p1_2,p1_3,-⟩:=(zxb HX1 Bz).cz
 have f1_0:=(zxb HX1 Bz).frozen 0
 have f1_1:=(zxb HX1 Bz).frozen 1
 have f1_2:=(zxb HX1 Bz).frozen 2
 have f1_3:=(zxb HX1 Bz).frozen 3
 have y1:=(zxb HX1 Bz).lt
 refine hK.out _ _ ⟨p0_0,p0_1,p0_2,p0_3⟩ (fun _=>?_)
 try simp only[uW,uX,uY,uZ]
 clear hK K
 iterate 2 (refine zP rfl rfl (fun w'=>by go_simp<;>with_reducible rfl) ?_;try simp only[uW,uX,uY,uZ])
 refine zAf (o:=⟨none,_,_,_,_,_⟩) rfl rfl (by decide) (fun K hK=>?_)
 go_simp
 refine hK.out _ _ ?_
 try simp only[Act.put,uX,uY,uZ]
 clear hK K
 refine zAc ?_
 go_wp2_with fail
 (try simp only[Exit.inBlock,Exit.then])
 refine bodyPost_ret (by simp[results,Tryz.results83,go_sem,p1_0,p1_1,p1_2,p1_3];try rfl) rfl ?_
 obtain⟨V1,hW,x,kk,far,bel⟩:=store4 (.bool x.s) (.slice A1 x.l c1) (.bool x.s') (.slice A2 x.l' c2) (zxb HX1 Bz) nofun nofun nofun nofun
 rw[←hW]
 clear hW
 replace h1:=h1.k kk
 replace h2:=h2.k kk
 replace hB:=bel w.heap.size w (by omega) (zAa hB Bz)
 replace HX0:=zh (far _ _ _ (by omega) (zxb HX0 Bz))
 replace HX1:=zh x
 clear x kk far bel Bz
 have Bz:=Below.refl V1.heap.size V1
 have hF:=zAa (c:=V1) hB Bz
 exact⟨_,_,_,_,rfl,Nx.below h1 (by go_grown),Nx.below h2 (by go_grown),zAa hF (by go_grown)⟩
def CV1 (w:World) (D:List (Int×Dg)) (n gk:Nat) (s3 s4:Value) (wr:World):Prop :=
 ∃(i:Nat) (H:Option Addr) (hc:Nat) (O:List Tm),s3=.slice H i hc∧s4=.int .i64 (i:Int)∧i≤n∧n-i=gk∧OwnR wr w.heap.size 114 5 (.slice H i hc) i (flat Tm.cs O)∧TsD wr O (D.take i)∧Below w.heap.size w wr
theorem copyVec_q {w:World} {A:Option Addr} {n c:Nat} {D:List (Int×Dg)} (h:VcD w A n c D) (hn:n≤1000000) :
  Calls Tryz.prog 22 #[.slice A n c] w fun e w'=>∃H hc,e=.returned (.slice H n hc)∧VcD w' H n hc D∧Below w.heap.size w w':=by
 have HLD:=zh h.len
 obtain⟨⟨L,h1,h2⟩,h3⟩:=h
 have HS:=zh h1
 have HLN:=zh h1.1
 have HTS:=zh h2
 have HLE:=zh h3
 clear h1 h2 h3
 go_enter Tryz.func22,Tryz.ntmps22
 go_wp2_with fail
 go_loopg [3,4] n (fun gk s3 s4 wr=>CV1 w D n gk s3 s4 wr)
 case atStart=>exact⟨0,none,0,[],rfl,rfl,Nat.zero_le _,rfl,OwnR.nil _ _ _ _,All2.nil,Below.refl _ _⟩
 case round =>
  obtain⟨i,H,hc,O,rfl,rfl,hi,hgk,ho,hts,hB⟩:=hrel
  have HGK:=zh hgk
  clear hgk
  by_cases hlt:i<n
  ·obtain⟨b,off,rfl,hel⟩:=HS.out.at Tm.cs_len (by omega) (by omega)
   obtain⟨x,d,hx,hd,hxd⟩:=HTS.out.has (i:=i) (by rw[HLN.out];exact hlt)
   have hnd:=hel i x hx
   have hfd:=hxd.2.below hB
   have HD:=zh hd
   have hle:=HLE.out d (List.mem_of_getElem? hd)
   have hl1:x.x.l=d.2.xs.length:=hxd.2.2.2.1.2.symm
   have hl2:x.x.l'=d.2.xs'.length:=hxd.2.2.2.2.2.symm
   have hq1:x.x.l≤800000:=by omega
   have hq2:x.x.l'≤800000:=by omega
   have HAT:=zh (And.intro hxd.1 (And.intro hxd.2.1 hxd.2.2.1))
   have i1:(i:Int)<(n:Int):=by omega
   have i2:(0:Int)≤(i:Int):=by omega
   clear hel hx hd hxd hle hl1 hl2
   have Bz:=Below.refl wr.heap.size wr
   obtain⟨p50_0,p50_1,p50_2,p50_3,p50_4,-⟩:=(hnd.below (zAa hB Bz)).ez
   go_wp2_with fail
   (try simp only[List.append_eq,List.cons_append,List.nil_append])
   refine zAb (.pure 0 (.pure 1 (.pure 2 (.pure 3 (.pure 4 (.take 5 (.pure 6 (.pure 7 (.pure 8 (.pure 9 (.take 10 (.only 11 (.pure 12 (.only 13 (.only 14 (.pure 15 .done)))))))))))))))) [14] (fun w'=>w'.cell? ⟨b,off+i*5,none⟩=some (.int .i64 x.at_)∧w'.cell? ⟨b,off+i*5+1,none⟩=some (.bool x.x.s)∧w'.cell? ⟨b,off+i*5+2,none⟩=some (.slice x.x.A x.x.l x.x.c)∧w'.cell? ⟨b,off+i*5+3,none⟩=some (.bool x.x.s')∧w'.cell? ⟨b,off+i*5+4,none⟩=some (.slice x.x.A' x.x.l' x.x.c')) (by kernel_rfl) (by kernel_rfl) ⟨p50_0,p50_1,p50_2,p50_3,p50_4⟩ ?_
   iterate 5 (refine zP rfl rfl (fun w'=>by go_simp<;>with_reducible rfl) ?_;try simp only[uW,uX,uY,uZ])
   refine zT rfl rfl (fun w' ⟨p50_0,p50_1,p50_2,p50_3,p50_4⟩=>by go_simp<;>with_reducible rfl) ?_
   try simp only[uW,uX,uY,uZ]
   iterate 4 (refine zP rfl rfl (fun w'=>by go_simp<;>with_reducible rfl) ?_;try simp only[uW,uX,uY,uZ])
   refine zT rfl rfl (fun w' ⟨p50_0,p50_1,p50_2,p50_3,p50_4⟩=>by go_simp<;>with_reducible rfl) ?_
   try simp only[uW,uX,uY,uZ]
   refine zC 22 rfl rfl (fun K hK=>?_)
   go_simp
   with_reducible refine(copyRat_q (FrD.below hfd (by go_grown)) (by omega) (by omega)).mono ?_
   rintro e w11 ⟨A11,c11,A11r,c11r,rfl,h11,h11r,b11⟩
   replace b11:=zAa (a:=wr) (by go_grown) b11
   replace ho:=ho.below b11
   replace hts:=hts.below b11
   replace Bz:=zAa Bz b11
   clear b11
   clear p50_0 p50_1 p50_2 p50_3 p50_4
   obtain⟨p50_0,p50_1,p50_2,p50_3,p50_4,-⟩:=(hnd.below (zAa hB Bz)).ez
   refine hK.out _ _ ⟨p50_0,p50_1,p50_2,p50_3,p50_4⟩ (fun _=>?_)
   try simp only[uW,uX,uY,uZ]
   clear hK K
   refine zP rfl rfl (fun w'=>by go_simp<;>with_reducible rfl) ?_
   try simp only[uW,uX,uY,uZ]
   refine zC 24 rfl rfl (fun K hK=>?_)
   go_simp
   refine hK.out _ _ ⟨(zAd p50_0),(zAd p50_1),(zAd p50_2),(zAd p50_3),(zAd p50_4)⟩ (fun _=>?_)
   try simp only[uW,uX,uY,uZ]
   clear hK K
   refine zAf (o:=⟨some 25,_,_,_,_,_⟩) rfl rfl (by decide) (fun K hK=>?_)
   obtain⟨V11,hW,x0,hN⟩:=zAe w11 #[.int .i64 x.at_,.bool x.x.s,.slice A11 x.x.l c11,.bool x.x.s',.slice A11r x.x.l' c11r] 114
   rw[←hW]
   clear hW
   obtain⟨v0,hb0⟩:∃b,b=w11.heap.size:=⟨_,rfl⟩
   rw[←hb0] at x0 ⊢
   have ow_0:w.heap.size≤v0:=by have:=zw hB Bz;omega
   have nv0_own:=OwnR.off' (b:=v0) ho (by omega)
   replace h11:=h11.below hN
   replace h11r:=h11r.below hN
   replace ho:=ho.below hN
   replace hts:=hts.below hN
   replace hB:=zAa (zAa hB Bz) hN
   have HX0:=zh x0
   clear x0 hN Bz hb0
   have Bz:=Below.refl V11.heap.size V11
   clear p50_0 p50_1 p50_2 p50_3 p50_4
   have hdr:V11.drew.heap.size=V11.heap.size:=rfl
   have hdr2:V11.drew.drew.heap.size=V11.heap.size:=rfl
   refine Elt.wp elt_term _ _ rfl (w.heap.size) (.slice H i hc) (i) (O) rfl ho (.slice (some ⟨v0,0,none⟩) 1 1) (1) ([⟨x.at_,⟨x.x.s,A11,c11,x.x.l,x.x.s',A11r,c11r,x.x.l',x.x.q,x.x.ex⟩⟩]) rfl (From.one (HX0.out.below (zAa Bz (by go_grown))) (⟨x.at_,⟨x.x.s,A11,c11,x.x.l,x.x.s',A11r,c11r,x.x.l',x.x.q,x.x.ex⟩⟩) rfl (elt_term.len _)) (by omega) (by have:=zw hB Bz;omega) ?_
   intro H12 c12 w12 ho12 hg12
   refine hK.out _ _ ?_
   try simp only[uW,uX,uY,uZ]
   clear hK K
   replace hB:=(zAa (zAa hB Bz) (by go_grown)).trans (hg12.below (by have:=zw hB Bz;omega) (fun g hg=>by have:=ho.base g hg;omega))
   clear HX0
   clear hdr hdr2
   replace h11:=h11.k hg12.k
   replace h11r:=h11r.k hg12.k
   replace hts:=hts.k hg12.k
   clear hg12 Bz
   have Bz:=Below.refl w12.heap.size w12
   obtain⟨p50_0,p50_1,p50_2,p50_3,p50_4,-⟩:=(hnd.below (zAa hB Bz)).ez
   refine zP rfl rfl (fun w'=>by go_simp<;>with_reducible rfl) ?_
   try simp only[uW,uX,uY,uZ]
   refine zAc ?_
   go_wp2_with fail
   go_roundg (n-(i+1))
   case measure=>have:=HGK.out;omega
   case rel=>exact⟨i+1,_,_,_,rfl,by go_num,by omega,rfl,OwnR.below ho12 (by go_grown),All2.take (TsD.below hts (by go_grown)) HD.out ⟨HAT.out.1,HAT.out.2.1,HAT.out.2.2,Nx.below h11 (by go_grown),Nx.below h11r (by go_grown)⟩,zAa (zAa hB Bz) (by go_grown)⟩
  ·obtain rfl:i=n:=by omega
   have i1:¬(i:Int)<(i:Int):=by omega
   have HV:Hid (VcD wr H i hc D):=zh ⟨⟨O,ho.sl' elt_term (ho.eltn elt_term (by omega)),All2.full hts (by rw[HLD.out];exact Nat.le_refl _)⟩,HLE.out⟩
   clear ho hts
   go_wp2_with fail
   go_ret
   exact⟨H,hc,rfl,HV.out,hB⟩
theorem sameInt_d {w:World} {b:Bool} {A A':Option Addr} {l l' c c':Nat} {xs:List Nat} (h1:Nx w A c l xs) (h2:Nx w A' c' l' xs) (hl:l≤800000) :
  Calls Tryz.prog 101 #[.agg #[.bool b,.slice A l c],.agg #[.bool b,.slice A' l' c']] w fun e w'=>e=.returned (.bool true)∧Below w.heap.size w w':=by
 have g1:(b==b)=true:=by simp
 obtain⟨W,hW,x0,x1,hB⟩:=boxes2 w #[.bool b,.slice A l c] 48 #[.bool b,.slice A' l' c'] 48
 replace h1:=h1.below hB
 replace h2:=h2.below hB
 have HX0:=zh x0
 have HX1:=zh x1
 clear x0 x1
 have Bz:=Below.refl W.heap.size W
 obtain⟨p0_0,p0_1,-⟩:=(zxb HX0 Bz).cz
 obtain⟨p1_0,p1_1,-⟩:=(zxb HX1 Bz).cz
 go_enter Tryz.func101,Tryz.ntmps101
 go_wp2_with fail
 rw[←hW]
 clear hW
 go_wp2_with fail
 with_reducible refine(same_n (Nx.below h1 (by go_grown)) (Nx.below h2 (by go_grown)) hl).mono ?_
 rintro e w1 ⟨rfl,b1⟩
 replace b1:=zAa (a:=W) (by go_grown) b1
 replace Bz:=zAa Bz b1
 clear b1
 clear p0_0 p0_1 p1_0 p1_1
 go_wp2_with fail
 go_ret
 have hF:=zAa (c:=w1) hB Bz
 exact⟨rfl,zAa hF (by go_grown)⟩
theorem sameRat_d {w:World} {x y:Fr} {d:Dg} (h:FrD w d x) (h':FrD w d y) (hl:x.l≤800000) (hl':x.l'≤800000) :
  Calls Tryz.prog 34 #[.agg #[.bool x.s,.slice x.A x.l x.c,.bool x.s',.slice x.A' x.l' x.c'],.agg #[.bool y.s,.slice y.A y.l y.c,.bool y.s',.slice y.A' y.l' y.c']] w fun e w'=>e=.returned (.bool true)∧Below w.heap.size w w':=by
 obtain⟨e1,e2,h1,h2⟩:=h
 obtain⟨e3,e4,k1,k2⟩:=h'
 rw[e3,e4,←e1,←e2]
 clear e1 e2 e3 e4
 obtain⟨W,hW,x0,x1,hB⟩:=boxes2 w #[.bool x.s,.slice x.A x.l x.c,.bool x.s',.slice x.A' x.l' x.c'] 50 #[.bool x.s,.slice y.A y.l y.c,.bool x.s',.slice y.A' y.l' y.c'] 50
 replace k1:=k1.below hB
 replace k2:=k2.below hB
 replace h1:=h1.below hB
 replace h2:=h2.below hB
 have HX0:=zh x0
 have HX1:=zh x1
 clear x0 x1
 have Bz:=Below.refl W.heap.size W
 obtain⟨p0_0,p0_1,-⟩:=(zxb HX0 Bz).cz
 obtain⟨p1_0,p1_1,-⟩:=(zxb HX1 Bz).cz
 go_enter Tryz.func34,Tryz.ntmps34
 go_wp2_with fail
 rw[←hW]
 clear hW
 go_wp2_with fail
 with_reducible refine(sameInt_d (Nx.below h1 (by go_grown)) (Nx.below k1 (by go_grown)) (by omega)).mono ?_
 rintro e w1 ⟨rfl,b1⟩
 replace b1:=zAa (a:=W) (by go_grown) b1
 replace k2:=k2.below b1
 replace h2:=h2.below b1
 replace Bz:=zAa Bz b1
 clear b1
 clear p0_0 p0_1 p1_0 p1_1
 obtain⟨-,-,p0_2,p0_3,-⟩:=(zxb HX0 Bz).cz
 obtain⟨-,-,p1_2,p1_3,-⟩:=(zxb HX1 Bz).cz
 go_wp2_with fail
 with_reducible refine(sameInt_d (Nx.below h2 (by go_grown)) (Nx.below k2 (by go_grown)) (by omega)).mono ?_
 rintro e w2 ⟨rfl,b2⟩
 replace b2:=zAa (a:=w1) (by go_grown) b2
 replace Bz:=zAa Bz b2
 clear b2
 clear p0_2 p0_3 p1_2 p1_3
 go_wp2_with fail
 go_ret
 have hF:=zAa (c:=w2) hB Bz
 exact⟨rfl,zAa hF (by go_grown)⟩
def LK1 (w:World) (n gk:Nat) (s:Value) (wr:World):Prop:=∃i:Nat,i≤n∧n-i=gk∧s=.int .i64 (i:Int)∧Below w.heap.size w wr
theorem sameVec_d {w:World} {A A':Option Addr} {n c n' c':Nat} {D:List (Int×Dg)} (h:VcD w A n c D) (h':VcD w A' n' c' D) (hn:n≤1000000) :
  Calls Tryz.prog 23 #[.slice A n c,.slice A' n' c'] w fun e w'=>e=.returned (.bool true)∧Below w.heap.size w w':=by
 obtain rfl:n=n':=by have h1:=h.len;have h2:=h'.len;omega
 obtain⟨⟨L,h1,h2⟩,h3⟩:=h
 obtain⟨⟨L',h1',h2'⟩,_⟩:=h'
 have HS:=zh h1
 have HS':=zh h1'
 have HLN:=zh h1.1
 have HLN':=zh h1'.1
 have HTS:=zh h2
 have HTS':=zh h2'
 have HLE:=zh h3
 have g0:((n:Int) !=(n:Int))=false:=by simp
 clear h1 h2 h3 h1' h2'
 go_enter Tryz.func23,Tryz.ntmps23
 go_wp2_with fail
 go_loopg [5] n (fun gk s wr=>LK1 w n gk s wr)
 case atStart=>exact⟨0,Nat.zero_le _,rfl,rfl,Below.refl _ _⟩
 case round =>
  obtain⟨i,hi,hgk,rfl,hB⟩:=hrel
  have HGK:=zh hgk
  clear hgk
  by_cases hlt:i<n
  ·obtain⟨b,off,rfl,hel⟩:=HS.out.at Tm.cs_len (by omega) (by omega)
   obtain⟨b',off',rfl,hel'⟩:=HS'.out.at Tm.cs_len (by omega) (by omega)
   obtain⟨x,d,hx,hd,hxd⟩:=HTS.out.has (i:=i) (by rw[HLN.out];exact hlt)
   obtain⟨y,hy⟩:∃y,L'[i]?=some y:=⟨L'[i]'(by rw[HLN'.out];exact hlt),List.getElem?_eq_getElem _⟩
   have hyd:=HTS'.out.2 i y d hy hd
   have hnd:=hel i x hx
   have hnd':ElA w b' (off'+i*5) [.int .i64 x.at_,.bool y.x.s,.slice y.x.A y.x.l y.x.c,.bool y.x.s',.slice y.x.A' y.x.l' y.x.c']:=by rw[hxd.1,←hyd.1];exact hel' i y hy
   have hfx:=hxd.2.below hB
   have hfy:=hyd.2.below hB
   have hle:=HLE.out d (List.mem_of_getElem? hd)
   have hl1:x.x.l=d.2.xs.length:=hxd.2.2.2.1.2.symm
   have hl2:x.x.l'=d.2.xs'.length:=hxd.2.2.2.2.2.symm
   have hq1:x.x.l≤800000:=by omega
   have hq2:x.x.l'≤800000:=by omega
   have i1:(i:Int)<(n:Int):=by omega
   have i2:(0:Int)≤(i:Int):=by omega
   have g1:(x.at_ != x.at_)=false:=by simp
   clear hel hel' hx hy hd hxd hyd hle hl1 hl2
   have Bz:=Below.refl wr.heap.size wr
   obtain⟨p50_0,p50_1,p50_2,p50_3,p50_4,-⟩:=(hnd.below (zAa hB Bz)).ez
   obtain⟨p51_0,p51_1,p51_2,p51_3,p51_4,-⟩:=(hnd'.below (zAa hB Bz)).ez
   go_wp2_with fail
   (try simp only[List.append_eq,List.cons_append,List.nil_append])
   refine zAb (.take 0 (.take 1 (.take 2 (.take 3 (.take 4 (.take 5 (.take 6 (.take 7 (.take 8 (.take 9 (.take 10 (.take 11 (.take 12 (.take 13 (.take 14 (.take 15 (.take 16 (.take 17 (.take 18 (.take 19 (.take 20 (.take 21 (.only 22 (.take 23 (.take 24 .done))))))))))))))))))))))))) [] (fun w'=>w'.cell? ⟨b,off+i*5,none⟩=some (.int .i64 x.at_)∧w'.cell? ⟨b,off+i*5+1,none⟩=some (.bool x.x.s)∧w'.cell? ⟨b,off+i*5+2,none⟩=some (.slice x.x.A x.x.l x.x.c)∧w'.cell? ⟨b,off+i*5+3,none⟩=some (.bool x.x.s')∧w'.cell? ⟨b,off+i*5+4,none⟩=some (.slice x.x.A' x.x.l' x.x.c')∧w'.cell? ⟨b',off'+i*5,none⟩=some (.int .i64 x.at_)∧w'.cell? ⟨b',off'+i*5+1,none⟩=some (.bool y.x.s)∧w'.cell? ⟨b',off'+i*5+2,none⟩=some (.slice y.x.A y.x.l y.x.c)∧w'.cell? ⟨b',off'+i*5+3,none⟩=some (.bool y.x.s')∧w'.cell? ⟨b',off'+i*5+4,none⟩=some (.slice y.x.A' y.x.l' y.x.c')) (by kernel_rfl) (by kernel_rfl) ⟨p50_0,p50_1,p50_2,p50_3,p50_4,p51_0,p51_1,p51_2,p51_3,p51_4⟩ ?_
   iterate 22 (refine zT rfl rfl (fun w' ⟨p50_0,p50_1,p50_2,p50_3,p50_4,p51_0,p51_1,p51_2,p51_3,p51_4⟩=>by go_simp<;>with_reducible rfl) ?_;try simp only[uW,uX,uY,uZ])
   refine zC 39 rfl rfl (fun K hK=>?_)
   go_simp
   with_reducible refine(sameRat_d (FrD.below hfx (by go_grown)) (FrD.below hfy (by go_grown)) (by omega) (by omega)).mono ?_
   rintro e w11 ⟨rfl,b11⟩
   replace b11:=zAa (a:=wr) (by go_grown) b11
   replace Bz:=zAa Bz b11
   clear b11
   clear p50_0 p50_1 p50_2 p50_3 p50_4 p51_0 p51_1 p51_2 p51_3 p51_4
   obtain⟨p50_0,p50_1,p50_2,p50_3,p50_4,-⟩:=(hnd.below (zAa hB Bz)).ez
   obtain⟨p51_0,p51_1,p51_2,p51_3,p51_4,-⟩:=(hnd'.below (zAa hB Bz)).ez
   refine hK.out _ _ ⟨p50_0,p50_1,p50_2,p50_3,p50_4,p51_0,p51_1,p51_2,p51_3,p51_4⟩ (fun _=>?_)
   try simp only[uW,uX,uY,uZ]
   clear hK K
   iterate 2 (refine zT rfl rfl (fun w' ⟨p50_0,p50_1,p50_2,p50_3,p50_4,p51_0,p51_1,p51_2,p51_3,p51_4⟩=>by go_simp<;>with_reducible rfl) ?_;try simp only[uW,uX,uY,uZ])
   refine zAc ?_
   go_wp2_with fail
   go_roundg (n-(i+1))
   case measure=>have:=HGK.out;omega
   case rel=>exact⟨i+1,by omega,rfl,by go_num,zAa (zAa hB Bz) (by go_grown)⟩
  ·obtain rfl:i=n:=by omega
   have i1:¬(i:Int)<(i:Int):=by omega
   go_wp2_with fail
   go_ret
   exact⟨rfl,hB⟩
theorem VcD.k {w w':World} {A:Option Addr} {n c:Nat} {D:List (Int×Dg)} (h:VcD w A n c D) (hk:K64 w w') (hs:∀L,Sl Tm.cs 5 w A n c L→Sl Tm.cs 5 w' A n c L):VcD w' A n c D:=by
 obtain⟨⟨L,h1,h2⟩,h3⟩:=h
 exact⟨⟨L,hs L h1,h2.k hk⟩,h3⟩
end Go.Proofs.YtljjgfmeaejnfaaGreatDoor
