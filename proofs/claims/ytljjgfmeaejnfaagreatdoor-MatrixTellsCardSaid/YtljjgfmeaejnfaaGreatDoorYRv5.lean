/-
  tripwireref05.Put, Dense, sameWords, Right. Written by wip/gen/rv5.py.
-/
import Derived.Test.YtljjgfmeaejnfaaGreatDoorYPg
import Derived.Test.YtljjgfmeaejnfaaGreatDoorYCp0
set_option maxHeartbeats 16000000
set_option maxRecDepth 100000
namespace Go.Proofs.YtljjgfmeaejnfaaGreatDoor
open Go.RowKit Tw
theorem own_cap {w:World} {B n size:Nat} {e:TypeId} {A:Option Addr} {c:Nat} {xs:List Value} (h:OwnR w B e size (.slice A n c) n xs):A=none→c=0:=fun e=>by
 obtain⟨_,_,e9,h9,_⟩:=h.slice;cases e9;exact(h9 e).2
theorem gv_put {w:World} {A:Option Addr} {n c M mq:Nat} {L:List Tm} {at_:Int} {fr:Fr} (hsl:Sl Tm.cs 5 w A n c (L.filter (offT at_)++[⟨at_,fr⟩])) (hok:OkT w L) (hfr:FrOk w mq fr) (hws:∀a,wsum L a≤M) (hA:A=none→c=0):GV w A n c (putF (prs L) at_ fr.q) (M+mq+2):=by
 refine⟨_,hsl,fun t ht=>?_,?_,fun a=>?_,hA⟩
 ·rcases List.mem_append.1 ht with h | h
  ·exact hok t (List.mem_filter.1 h).1
  ·rw[List.mem_singleton.1 h];exact hfr.rep
 ·rw[prs_append];unfold putF
  rw[←filter_prs L fun x=>decide (x.1≠at_)];rfl
 ·rw[wsum_append];have h1:=Nat.le_trans (wsum_filter L (offT at_) a) (hws a);have h2:=hfr.r.len;show _+((if at_=a then max fr.l fr.l'+2 else 0)+0)≤_
  split<;>omega
def PTR (w:World) (cs:Array Value) (L:List Tm) (at_:Int) (n gk:Nat) (s7 s8:Value) (wr:World):Prop :=
 ∃(i k:Nat) (H:Option Addr) (hc:Nat),s7=.slice H k hc∧s8=.int .i64 (i:Int)∧i≤n∧n-i=gk∧OwnR wr (w.heap.size+1) 114 5 (.slice H k hc) k (flat Tm.cs ((L.take i).filter (offT at_)))∧Bx wr w.heap.size cs 50∧Below w.heap.size w wr
theorem putR_q {w:World} {s s':Bool} {A A':Option Addr} {l c l' c':Nat} {q:Rat} {mq:Nat} {X:Option Addr} {n cx M:Nat} {P:List (Int×Rat)} (h:GV w X n cx P M) (at_:Int) (ha:R w s A c l s' A' c' l' q mq) (hM:M+mq≤860) (hn:n≤90000) (hT:Hid (Tab w)) :
  Calls Tryz.prog 33 #[.slice X n cx,.int .i64 at_,.agg #[.bool s,.slice A l c,.bool s',.slice A' l' c']] w (TellsV w (nrm (putF P at_ q)) (M+mq+8)):=by
 obtain⟨L,x1,x2,rfl,x4,x5⟩:=h;obtain⟨ex,hfa⟩:=ha.fr;have HS:=zh x1;have HLN:=zh x1.1;have HOK:=zh x2;have HWS:=zh x4;have HFA:=zh hfa;clear x1 x2 x4 x5 hfa ha;obtain⟨W,hW,x0,hB⟩:=zAf w #[.bool s,.slice A l c,.bool s',.slice A' l' c'] 50;have HX0:=zh x0;clear x0;have Bz:=Below.refl W.heap.size W;go_enter Tryz.func33,Tryz.ntmps33
 go_wp2_with fail
 rw[←hW];clear hW;go_wp2_with fail
 have HB1:=zh (zAa hB Bz);have XX0:=zh (zxb HX0 Bz);clear hB Bz HX0;go_loopg [7,8] n (fun gk s7 s8 wr=>PTR w #[.bool s,.slice A l c,.bool s',.slice A' l' c'] L at_ n gk s7 s8 wr)
 case atStart=>exact⟨0,0,none,0,rfl,by go_num,Nat.zero_le _,rfl,OwnR.nil _ _ _ _,XX0.out.below (by go_grown),zAa HB1.out (by go_grown)⟩
 case round =>
  clear HB1 XX0;obtain⟨i,k,H,hc,rfl,rfl,hi,hgk,ho,hx0,hB⟩:=hrel;have HGK:=zh hgk;have HX0:=zh hx0;have HLT0:Hid (w.heap.size<wr.heap.size):=zh hx0.lt;have hki:k≤n:=by
   have h1:=ho.eltn elt_term zo;have h2:=List.length_filter_le (offT at_) (L.take i);rw[List.length_take] at h2;omega
  clear hgk hx0;by_cases hlt:i<n
  ·obtain⟨b,off,rfl,hel⟩:=HS.out.at Tm.cs_len zo zo;obtain⟨x,hx⟩:∃x,L[i]?=some x:=⟨L[i]'(by rw[HLN.out];exact hlt),List.getElem?_eq_getElem _⟩;have hnd:=hel i x hx;have hfs:=off_snoc hx (at_:=at_);have i1:(i:Int)<(n:Int):=zo;have i2:(0:Int)≤(i:Int):=zo;clear hel hx;by_cases hq:x.at_=at_
   ·have g1:(x.at_ != at_)=false:=by simpa using hq
    have HFS:Hid ((L.take (i+1)).filter (offT at_)=(L.take i).filter (offT at_)):=zh (by rw[hfs,if_pos hq,List.append_nil]);clear hfs hq;have Bz:=Below.refl wr.heap.size wr;have pA0:=(hnd.below (zAa hB Bz)).c0 (u:=.int .i64 x.at_) rfl;go_wp2_with fail
    go_roundg (n-(i+1))
    case measure=>have:=HGK.out;omega
    case rel=>exact⟨i+1,k,_,_,rfl,by go_num,zo,rfl,by rw[HFS.out];exact OwnR.below ho (by go_grown),HX0.out.below (zAa Bz (by go_grown)),zAa (zAa hB Bz) (by go_grown)⟩
   ·have g1:(x.at_ != at_)=true:=by simpa using hq
    have HFS:Hid ((L.take (i+1)).filter (offT at_)=(L.take i).filter (offT at_)++[x]):=zh (by rw[hfs,if_neg hq]);clear hfs hq;have Bz:=Below.refl wr.heap.size wr;obtain⟨pA0,pA1,pA2,pA3,pA4,-⟩:=(hnd.below (zAa hB Bz)).ez;go_wp2_with (at_builtin;refine And.left (b:=True) ?_)
    refine⟨?_,trivial⟩;obtain⟨V11,hW,x1,hN⟩:=zAf wr #[.int .i64 x.at_,.bool x.x.s,.slice x.x.A x.x.l x.x.c,.bool x.x.s',.slice x.x.A' x.x.l' x.x.c'] 114;rw[←hW];clear hW;obtain⟨v1,hb1⟩:∃b,b=wr.heap.size:=⟨_,rfl⟩;rw[←hb1] at x1 ⊢;have o0_1:w.heap.size<v1:=zia (zxb HX0 Bz).lt;have ow_1:w.heap.size≤v1:=zia (zw hB Bz);have nv1_own:=OwnR.off' (b:=v1) ho zo;replace ho:=ho.below hN;replace hB:=zAa (zAa hB Bz) hN;replace HX0:=zh ((zxb HX0 Bz).below hN);have HX1:=zh x1;clear x1 hN Bz hb1;have Bz:=Below.refl V11.heap.size V11;clear pA0 pA1 pA2 pA3 pA4;have hdr:V11.drew.heap.size=V11.heap.size:=rfl;have hdr2:V11.drew.drew.heap.size=V11.heap.size:=rfl;refine Elt.app elt_term rfl _ _ rfl ((w.heap.size+1)) (.slice H k hc) (k) (((L.take i).filter (offT at_))) rfl ho (.slice (some ⟨v1,0,none⟩) 1 1) (1) ([x]) rfl (From.one (HX1.out.below (zAa Bz (by go_grown))) (x) rfl (elt_term.len _)) zo (by have:=(zxb HX0 Bz).lt;have:=hB.size;have:=Bz.size;omega) ?_;intro H11 c11 w11 ho11 hg11;replace hB:=(zAa (zAa hB Bz) (by go_grown)).trans (hg11.below (zia (zw hB Bz)) (fun g hg=>by have:=ho.base g hg;omega));replace HX0:=zh (hg11.bx (zxb HX0 Bz) (ho.off zo));clear HX1;clear hdr hdr2;clear hg11 Bz;have Bz:=Below.refl w11.heap.size w11;go_wp2_with fail
    go_roundg (n-(i+1))
    case measure=>have:=HGK.out;omega
    case rel=>exact⟨i+1,k+1,_,_,rfl,by go_num,zo,rfl,by rw[HFS.out];exact OwnR.below ho11 (by go_grown),HX0.out.below (zAa Bz (by go_grown)),zAa (zAa hB Bz) (by go_grown)⟩
  ·obtain rfl:i=n:=zo;have i1:¬(i:Int)<(i:Int):=zo;rw[List.take_of_length_le (by rw[HLN.out];exact Nat.le_refl _)] at ho;have Bz:=Below.refl wr.heap.size wr;obtain⟨pa0,pa1,pa2,pa3,-⟩:=(zxb HX0 Bz).cz;go_wp2_with (at_builtin;refine And.left (b:=True) ?_)
   refine⟨?_,trivial⟩;obtain⟨V11,hW,x1,hN⟩:=zAf wr #[.int .i64 at_,.bool s,.slice A l c,.bool s',.slice A' l' c'] 114;rw[←hW];clear hW;obtain⟨v1,hb1⟩:∃b,b=wr.heap.size:=⟨_,rfl⟩;rw[←hb1] at x1 ⊢;have o0_1:w.heap.size<v1:=zia (zxb HX0 Bz).lt;have ow_1:w.heap.size≤v1:=zia (zw hB Bz);have nv1_own:=OwnR.off' (b:=v1) ho zo;replace ho:=ho.below hN;replace hB:=zAa (zAa hB Bz) hN;replace HX0:=zh ((zxb HX0 Bz).below hN);have HX1:=zh x1;clear x1 hN Bz hb1;have Bz:=Below.refl V11.heap.size V11;clear pa0 pa1 pa2 pa3;have hdr:V11.drew.heap.size=V11.heap.size:=rfl;have hdr2:V11.drew.drew.heap.size=V11.heap.size:=rfl;refine Elt.app elt_term rfl _ _ rfl ((w.heap.size+1)) (.slice H k hc) (k) ((L.filter (offT at_))) rfl ho (.slice (some ⟨v1,0,none⟩) 1 1) (1) ([⟨at_,⟨s,A,c,l,s',A',c',l',q,ex⟩⟩]) rfl (From.one (HX1.out.below (zAa Bz (by go_grown))) (⟨at_,⟨s,A,c,l,s',A',c',l',q,ex⟩⟩) rfl (elt_term.len _)) zo (by have:=(zxb HX0 Bz).lt;have:=hB.size;have:=Bz.size;omega) ?_;intro H11 c11 w11 ho11 hg11;replace hB:=(zAa (zAa hB Bz) (by go_grown)).trans (hg11.below (zia (zw hB Bz)) (fun g hg=>by have:=ho.base g hg;omega));replace HX0:=zh (hg11.bx (zxb HX0 Bz) (ho.off zo));clear HX1;clear hdr hdr2;clear hg11 Bz;have Bz:=Below.refl w11.heap.size w11;go_wp2_with fail
   with_reducible refine(normR_q (gv_put (OwnR.sl' elt_term ho11 (OwnR.eltn elt_term zo ho11)) (HOK.out.below (zAa hB Bz)) (HFA.out.below (zAa hB Bz)) HWS.out (own_cap ho11)) zo zo (zh (Tab.below hT.out (zAa hB (zAa (b:=w11) Bz (by go_grown)))))).mono ?_
   rintro e w12 ⟨A12,n12,c12,rfl,h12,b12⟩;replace b12:=zAa (a:=w11) (by go_grown) b12;replace Bz:=zAa Bz b12;clear b12;go_wp2_with fail
   go_ret
   have hF:=zAa (c:=w12) hB Bz;exact⟨_,_,_,rfl,(NV.below h12 (by go_grown)).mono zo,zAa hF (by go_grown)⟩
theorem AllRn.snoc {w:World} {K:Nat} {L:List Fr} (h:AllRn w K L) {x:Fr} (hx:RN w x.s x.A x.c x.l x.s' x.A' x.c' x.l' x.q∧x.ex=true∧sz x.q+1≤K):AllRn w K (L++[x]):=fun y hy=>by
 rcases List.mem_append.1 hy with hy | hy
 ·exact h y hy
 ·rw[List.mem_singleton.1 hy];exact hx
theorem sameWordsR_any {w:World} {A A':Option Addr} {c c':Nat} {xs ys:List Nat} (h:Nums w A c xs) (h':Nums w A' c' ys) (hl:xs.length≤800000) (hl':ys.length≤800000) (t:Bool) (ht:decide (xs=ys)=t) :
  Calls Tryz.prog 106 #[.slice A xs.length c,.slice A' ys.length c'] w fun e w'=>e=.returned (.bool t)∧Below w.heap.size w w':=by
 by_cases hn:xs.length=ys.length
 ·obtain⟨n,hn1⟩:∃n,n=xs.length:=⟨_,rfl⟩;rw[←hn,←hn1];rw[←hn1] at hl;have g0:((n:Int) !=(n:Int))=false:=by simp
  have H:=zh h;have H':=zh h';have HN:=zh hn;have HN1:=zh hn1;have HT:=zh ht;have hst:EQ1 w xs ys n n (.int .i64 ((0:Nat):Int)) w:=⟨0,Nat.zero_le _,rfl,rfl,Below.refl _ _,fun j hj=>by omega⟩;have HST:=zh hst;clear h h' hn hn1 ht hst hl';go_enter Tryz.func106,Tryz.ntmps106
  go_wp2_with fail
  go_loopg [5] n (fun gk s wr=>EQ1 w xs ys n gk s wr)
  case atStart=>exact HST.out
  case round =>
   clear HST;obtain⟨i,hi,hgk,rfl,hB,hd⟩:=hrel;have HGK:=zh hgk;have HD:=zh hd;clear hgk hd;by_cases hlt:i<n
   ·obtain⟨b1,o1,rfl,e1⟩:=H.out.cells (by rw[←HN1.out];omega);obtain⟨b2,o2,rfl,e2⟩:=H'.out.cells (by rw[←HN.out,←HN1.out];omega);replace e1:=e1 i (by rw[←HN1.out];exact hlt);replace e2:=e2 i (by rw[←HN.out,←HN1.out];exact hlt);obtain⟨d1,h1⟩:∃d,d=dg xs i:=⟨_,rfl⟩;obtain⟨d2,h2⟩:∃d,d=dg ys i:=⟨_,rfl⟩;rw[←h1] at e1;rw[←h2] at e2;have D1:=zh h1;have D2:=zh h2;replace e1:=(hB.cell (World.block_lt_of_cell? w _ e1)).trans e1;replace e2:=(hB.cell (World.block_lt_of_cell? w _ e2)).trans e2;have i1:(i:Int)<(n:Int):=zo;have i2:(0:Int)≤(i:Int):=zo;clear h1 h2;by_cases he:d1=d2
    ·have g1:((d1:Int) !=(d2:Int))=false:=by simp[he]
     have HE:=zh he;clear he;have Bz:=Below.refl wr.heap.size wr;have pB0:=(Bz.cell (World.block_lt_of_cell? wr _ e1)).trans e1;have pC0:=(Bz.cell (World.block_lt_of_cell? wr _ e2)).trans e2;go_wp2_with fail
     (try simp only[List.append_eq,List.cons_append,List.nil_append])
     refine zAb (.take 0 (.take 1 (.take 2 (.take 3 (.take 4 (.take 5 (.take 6 (.take 7 (.take 8 .done))))))))) [] (fun w'=>w'.cell? ⟨b1,o1+i,none⟩=some (.int .u64 (d1:Int))∧w'.cell? ⟨b2,o2+i,none⟩=some (.int .u64 (d2:Int))) (by kernel_rfl) (by kernel_rfl) ⟨pB0,pC0⟩ ?_;iterate 9 (refine zT rfl rfl (fun w' ⟨pB0,pC0⟩=>by go_simp<;>with_reducible rfl) ?_;try simp only[uW,uX,uY,uZ])
     refine zAc ?_;go_wp2_with fail
     go_roundg (n-(i+1))
     case measure=>have:=HGK.out;omega
     case rel=>exact⟨i+1,zo,rfl,by go_num,zAa (zAa hB Bz) (by go_grown),fun j hj=>by
      rcases Nat.lt_or_ge j i with h1 | h1
      ·exact HD.out j h1
      ·obtain rfl:j=i:=zo;rw[←D1.out,←D2.out];exact HE.out⟩
    ·have g1:((d1:Int) !=(d2:Int))=true:=by simp;omega
     have HE:=zh he;clear he;have Bz:=Below.refl wr.heap.size wr;have pB0:=(Bz.cell (World.block_lt_of_cell? wr _ e1)).trans e1;have pC0:=(Bz.cell (World.block_lt_of_cell? wr _ e2)).trans e2;go_wp2_with fail
     (try simp only[List.append_eq,List.cons_append,List.nil_append])
     refine zAb (.take 0 (.take 1 (.take 2 (.take 3 (.take 4 (.take 5 (.take 6 (.take 7 (.take 8 .done))))))))) [] (fun w'=>w'.cell? ⟨b1,o1+i,none⟩=some (.int .u64 (d1:Int))∧w'.cell? ⟨b2,o2+i,none⟩=some (.int .u64 (d2:Int))) (by kernel_rfl) (by kernel_rfl) ⟨pB0,pC0⟩ ?_;iterate 9 (refine zT rfl rfl (fun w' ⟨pB0,pC0⟩=>by go_simp<;>with_reducible rfl) ?_;try simp only[uW,uX,uY,uZ])
     refine zAc ?_;go_wp2_with fail
     go_ret
     have hF:=zAa (c:=wr) hB Bz;obtain rfl:t=false:=by rw[←HT.out];simp;intro e;apply HE.out;rw[D1.out,D2.out,e]
     exact⟨rfl,zAa (zAa hB Bz) (by go_grown)⟩
   ·obtain rfl:i=n:=zo;have i1:¬(i:Int)<(i:Int):=zo;obtain rfl:t=true:=by rw[←HT.out];simp;exact dg_ext HN.out (by rw[←HN1.out];exact HD.out)
    go_wp2_with fail
    go_ret
    exact⟨rfl,hB⟩
 ·obtain rfl:t=false:=by rw[←ht];simp;rintro rfl;exact hn rfl
  have g1:((xs.length:Int) !=(ys.length:Int))=true:=by simp;omega
  clear ht h h' hn;go_enter Tryz.func106,Tryz.ntmps106
  go_wp2_with fail
  go_ret
  exact⟨rfl,Below.refl _ _⟩
theorem sameWordsR_n {w:World} {A A':Option Addr} {c c' l l':Nat} {xs ys:List Nat} (h:Nx w A c l xs) (h':Nx w A' c' l' ys) (hl:l≤800000) (hl':l'≤800000) (t:Bool) (ht:Hid (decide (xs=ys)=t)) :
  Calls Tryz.prog 106 #[.slice A l c,.slice A' l' c'] w fun e w'=>e=.returned (.bool t)∧Below w.heap.size w w':=by
 obtain⟨h1,rfl⟩:=h;obtain⟨h2,rfl⟩:=h';exact sameWordsR_any h1 h2 hl hl' t ht.out
theorem I.inj {w:World} {b:Bool} {A:Option Addr} {c l:Nat} {y z:Int} (h:I w b A c l y) (k:I w b A c l z):y=z:=by
 obtain⟨n,⟨xs,h1,h2,h3⟩,rfl⟩:=h;obtain⟨m,⟨ys,k1,k2,k3⟩,rfl⟩:=k;rw[←h3,←k3,h1.inj k1 (h2.trans k2.symm)]
theorem R.inj {w:World} {s s':Bool} {A A':Option Addr} {c l c' l':Nat} {p q:Rat} {m m':Nat} (h:R w s A c l s' A' c' l' p m) (k:R w s A c l s' A' c' l' q m'):p=q:=by
 obtain⟨n,d,h1,h2,h3,_⟩:=h;obtain⟨n',d',k1,k2,k3,_⟩:=k;rw[h3,k3,h1.inj k1,h2.inj k2]
theorem j_dg {w:World} {b:Bool} {A:Option Addr} {c l:Nat} {z:Int} {xs:List Nat} (h:J w b A c l z) (k:Nx w A c l xs):xs=limbs z.natAbs:=k.1.inj h.1.1 (k.2.trans (by have:=h.1.2;rw[←this];rfl))
theorem rr_pass {w:World} {x y:Fr} {d e:Dg} {m:Nat} (hx:FrOk w m x) (hy:RN w y.s y.A y.c y.l y.s' y.A' y.c' y.l' y.q) (hd:FrD w d x) (he:FrD w e y) (h1:x.s=y.s) (h2:x.s'=y.s') (h3:d.xs=e.xs) (h4:d.xs'=e.xs'):x.ex=true∧x.q=y.q:=by
 have e1:=j_dg hy.1 he.2.2.1;have e2:=j_dg hy.2 he.2.2.2;have l1:x.l=y.l:=by rw[←hd.2.2.1.2,←he.2.2.1.2,h3]
 have l2:x.l'=y.l':=by rw[←hd.2.2.2.2,←he.2.2.2.2,h4]
 have hj:RN w x.s x.A x.c x.l x.s' x.A' x.c' x.l' y.q:=by
  refine⟨⟨⟨?_,?_⟩,?_⟩,⟨⟨?_,?_⟩,?_⟩⟩
  ·rw[←e1,←h3];exact hd.2.2.1.1
  ·rw[l1];exact hy.1.1.2
  ·rw[h1];exact hy.1.2
  ·rw[←e2,←h4];exact hd.2.2.2.1
  ·rw[l2];exact hy.2.1.2
  ·rw[h2];exact hy.2.2
 have hq:x.q=y.q:=hx.r.inj hj.r;refine⟨hx.rn.2 ?_,hq⟩;rw[hq];exact hj
theorem rr_same {w:World} {x y:Fr} {d e:Dg} {m:Nat} (hx:FrOk w m x) (hex:x.ex=true) (hy:RN w y.s y.A y.c y.l y.s' y.A' y.c' y.l' y.q) (hq:x.q=y.q) (hd:FrD w d x) (he:FrD w e y):x.s=y.s∧x.s'=y.s'∧d.xs=e.xs∧d.xs'=e.xs':=by
 have hn:=hx.rn.1 hex;rw[hq] at hn;exact⟨hn.1.2.trans hy.1.2.symm,hn.2.2.trans hy.2.2.symm,(j_dg hn.1 hd.2.2.1).trans (j_dg hy.1 he.2.2.1).symm,(j_dg hn.2 hd.2.2.2).trans (j_dg hy.2 he.2.2.2).symm⟩
def RRi (L Y:List Tm) (kn:Int) (i:Nat):Prop:=∀(j:Nat) x y,j<i→L[j]?=some x→Y[j]?=some y→x.at_=y.at_∧0≤x.at_∧x.at_<kn∧x.x.ex=true∧x.x.q=y.x.q
theorem RRi.step {L Y:List Tm} {kn:Int} {i:Nat} {x y:Tm} (h:RRi L Y kn i) (hx:L[i]?=some x) (hy:Y[i]?=some y) (ha:x.at_=y.at_∧0≤x.at_∧x.at_<kn∧x.x.ex=true∧x.x.q=y.x.q):RRi L Y kn (i+1):=fun j u v hj hu hv=>by
 rcases Nat.lt_or_ge j i with h1 | h1
 ·exact h j u v h1 hu hv
 ·obtain rfl:j=i:=zo;rw[hx,Option.some.injEq] at hu;rw[hy,Option.some.injEq] at hv;rw[←hu,←hv];exact ha
theorem rr_no {w:World} {L Y:List Tm} {kn:Int} {i m:Nat} {x y:Tm} {d e:Dg} {r:Bool} (hr:rightB L kn=r) (hY:prs Y=nrm (prs L)) (hx:L[i]?=some x) (hy:Y[i]?=some y) (fx:FrOk w m x.x) (fy:RN w y.x.s y.x.A y.x.c y.x.l y.x.s' y.x.A' y.x.c' y.x.l' y.x.q) (hd:FrD w d x.x) (he:FrD w e y.x)
  (hn:¬(x.at_=y.at_∧0≤x.at_∧x.at_<kn∧x.x.s=y.x.s∧x.x.s'=y.x.s'∧d.xs=e.xs∧d.xs'=e.xs')):r=false:=by
 rw[←hr];cases h:rightB L kn
 ·rfl
 ·have h1:=rightB_nrm h;have h2:prs Y=prs L:=hY.trans (nrm_eq h1.1 fun a=>rfl);have h3:(prs Y)[i]?=(prs L)[i]?:=by rw[h2]
  rw[prs_get hx,prs_get hy,Option.some.injEq,Prod.mk.injEq] at h3;have h4:=h1.2 x (List.mem_of_getElem? hx);exact absurd ⟨h3.1.symm,h4.1,h4.2.1,rr_same fx h4.2.2 fy h3.2.symm hd he⟩ hn
theorem rr_len {L:List Tm} {kn:Int} {n:Nat} {r:Bool} (hr:rightB L kn=r) (hl:(nrm (prs L)).length=n) (hn:n≠L.length):r=false:=by
 rw[←hr];cases h:rightB L kn
 ·rfl
 ·have h1:=rightB_nrm h;rw[nrm_eq h1.1 fun a=>rfl,prs_len] at hl;exact absurd hl.symm hn
theorem rr_yes {L Y:List Tm} {kn:Int} {i:Nat} {r:Bool} (hr:rightB L kn=r) (hY:prs Y=nrm (prs L)) (hl:L.length=i) (hl':Y.length=i) (h:RRi L Y kn i):r=true:=by
 have h1:prs L=prs Y:=by
  apply List.ext_getElem?
  intro j;rcases Nat.lt_or_ge j i with hj | hj
  ·have e1:L[j]?=some (L[j]'zo):=List.getElem?_eq_getElem _;have e2:Y[j]?=some (Y[j]'zo):=List.getElem?_eq_getElem _;have h2:=h j _ _ hj e1 e2;rw[prs_get e1,prs_get e2,h2.1,h2.2.2.2.2]
  ·rw[List.getElem?_eq_none (by rw[prs_len];omega),List.getElem?_eq_none (by rw[prs_len];omega)]
 rw[←hr];refine rightB_of (by rw[h1,hY];exact nrm_nrm _) fun t ht=>?_;obtain⟨j,hj⟩:=List.getElem?_of_mem ht;have hji:=(List.getElem?_eq_some_iff.1 hj).1;have e2:Y[j]?=some (Y[j]'zo):=List.getElem?_eq_getElem _;have h2:=h j _ _ zo hj e2;exact⟨h2.2.1,h2.2.2.1,h2.2.2.2.1⟩
def RR1 (w W:World) (L Y:List Tm) (kn:Int) (n gk:Nat) (s:Value) (wr:World):Prop:=∃i:Nat,i≤n∧n-i=gk∧s=.int .i64 (i:Int)∧RRi L Y kn i∧Below w.heap.size w wr∧Below W.heap.size W wr
theorem rightR_q {w:World} {X:Option Addr} {n cx M:Nat} {L:List Tm} {kn:Int} (h:GV w X n cx (prs L) M) (hs:Sl Tm.cs 5 w X n cx L) (hok:Hid (∀t∈L,FrOk w 800000 t.x)) (hM:M≤870) (hn:n≤1000) (r:Bool) (hr:Hid (rightB L kn=r)) (hT:Hid (Tab w)) :
  Calls Tryz.prog 42 #[.slice X n cx,.int .i64 kn] w fun e w'=>e=.returned (.bool r)∧Below w.heap.size w w':=by
 have HGX:=zh h;have HSX:=zh hs;have HLN:=zh hs.1;clear h hs;have hB:=Below.refl w.heap.size w;have Bz:=Below.refl w.heap.size w;go_enter Tryz.func42,Tryz.ntmps42
 go_wp2_with fail
 with_reducible refine(normR_q (HGX.out.below (zAa hB (zAa (b:=w) Bz (by go_grown)))) hM zo (zh (Tab.below hT.out (zAa hB (zAa (b:=w) Bz (by go_grown)))))).mono ?_
 rintro e w1 ⟨A1,n1,c1,rfl,h1,b1⟩;replace b1:=zAa (a:=w) (by go_grown) b1;replace Bz:=zAa Bz b1;clear b1;have HV:=zh h1;clear h1;by_cases hnn:n1=n
 ·have hnn2:=hnn.symm;subst hnn2;have g0:((n:Int) !=(n:Int))=false:=by simp
  obtain⟨Y,y1,y2,y3,y4⟩:=HV.out;have HSY:=zh y1;have HLY:=zh y1.1;have HOY:=zh y2;have HYP:=zh y3;clear y1 y2 y3 y4 hnn;go_wp2_with fail
  have HB1:=zh (zAa hB Bz);clear hB Bz HV;go_loopg [6] n (fun gk s wr=>RR1 w w1 L Y kn n gk s wr)
  case atStart=>exact⟨0,Nat.zero_le _,rfl,by go_num,(fun j x y hj=>by omega),zAa HB1.out (by go_grown),by go_grown⟩
  case round =>
   clear HB1;obtain⟨i,hi,hgk,rfl,hrr,hB,hBW⟩:=hrel;have HGK:=zh hgk;have HRR:=zh hrr;clear hgk hrr;by_cases hlt:i<n
   ·obtain⟨b,off,rfl,hel⟩:=HSX.out.at Tm.cs_len zo zo;obtain⟨b',off',rfl,hel'⟩:=HSY.out.at Tm.cs_len zo zo;obtain⟨x,ex⟩:∃x,L[i]?=some x:=⟨L[i]'(by rw[HLN.out];exact hlt),List.getElem?_eq_getElem _⟩;obtain⟨y,ey⟩:∃y,Y[i]?=some y:=⟨Y[i]'(by rw[HLY.out];exact hlt),List.getElem?_eq_getElem _⟩;have hnd:=hel i x ex;have hnd':=hel' i y ey;have HEX:=zh ex;have HEY:=zh ey;have hfx0:=hok.out x (List.mem_of_getElem? ex);have hfy0:=(HOY.out y (List.mem_of_getElem? ey)).1;have hfy1:=(HOY.out.fr (fun _=>Nat.le_refl _)) y (List.mem_of_getElem? ey);have i1:(i:Int)<(n:Int):=zo;have i2:(0:Int)≤(i:Int):=zo;clear hel hel' ex ey;go_upto_region 7 with(fail)
    go_cut [7,8] (fun p q wx=>∃b7 b8:Nat,p=.pointer (some ⟨b7,0,none⟩)∧q=.pointer (some ⟨b8,0,none⟩)∧Bx wx b7 #[.bool x.x.s,.slice x.x.A x.x.l x.x.c,.bool x.x.s',.slice x.x.A' x.x.l' x.x.c'] 50∧Bx wx b8 #[.bool y.x.s,.slice y.x.A y.x.l y.x.c,.bool y.x.s',.slice y.x.A' y.x.l' y.x.c'] 50∧Below w.heap.size w wx∧Below w1.heap.size w1 wx∧b7≠b8)
    case first =>
     have Bz:=Below.refl wr.heap.size wr;obtain⟨-,pA1,pA2,pA3,pA4,-⟩:=(hnd.below (zAa hB Bz)).ez;obtain⟨-,pB1,pB2,pB3,pB4,-⟩:=(hnd'.below (zAa hBW Bz)).ez;go_wp2_with fail
     (try simp only[List.append_eq,List.cons_append,List.nil_append])
     refine zAb (.pure 0 (.pure 1 (.pure 2 (.pure 3 (.take 4 (.pure 5 (.pure 6 (.pure 7 (.pure 8 (.take 9 (.two 10 (.only 11 (.only 12 (.only 13 .done))) 11 (.only 10 (.only 12 (.only 13 .done)))))))))))))) [13] (fun w'=>w'.cell? ⟨b,off+i*5+1,none⟩=some (.bool x.x.s)∧w'.cell? ⟨b,off+i*5+2,none⟩=some (.slice x.x.A x.x.l x.x.c)∧w'.cell? ⟨b,off+i*5+3,none⟩=some (.bool x.x.s')∧w'.cell? ⟨b,off+i*5+4,none⟩=some (.slice x.x.A' x.x.l' x.x.c')∧w'.cell? ⟨b',off'+i*5+1,none⟩=some (.bool y.x.s)∧w'.cell? ⟨b',off'+i*5+2,none⟩=some (.slice y.x.A y.x.l y.x.c)∧w'.cell? ⟨b',off'+i*5+3,none⟩=some (.bool y.x.s')∧w'.cell? ⟨b',off'+i*5+4,none⟩=some (.slice y.x.A' y.x.l' y.x.c')) (by kernel_rfl) (by kernel_rfl) ⟨pA1,pA2,pA3,pA4,pB1,pB2,pB3,pB4⟩ ?_;iterate 4 (refine zP rfl rfl (fun w'=>by go_simp<;>with_reducible rfl) ?_;try simp only[uW,uX,uY,uZ])
     refine zT rfl rfl (fun w' ⟨pA1,pA2,pA3,pA4,pB1,pB2,pB3,pB4⟩=>by go_simp<;>with_reducible rfl) ?_;try simp only[uW,uX,uY,uZ]
     iterate 4 (refine zP rfl rfl (fun w'=>by go_simp<;>with_reducible rfl) ?_;try simp only[uW,uX,uY,uZ])
     refine zT rfl rfl (fun w' ⟨pA1,pA2,pA3,pA4,pB1,pB2,pB3,pB4⟩=>by go_simp<;>with_reducible rfl) ?_;try simp only[uW,uX,uY,uZ]
     refine wpPlan_two (o:=⟨some 7,_,_,_,_,_⟩) (o':=⟨some 8,_,_,_,_,_⟩) rfl rfl rfl rfl (fun K hK=>?_) (fun K hK=>?_)
     ·go_simp
      refine hK.out _ _ ⟨(zAd pA1),(zAd pA2),(zAd pA3),(zAd pA4),(zAd pB1),(zAd pB2),(zAd pB3),(zAd pB4)⟩ (fun _=>?_);try simp only[uW,uX,uY,uZ]
      clear hK K;refine zC 8 rfl rfl (fun K hK=>?_);go_simp
      refine hK.out _ _ ⟨(zAd (zAd pA1)),(zAd (zAd pA2)),(zAd (zAd pA3)),(zAd (zAd pA4)),(zAd (zAd pB1)),(zAd (zAd pB2)),(zAd (zAd pB3)),(zAd (zAd pB4))⟩ (fun _=>?_);try simp only[uW,uX,uY,uZ]
      clear hK K;refine wpPlan_call (o:=⟨none,_,_,_,_,_⟩) rfl rfl (fun K hK=>?_);go_simp
      refine hK.out _ _ ⟨(zAd (zAd pA1)),(zAd (zAd pA2)),(zAd (zAd pA3)),(zAd (zAd pA4)),(zAd (zAd pB1)),(zAd (zAd pB2)),(zAd (zAd pB3)),(zAd (zAd pB4))⟩ (fun _=>?_);try simp only[Act.put,uX,uY,uZ]
      clear hK K;refine zAe (o:=⟨none,_,_,_,_,_⟩) rfl rfl zd (fun K hK=>?_);go_simp
      refine hK.out _ _ ?_;try simp only[Act.put,uX,uY,uZ]
      clear hK K;refine zAc ?_;obtain⟨V11,hW,x0,x1,hN⟩:=boxes2 wr #[.bool x.x.s,.slice x.x.A x.x.l x.x.c,.bool x.x.s',.slice x.x.A' x.x.l' x.x.c'] 50 #[.bool y.x.s,.slice y.x.A y.x.l y.x.c,.bool y.x.s',.slice y.x.A' y.x.l' y.x.c'] 50;rw[←hW];clear hW;obtain⟨v1,hb1⟩:∃b,b=wr.heap.size+1:=⟨_,rfl⟩;rw[←hb1] at x1 ⊢;obtain⟨v0,hb0⟩:∃b,b=wr.heap.size:=⟨_,rfl⟩;rw[←hb0] at x0 ⊢;have ow_0:w.heap.size≤v0:=zia (zw hB Bz);have o0_1:v0<v1:=zo;have ow_1:w.heap.size≤v1:=zia (zw hB Bz);replace hB:=zAa (zAa hB Bz) hN;replace hBW:=zAa (zAa hBW Bz) hN;have HX0:=zh x0;have HX1:=zh x1;clear x0 x1 hN Bz hb0 hb1;have Bz:=Below.refl V11.heap.size V11;clear pA1 pA2 pA3 pA4 pB1 pB2 pB3 pB4;go_wp2_with fail
      go_meet
      case rel=>exact⟨_,_,rfl,rfl,HX0.out.below (zAa Bz (by go_grown)),HX1.out.below (zAa Bz (by go_grown)),zAa (zAa hB Bz) (by go_grown),zAa (zAa hBW Bz) (by go_grown),zo⟩
     ·go_simp
      refine hK.out _ _ ⟨(zAd pA1),(zAd pA2),(zAd pA3),(zAd pA4),(zAd pB1),(zAd pB2),(zAd pB3),(zAd pB4)⟩ (fun _=>?_);try simp only[uW,uX,uY,uZ]
      clear hK K;refine zC 7 rfl rfl (fun K hK=>?_);go_simp
      refine hK.out _ _ ⟨(zAd (zAd pA1)),(zAd (zAd pA2)),(zAd (zAd pA3)),(zAd (zAd pA4)),(zAd (zAd pB1)),(zAd (zAd pB2)),(zAd (zAd pB3)),(zAd (zAd pB4))⟩ (fun _=>?_);try simp only[uW,uX,uY,uZ]
      clear hK K;refine wpPlan_call (o:=⟨none,_,_,_,_,_⟩) rfl rfl (fun K hK=>?_);go_simp
      refine hK.out _ _ ⟨(zAd (zAd pA1)),(zAd (zAd pA2)),(zAd (zAd pA3)),(zAd (zAd pA4)),(zAd (zAd pB1)),(zAd (zAd pB2)),(zAd (zAd pB3)),(zAd (zAd pB4))⟩ (fun _=>?_);try simp only[Act.put,uX,uY,uZ]
      clear hK K;refine zAe (o:=⟨none,_,_,_,_,_⟩) rfl rfl zd (fun K hK=>?_);go_simp
      refine hK.out _ _ ?_;try simp only[Act.put,uX,uY,uZ]
      clear hK K;refine zAc ?_;obtain⟨V11,hW,x0,x1,hN⟩:=boxes2 wr #[.bool y.x.s,.slice y.x.A y.x.l y.x.c,.bool y.x.s',.slice y.x.A' y.x.l' y.x.c'] 50 #[.bool x.x.s,.slice x.x.A x.x.l x.x.c,.bool x.x.s',.slice x.x.A' x.x.l' x.x.c'] 50;rw[←hW];clear hW;obtain⟨v1,hb1⟩:∃b,b=wr.heap.size+1:=⟨_,rfl⟩;rw[←hb1] at x1 ⊢;obtain⟨v0,hb0⟩:∃b,b=wr.heap.size:=⟨_,rfl⟩;rw[←hb0] at x0 ⊢;have ow_0:w.heap.size≤v0:=zia (zw hB Bz);have o0_1:v0<v1:=zo;have ow_1:w.heap.size≤v1:=zia (zw hB Bz);replace hB:=zAa (zAa hB Bz) hN;replace hBW:=zAa (zAa hBW Bz) hN;have HX0:=zh x0;have HX1:=zh x1;clear x0 x1 hN Bz hb0 hb1;have Bz:=Below.refl V11.heap.size V11;clear pA1 pA2 pA3 pA4 pB1 pB2 pB3 pB4;go_wp2_with fail
      go_meet
      case rel=>exact⟨_,_,rfl,rfl,HX1.out.below (zAa Bz (by go_grown)),HX0.out.below (zAa Bz (by go_grown)),zAa (zAa hB Bz) (by go_grown),zAa (zAa hBW Bz) (by go_grown),zo⟩
    case rest =>
     obtain⟨b7,b8,rfl,rfl,hx7,hx8,hB2,hBW2,h78⟩:=hcut;obtain⟨wx,rfl,hB3⟩:∃wx,wx=_∧Below w.heap.size w wx:=⟨_,rfl,hB2⟩;replace hB:=hB3;replace hBW:=hBW2;clear hB2 hB3 hBW2;have HX0:=zh hx7;have HX1:=zh hx8;have hfx:=hfx0.below hB;have hfy:=hfy0.below hBW;obtain⟨d,hd⟩:=hfx.dg;obtain⟨e,he⟩:=(hfy1.below hBW).dg;have HDX:=zh hd;have HDY:=zh he;have HFX:=zh hfx;have HFY:=zh hfy;have q1:=hfx.r.len;have q2:=(hfy1.below hBW).r.len;clear hx7 hx8 hd he hfx hfy hfx0 hfy0 hfy1;by_cases hc:x.at_=y.at_
     rotate_left
     ·have HC:Hid (¬x.at_=y.at_):=zh hc;have g1:(x.at_ != y.at_)=true:=by simpa using hc
      clear hc;have Bz:=Below.refl wx.heap.size wx;have pA0:=(hnd.below (zAa hB Bz)).c0 (u:=.int .i64 x.at_) rfl;have pB0:=(hnd'.below (zAa hBW Bz)).c0 (u:=.int .i64 y.at_) rfl;go_wp2_with fail
      (try simp only[List.append_eq,List.cons_append,List.nil_append])
      refine zAb (.take 0 (.take 1 (.take 2 (.take 3 (.take 4 (.take 5 (.take 6 (.take 7 (.take 8 (.take 9 (.take 10 (.take 11 (.take 12 (.take 13 (.take 14 (.take 15 (.take 16 (.take 17 (.take 18 (.take 19 (.take 20 (.take 21 (.take 22 (.take 23 (.take 24 (.take 25 (.take 26 (.take 27 (.take 28 (.take 29 (.take 30 (.take 31 (.take 32 (.take 33 (.take 34 (.take 35 (.take 36 (.take 37 (.take 38 (.take 39 (.take 40 (.take 41 (.take 42 (.take 43 (.take 44 (.take 45 (.take 46 (.take 47 (.take 48 (.take 49 (.take 50 (.take 51 (.take 52 (.only 53 (.take 54 (.take 55 (.take 56 (.take 57 (.take 58 (.take 59 (.take 60 (.take 61 (.take 62 (.only 63 (.take 64 (.take 65 .done)))))))))))))))))))))))))))))))))))))))))))))))))))))))))))))))))) [] (fun w'=>w'.cell? ⟨b,off+i*5,none⟩=some (.int .i64 x.at_)∧w'.cell? ⟨b',off'+i*5,none⟩=some (.int .i64 y.at_)) (by kernel_rfl) (by kernel_rfl) ⟨pA0,pB0⟩ ?_;iterate 12 (refine zT rfl rfl (fun w' ⟨pA0,pB0⟩=>by go_simp<;>with_reducible rfl) ?_;try simp only[uW,uX,uY,uZ])
      iterate 6 (refine zN rfl rfl ?_;try simp only[uW,uX,uY,uZ])
      iterate 2 (refine zT rfl rfl (fun w' ⟨pA0,pB0⟩=>by go_simp<;>with_reducible rfl) ?_;try simp only[uW,uX,uY,uZ])
      iterate 7 (refine zN rfl rfl ?_;try simp only[uW,uX,uY,uZ])
      iterate 2 (refine zT rfl rfl (fun w' ⟨pA0,pB0⟩=>by go_simp<;>with_reducible rfl) ?_;try simp only[uW,uX,uY,uZ])
      iterate 7 (refine zN rfl rfl ?_;try simp only[uW,uX,uY,uZ])
      iterate 2 (refine zT rfl rfl (fun w' ⟨pA0,pB0⟩=>by go_simp<;>with_reducible rfl) ?_;try simp only[uW,uX,uY,uZ])
      iterate 7 (refine zN rfl rfl ?_;try simp only[uW,uX,uY,uZ])
      iterate 2 (refine zT rfl rfl (fun w' ⟨pA0,pB0⟩=>by go_simp<;>with_reducible rfl) ?_;try simp only[uW,uX,uY,uZ])
      iterate 6 (refine zN rfl rfl ?_;try simp only[uW,uX,uY,uZ])
      refine wpPlan_pass (o:=⟨some 85,_,_,_,_,_⟩) rfl rfl ⟨pA0,pB0⟩ ?_;try simp only[uW,uX,uY,uZ]
      refine zN rfl rfl ?_;try simp only[uW,uX,uY,uZ]
      iterate 2 (refine zT rfl rfl (fun w' ⟨pA0,pB0⟩=>by go_simp<;>with_reducible rfl) ?_;try simp only[uW,uX,uY,uZ])
      iterate 6 (refine zN rfl rfl ?_;try simp only[uW,uX,uY,uZ])
      refine wpPlan_pass (o:=⟨some 95,_,_,_,_,_⟩) rfl rfl ⟨pA0,pB0⟩ ?_;try simp only[uW,uX,uY,uZ]
      refine zN rfl rfl ?_;try simp only[uW,uX,uY,uZ]
      refine zT rfl rfl (fun w' ⟨pA0,pB0⟩=>by go_simp<;>with_reducible rfl) ?_;try simp only[uW,uX,uY,uZ]
      refine zAc ?_;go_wp2_with fail
      go_ret
      have hF:=zAa (c:=wx) hB Bz;obtain rfl:r=false:=rr_no hr.out HYP.out HEX.out HEY.out HFX.out HFY.out HDX.out HDY.out (fun h=>HC.out h.1);exact⟨rfl,zAa hF (by go_grown)⟩
     have HK0:=zh hc;have g1:(x.at_ != y.at_)=false:=by simpa using hc
     clear hc;by_cases hc:0≤x.at_
     rotate_left
     ·have HC:Hid (¬0≤x.at_):=zh hc;have g2:decide (x.at_<0)=true:=decide_eq_true zo;clear hc;have Bz:=Below.refl wx.heap.size wx;have pA0:=(hnd.below (zAa hB Bz)).c0 (u:=.int .i64 x.at_) rfl;have pB0:=(hnd'.below (zAa hBW Bz)).c0 (u:=.int .i64 y.at_) rfl;go_wp2_with fail
      (try simp only[List.append_eq,List.cons_append,List.nil_append])
      refine zAb (.take 0 (.take 1 (.take 2 (.take 3 (.take 4 (.take 5 (.take 6 (.take 7 (.take 8 (.take 9 (.take 10 (.take 11 (.take 12 (.take 13 (.take 14 (.take 15 (.take 16 (.take 17 (.take 18 (.take 19 (.take 20 (.take 21 (.take 22 (.take 23 (.take 24 (.take 25 (.take 26 (.take 27 (.take 28 (.take 29 (.take 30 (.take 31 (.take 32 (.take 33 (.take 34 (.take 35 (.take 36 (.take 37 (.take 38 (.take 39 (.take 40 (.take 41 (.take 42 (.take 43 (.take 44 (.take 45 (.take 46 (.take 47 (.take 48 (.take 49 (.take 50 (.take 51 (.take 52 (.only 53 (.take 54 (.take 55 (.take 56 (.take 57 (.take 58 (.take 59 (.take 60 (.take 61 (.take 62 (.only 63 (.take 64 (.take 65 .done)))))))))))))))))))))))))))))))))))))))))))))))))))))))))))))))))) [] (fun w'=>w'.cell? ⟨b,off+i*5,none⟩=some (.int .i64 x.at_)∧w'.cell? ⟨b',off'+i*5,none⟩=some (.int .i64 y.at_)) (by kernel_rfl) (by kernel_rfl) ⟨pA0,pB0⟩ ?_;iterate 20 (refine zT rfl rfl (fun w' ⟨pA0,pB0⟩=>by go_simp<;>with_reducible rfl) ?_;try simp only[uW,uX,uY,uZ])
      iterate 7 (refine zN rfl rfl ?_;try simp only[uW,uX,uY,uZ])
      iterate 2 (refine zT rfl rfl (fun w' ⟨pA0,pB0⟩=>by go_simp<;>with_reducible rfl) ?_;try simp only[uW,uX,uY,uZ])
      iterate 7 (refine zN rfl rfl ?_;try simp only[uW,uX,uY,uZ])
      iterate 2 (refine zT rfl rfl (fun w' ⟨pA0,pB0⟩=>by go_simp<;>with_reducible rfl) ?_;try simp only[uW,uX,uY,uZ])
      iterate 7 (refine zN rfl rfl ?_;try simp only[uW,uX,uY,uZ])
      iterate 2 (refine zT rfl rfl (fun w' ⟨pA0,pB0⟩=>by go_simp<;>with_reducible rfl) ?_;try simp only[uW,uX,uY,uZ])
      iterate 6 (refine zN rfl rfl ?_;try simp only[uW,uX,uY,uZ])
      refine wpPlan_pass (o:=⟨some 85,_,_,_,_,_⟩) rfl rfl ⟨pA0,pB0⟩ ?_;try simp only[uW,uX,uY,uZ]
      refine zN rfl rfl ?_;try simp only[uW,uX,uY,uZ]
      iterate 2 (refine zT rfl rfl (fun w' ⟨pA0,pB0⟩=>by go_simp<;>with_reducible rfl) ?_;try simp only[uW,uX,uY,uZ])
      iterate 6 (refine zN rfl rfl ?_;try simp only[uW,uX,uY,uZ])
      refine wpPlan_pass (o:=⟨some 95,_,_,_,_,_⟩) rfl rfl ⟨pA0,pB0⟩ ?_;try simp only[uW,uX,uY,uZ]
      refine zN rfl rfl ?_;try simp only[uW,uX,uY,uZ]
      refine zT rfl rfl (fun w' ⟨pA0,pB0⟩=>by go_simp<;>with_reducible rfl) ?_;try simp only[uW,uX,uY,uZ]
      refine zAc ?_;go_wp2_with fail
      go_ret
      have hF:=zAa (c:=wx) hB Bz;obtain rfl:r=false:=rr_no hr.out HYP.out HEX.out HEY.out HFX.out HFY.out HDX.out HDY.out (fun h=>absurd h.2.1 (zia HC.out));exact⟨rfl,zAa hF (by go_grown)⟩
     have HK1:=zh hc;have g2:decide (x.at_<0)=false:=decide_eq_false zo;clear hc;by_cases hc:x.at_<kn
     rotate_left
     ·have HC:Hid (¬x.at_<kn):=zh hc;have g3:decide (kn≤x.at_)=true:=decide_eq_true zo;clear hc;have Bz:=Below.refl wx.heap.size wx;have pA0:=(hnd.below (zAa hB Bz)).c0 (u:=.int .i64 x.at_) rfl;have pB0:=(hnd'.below (zAa hBW Bz)).c0 (u:=.int .i64 y.at_) rfl;go_wp2_with fail
      (try simp only[List.append_eq,List.cons_append,List.nil_append])
      refine zAb (.take 0 (.take 1 (.take 2 (.take 3 (.take 4 (.take 5 (.take 6 (.take 7 (.take 8 (.take 9 (.take 10 (.take 11 (.take 12 (.take 13 (.take 14 (.take 15 (.take 16 (.take 17 (.take 18 (.take 19 (.take 20 (.take 21 (.take 22 (.take 23 (.take 24 (.take 25 (.take 26 (.take 27 (.take 28 (.take 29 (.take 30 (.take 31 (.take 32 (.take 33 (.take 34 (.take 35 (.take 36 (.take 37 (.take 38 (.take 39 (.take 40 (.take 41 (.take 42 (.take 43 (.take 44 (.take 45 (.take 46 (.take 47 (.take 48 (.take 49 (.take 50 (.take 51 (.take 52 (.only 53 (.take 54 (.take 55 (.take 56 (.take 57 (.take 58 (.take 59 (.take 60 (.take 61 (.take 62 (.only 63 (.take 64 (.take 65 .done)))))))))))))))))))))))))))))))))))))))))))))))))))))))))))))))))) [] (fun w'=>w'.cell? ⟨b,off+i*5,none⟩=some (.int .i64 x.at_)∧w'.cell? ⟨b',off'+i*5,none⟩=some (.int .i64 y.at_)) (by kernel_rfl) (by kernel_rfl) ⟨pA0,pB0⟩ ?_;iterate 29 (refine zT rfl rfl (fun w' ⟨pA0,pB0⟩=>by go_simp<;>with_reducible rfl) ?_;try simp only[uW,uX,uY,uZ])
      iterate 7 (refine zN rfl rfl ?_;try simp only[uW,uX,uY,uZ])
      iterate 2 (refine zT rfl rfl (fun w' ⟨pA0,pB0⟩=>by go_simp<;>with_reducible rfl) ?_;try simp only[uW,uX,uY,uZ])
      iterate 7 (refine zN rfl rfl ?_;try simp only[uW,uX,uY,uZ])
      iterate 2 (refine zT rfl rfl (fun w' ⟨pA0,pB0⟩=>by go_simp<;>with_reducible rfl) ?_;try simp only[uW,uX,uY,uZ])
      iterate 6 (refine zN rfl rfl ?_;try simp only[uW,uX,uY,uZ])
      refine wpPlan_pass (o:=⟨some 85,_,_,_,_,_⟩) rfl rfl ⟨pA0,pB0⟩ ?_;try simp only[uW,uX,uY,uZ]
      refine zN rfl rfl ?_;try simp only[uW,uX,uY,uZ]
      iterate 2 (refine zT rfl rfl (fun w' ⟨pA0,pB0⟩=>by go_simp<;>with_reducible rfl) ?_;try simp only[uW,uX,uY,uZ])
      iterate 6 (refine zN rfl rfl ?_;try simp only[uW,uX,uY,uZ])
      refine wpPlan_pass (o:=⟨some 95,_,_,_,_,_⟩) rfl rfl ⟨pA0,pB0⟩ ?_;try simp only[uW,uX,uY,uZ]
      refine zN rfl rfl ?_;try simp only[uW,uX,uY,uZ]
      refine zT rfl rfl (fun w' ⟨pA0,pB0⟩=>by go_simp<;>with_reducible rfl) ?_;try simp only[uW,uX,uY,uZ]
      refine zAc ?_;go_wp2_with fail
      go_ret
      have hF:=zAa (c:=wx) hB Bz;obtain rfl:r=false:=rr_no hr.out HYP.out HEX.out HEY.out HFX.out HFY.out HDX.out HDY.out (fun h=>absurd h.2.2.1 (zia HC.out));exact⟨rfl,zAa hF (by go_grown)⟩
     have HK2:=zh hc;have g3:decide (kn≤x.at_)=false:=decide_eq_false zo;clear hc;by_cases hc:x.x.s=y.x.s
     rotate_left
     ·have HC:Hid (¬x.x.s=y.x.s):=zh hc;have g4:(x.x.s==y.x.s)=false:=by simpa using hc
      clear hc;have Bz:=Below.refl wx.heap.size wx;have pa0:=(zxb HX0 Bz).cell 0 (.bool x.x.s) rfl;have pb0:=(zxb HX1 Bz).cell 0 (.bool y.x.s) rfl;have pA0:=(hnd.below (zAa hB Bz)).c0 (u:=.int .i64 x.at_) rfl;have pB0:=(hnd'.below (zAa hBW Bz)).c0 (u:=.int .i64 y.at_) rfl;go_wp2_with fail
      (try simp only[List.append_eq,List.cons_append,List.nil_append])
      refine zAb (.take 0 (.take 1 (.take 2 (.take 3 (.take 4 (.take 5 (.take 6 (.take 7 (.take 8 (.take 9 (.take 10 (.take 11 (.take 12 (.take 13 (.take 14 (.take 15 (.take 16 (.take 17 (.take 18 (.take 19 (.take 20 (.take 21 (.take 22 (.take 23 (.take 24 (.take 25 (.take 26 (.take 27 (.take 28 (.take 29 (.take 30 (.take 31 (.take 32 (.take 33 (.take 34 (.take 35 (.take 36 (.take 37 (.take 38 (.take 39 (.take 40 (.take 41 (.take 42 (.take 43 (.take 44 (.take 45 (.take 46 (.take 47 (.take 48 (.take 49 (.take 50 (.take 51 (.take 52 (.only 53 (.take 54 (.take 55 (.take 56 (.take 57 (.take 58 (.take 59 (.take 60 (.take 61 (.take 62 (.only 63 (.take 64 (.take 65 .done)))))))))))))))))))))))))))))))))))))))))))))))))))))))))))))))))) [] (fun w'=>w'.cell? ⟨b7,0,none⟩=some (.bool x.x.s)∧w'.cell? ⟨b8,0,none⟩=some (.bool y.x.s)∧w'.cell? ⟨b,off+i*5,none⟩=some (.int .i64 x.at_)∧w'.cell? ⟨b',off'+i*5,none⟩=some (.int .i64 y.at_)) (by kernel_rfl) (by kernel_rfl) ⟨pa0,pb0,pA0,pB0⟩ ?_;iterate 38 (refine zT rfl rfl (fun w' ⟨pa0,pb0,pA0,pB0⟩=>by go_simp<;>with_reducible rfl) ?_;try simp only[uW,uX,uY,uZ])
      iterate 7 (refine zN rfl rfl ?_;try simp only[uW,uX,uY,uZ])
      iterate 2 (refine zT rfl rfl (fun w' ⟨pa0,pb0,pA0,pB0⟩=>by go_simp<;>with_reducible rfl) ?_;try simp only[uW,uX,uY,uZ])
      iterate 6 (refine zN rfl rfl ?_;try simp only[uW,uX,uY,uZ])
      refine wpPlan_pass (o:=⟨some 85,_,_,_,_,_⟩) rfl rfl ⟨pa0,pb0,pA0,pB0⟩ ?_;try simp only[uW,uX,uY,uZ]
      refine zN rfl rfl ?_;try simp only[uW,uX,uY,uZ]
      iterate 2 (refine zT rfl rfl (fun w' ⟨pa0,pb0,pA0,pB0⟩=>by go_simp<;>with_reducible rfl) ?_;try simp only[uW,uX,uY,uZ])
      iterate 6 (refine zN rfl rfl ?_;try simp only[uW,uX,uY,uZ])
      refine wpPlan_pass (o:=⟨some 95,_,_,_,_,_⟩) rfl rfl ⟨pa0,pb0,pA0,pB0⟩ ?_;try simp only[uW,uX,uY,uZ]
      refine zN rfl rfl ?_;try simp only[uW,uX,uY,uZ]
      refine zT rfl rfl (fun w' ⟨pa0,pb0,pA0,pB0⟩=>by go_simp<;>with_reducible rfl) ?_;try simp only[uW,uX,uY,uZ]
      refine zAc ?_;go_wp2_with fail
      go_ret
      have hF:=zAa (c:=wx) hB Bz;obtain rfl:r=false:=rr_no hr.out HYP.out HEX.out HEY.out HFX.out HFY.out HDX.out HDY.out (fun h=>HC.out h.2.2.2.1);exact⟨rfl,zAa hF (by go_grown)⟩
     have HK3:=zh hc;rw[←hc] at HX1;clear hc;by_cases hc:x.x.s'=y.x.s'
     rotate_left
     ·have HC:Hid (¬x.x.s'=y.x.s'):=zh hc;have g5:(x.x.s'==y.x.s')=false:=by simpa using hc
      clear hc;have Bz:=Below.refl wx.heap.size wx;obtain⟨pa0,-,pa2,-⟩:=(zxb HX0 Bz).cz;obtain⟨pb0,-,pb2,-⟩:=(zxb HX1 Bz).cz;have pA0:=(hnd.below (zAa hB Bz)).c0 (u:=.int .i64 x.at_) rfl;have pB0:=(hnd'.below (zAa hBW Bz)).c0 (u:=.int .i64 y.at_) rfl;go_wp2_with fail
      (try simp only[List.append_eq,List.cons_append,List.nil_append])
      refine zAb (.take 0 (.take 1 (.take 2 (.take 3 (.take 4 (.take 5 (.take 6 (.take 7 (.take 8 (.take 9 (.take 10 (.take 11 (.take 12 (.take 13 (.take 14 (.take 15 (.take 16 (.take 17 (.take 18 (.take 19 (.take 20 (.take 21 (.take 22 (.take 23 (.take 24 (.take 25 (.take 26 (.take 27 (.take 28 (.take 29 (.take 30 (.take 31 (.take 32 (.take 33 (.take 34 (.take 35 (.take 36 (.take 37 (.take 38 (.take 39 (.take 40 (.take 41 (.take 42 (.take 43 (.take 44 (.take 45 (.take 46 (.take 47 (.take 48 (.take 49 (.take 50 (.take 51 (.take 52 (.only 53 (.take 54 (.take 55 (.take 56 (.take 57 (.take 58 (.take 59 (.take 60 (.take 61 (.take 62 (.only 63 (.take 64 (.take 65 .done)))))))))))))))))))))))))))))))))))))))))))))))))))))))))))))))))) [] (fun w'=>w'.cell? ⟨b7,0,none⟩=some (.bool x.x.s)∧w'.cell? ⟨b7,2,none⟩=some (.bool x.x.s')∧w'.cell? ⟨b8,0,none⟩=some (.bool x.x.s)∧w'.cell? ⟨b8,2,none⟩=some (.bool y.x.s')∧w'.cell? ⟨b,off+i*5,none⟩=some (.int .i64 x.at_)∧w'.cell? ⟨b',off'+i*5,none⟩=some (.int .i64 y.at_)) (by kernel_rfl) (by kernel_rfl) ⟨pa0,pa2,pb0,pb2,pA0,pB0⟩ ?_;iterate 47 (refine zT rfl rfl (fun w' ⟨pa0,pa2,pb0,pb2,pA0,pB0⟩=>by go_simp<;>with_reducible rfl) ?_;try simp only[uW,uX,uY,uZ])
      iterate 6 (refine zN rfl rfl ?_;try simp only[uW,uX,uY,uZ])
      refine wpPlan_pass (o:=⟨some 85,_,_,_,_,_⟩) rfl rfl ⟨pa0,pa2,pb0,pb2,pA0,pB0⟩ ?_;try simp only[uW,uX,uY,uZ]
      refine zN rfl rfl ?_;try simp only[uW,uX,uY,uZ]
      iterate 2 (refine zT rfl rfl (fun w' ⟨pa0,pa2,pb0,pb2,pA0,pB0⟩=>by go_simp<;>with_reducible rfl) ?_;try simp only[uW,uX,uY,uZ])
      iterate 6 (refine zN rfl rfl ?_;try simp only[uW,uX,uY,uZ])
      refine wpPlan_pass (o:=⟨some 95,_,_,_,_,_⟩) rfl rfl ⟨pa0,pa2,pb0,pb2,pA0,pB0⟩ ?_;try simp only[uW,uX,uY,uZ]
      refine zN rfl rfl ?_;try simp only[uW,uX,uY,uZ]
      refine zT rfl rfl (fun w' ⟨pa0,pa2,pb0,pb2,pA0,pB0⟩=>by go_simp<;>with_reducible rfl) ?_;try simp only[uW,uX,uY,uZ]
      refine zAc ?_;go_wp2_with fail
      go_ret
      have hF:=zAa (c:=wx) hB Bz;obtain rfl:r=false:=rr_no hr.out HYP.out HEX.out HEY.out HFX.out HFY.out HDX.out HDY.out (fun h=>HC.out h.2.2.2.2.1);exact⟨rfl,zAa hF (by go_grown)⟩
     have HK4:=zh hc;rw[←hc] at HX1;clear hc;by_cases hc:d.xs=e.xs
     rotate_left
     ·have HC:Hid (¬d.xs=e.xs):=zh hc;have HW1:Hid (decide (d.xs=e.xs)=false):=zh (decide_eq_false hc);clear hc;have Bz:=Below.refl wx.heap.size wx;obtain⟨pa0,pa1,pa2,-⟩:=(zxb HX0 Bz).cz;obtain⟨pb0,pb1,pb2,-⟩:=(zxb HX1 Bz).cz;have pA0:=(hnd.below (zAa hB Bz)).c0 (u:=.int .i64 x.at_) rfl;have pB0:=(hnd'.below (zAa hBW Bz)).c0 (u:=.int .i64 y.at_) rfl;go_wp2_with fail
      (try simp only[List.append_eq,List.cons_append,List.nil_append])
      refine zAb (.take 0 (.take 1 (.take 2 (.take 3 (.take 4 (.take 5 (.take 6 (.take 7 (.take 8 (.take 9 (.take 10 (.take 11 (.take 12 (.take 13 (.take 14 (.take 15 (.take 16 (.take 17 (.take 18 (.take 19 (.take 20 (.take 21 (.take 22 (.take 23 (.take 24 (.take 25 (.take 26 (.take 27 (.take 28 (.take 29 (.take 30 (.take 31 (.take 32 (.take 33 (.take 34 (.take 35 (.take 36 (.take 37 (.take 38 (.take 39 (.take 40 (.take 41 (.take 42 (.take 43 (.take 44 (.take 45 (.take 46 (.take 47 (.take 48 (.take 49 (.take 50 (.take 51 (.take 52 (.only 53 (.take 54 (.take 55 (.take 56 (.take 57 (.take 58 (.take 59 (.take 60 (.take 61 (.take 62 (.only 63 (.take 64 (.take 65 .done)))))))))))))))))))))))))))))))))))))))))))))))))))))))))))))))))) [] (fun w'=>w'.cell? ⟨b7,0,none⟩=some (.bool x.x.s)∧w'.cell? ⟨b7,1,none⟩=some (.slice x.x.A x.x.l x.x.c)∧w'.cell? ⟨b7,2,none⟩=some (.bool x.x.s')∧w'.cell? ⟨b8,0,none⟩=some (.bool x.x.s)∧w'.cell? ⟨b8,1,none⟩=some (.slice y.x.A y.x.l y.x.c)∧w'.cell? ⟨b8,2,none⟩=some (.bool x.x.s')∧w'.cell? ⟨b,off+i*5,none⟩=some (.int .i64 x.at_)∧w'.cell? ⟨b',off'+i*5,none⟩=some (.int .i64 y.at_)) (by kernel_rfl) (by kernel_rfl) ⟨pa0,pa1,pa2,pb0,pb1,pb2,pA0,pB0⟩ ?_;iterate 53 (refine zT rfl rfl (fun w' ⟨pa0,pa1,pa2,pb0,pb1,pb2,pA0,pB0⟩=>by go_simp<;>with_reducible rfl) ?_;try simp only[uW,uX,uY,uZ])
      refine zC 85 rfl rfl (fun K hK=>?_);go_simp
      with_reducible refine(sameWordsR_n (FrD.below HDX.out (zAa Bz (by go_grown))).n1 (FrD.below HDY.out (zAa Bz (by go_grown))).n1 zo zo false HW1).mono ?_
      rintro e w11 ⟨rfl,b11⟩;replace b11:=zAa (a:=wx) (by go_grown) b11;replace Bz:=zAa Bz b11;clear b11;clear pa0 pa1 pa2 pb0 pb1 pb2 pA0 pB0;obtain⟨pa0,pa1,pa2,-⟩:=(zxb HX0 Bz).cz;obtain⟨pb0,pb1,pb2,-⟩:=(zxb HX1 Bz).cz;have pA0:=(hnd.below (zAa hB Bz)).c0 (u:=.int .i64 x.at_) rfl;have pB0:=(hnd'.below (zAa hBW Bz)).c0 (u:=.int .i64 y.at_) rfl;refine hK.out _ _ ⟨pa0,pa1,pa2,pb0,pb1,pb2,pA0,pB0⟩ (fun _=>?_);try simp only[uW,uX,uY,uZ]
      clear hK K;iterate 3 (refine zT rfl rfl (fun w' ⟨pa0,pa1,pa2,pb0,pb1,pb2,pA0,pB0⟩=>by go_simp<;>with_reducible rfl) ?_;try simp only[uW,uX,uY,uZ])
      iterate 6 (refine zN rfl rfl ?_;try simp only[uW,uX,uY,uZ])
      refine wpPlan_pass (o:=⟨some 95,_,_,_,_,_⟩) rfl rfl ⟨pa0,pa1,pa2,pb0,pb1,pb2,pA0,pB0⟩ ?_;try simp only[uW,uX,uY,uZ]
      refine zN rfl rfl ?_;try simp only[uW,uX,uY,uZ]
      refine zT rfl rfl (fun w' ⟨pa0,pa1,pa2,pb0,pb1,pb2,pA0,pB0⟩=>by go_simp<;>with_reducible rfl) ?_;try simp only[uW,uX,uY,uZ]
      refine zAc ?_;go_wp2_with fail
      go_ret
      have hF:=zAa (c:=w11) hB Bz;obtain rfl:r=false:=rr_no hr.out HYP.out HEX.out HEY.out HFX.out HFY.out HDX.out HDY.out (fun h=>of_decide_eq_false HW1.out h.2.2.2.2.2.1);exact⟨rfl,zAa hF (by go_grown)⟩
     have HK5:=zh hc;have HW1:Hid (decide (d.xs=e.xs)=true):=zh (decide_eq_true hc);clear hc;by_cases hc:d.xs'=e.xs'
     rotate_left
     ·have HC:Hid (¬d.xs'=e.xs'):=zh hc;have HW2:Hid (decide (d.xs'=e.xs')=false):=zh (decide_eq_false hc);clear hc;have Bz:=Below.refl wx.heap.size wx;obtain⟨pa0,pa1,pa2,pa3,-⟩:=(zxb HX0 Bz).cz;obtain⟨pb0,pb1,pb2,pb3,-⟩:=(zxb HX1 Bz).cz;have pA0:=(hnd.below (zAa hB Bz)).c0 (u:=.int .i64 x.at_) rfl;have pB0:=(hnd'.below (zAa hBW Bz)).c0 (u:=.int .i64 y.at_) rfl;go_wp2_with fail
      (try simp only[List.append_eq,List.cons_append,List.nil_append])
      refine zAb (.take 0 (.take 1 (.take 2 (.take 3 (.take 4 (.take 5 (.take 6 (.take 7 (.take 8 (.take 9 (.take 10 (.take 11 (.take 12 (.take 13 (.take 14 (.take 15 (.take 16 (.take 17 (.take 18 (.take 19 (.take 20 (.take 21 (.take 22 (.take 23 (.take 24 (.take 25 (.take 26 (.take 27 (.take 28 (.take 29 (.take 30 (.take 31 (.take 32 (.take 33 (.take 34 (.take 35 (.take 36 (.take 37 (.take 38 (.take 39 (.take 40 (.take 41 (.take 42 (.take 43 (.take 44 (.take 45 (.take 46 (.take 47 (.take 48 (.take 49 (.take 50 (.take 51 (.take 52 (.only 53 (.take 54 (.take 55 (.take 56 (.take 57 (.take 58 (.take 59 (.take 60 (.take 61 (.take 62 (.only 63 (.take 64 (.take 65 .done)))))))))))))))))))))))))))))))))))))))))))))))))))))))))))))))))) [] (fun w'=>w'.cell? ⟨b7,0,none⟩=some (.bool x.x.s)∧w'.cell? ⟨b7,1,none⟩=some (.slice x.x.A x.x.l x.x.c)∧w'.cell? ⟨b7,2,none⟩=some (.bool x.x.s')∧w'.cell? ⟨b7,3,none⟩=some (.slice x.x.A' x.x.l' x.x.c')∧w'.cell? ⟨b8,0,none⟩=some (.bool x.x.s)∧w'.cell? ⟨b8,1,none⟩=some (.slice y.x.A y.x.l y.x.c)∧w'.cell? ⟨b8,2,none⟩=some (.bool x.x.s')∧w'.cell? ⟨b8,3,none⟩=some (.slice y.x.A' y.x.l' y.x.c')∧w'.cell? ⟨b,off+i*5,none⟩=some (.int .i64 x.at_)∧w'.cell? ⟨b',off'+i*5,none⟩=some (.int .i64 y.at_)) (by kernel_rfl) (by kernel_rfl) ⟨pa0,pa1,pa2,pa3,pb0,pb1,pb2,pb3,pA0,pB0⟩ ?_;iterate 53 (refine zT rfl rfl (fun w' ⟨pa0,pa1,pa2,pa3,pb0,pb1,pb2,pb3,pA0,pB0⟩=>by go_simp<;>with_reducible rfl) ?_;try simp only[uW,uX,uY,uZ])
      refine zC 85 rfl rfl (fun K hK=>?_);go_simp
      with_reducible refine(sameWordsR_n (FrD.below HDX.out (zAa Bz (by go_grown))).n1 (FrD.below HDY.out (zAa Bz (by go_grown))).n1 zo zo true HW1).mono ?_
      rintro e w11 ⟨rfl,b11⟩;replace b11:=zAa (a:=wx) (by go_grown) b11;replace Bz:=zAa Bz b11;clear b11;clear pa0 pa1 pa2 pa3 pb0 pb1 pb2 pb3 pA0 pB0;obtain⟨pa0,pa1,pa2,pa3,-⟩:=(zxb HX0 Bz).cz;obtain⟨pb0,pb1,pb2,pb3,-⟩:=(zxb HX1 Bz).cz;have pA0:=(hnd.below (zAa hB Bz)).c0 (u:=.int .i64 x.at_) rfl;have pB0:=(hnd'.below (zAa hBW Bz)).c0 (u:=.int .i64 y.at_) rfl;refine hK.out _ _ ⟨pa0,pa1,pa2,pa3,pb0,pb1,pb2,pb3,pA0,pB0⟩ (fun _=>?_);try simp only[uW,uX,uY,uZ]
      clear hK K;iterate 9 (refine zT rfl rfl (fun w' ⟨pa0,pa1,pa2,pa3,pb0,pb1,pb2,pb3,pA0,pB0⟩=>by go_simp<;>with_reducible rfl) ?_;try simp only[uW,uX,uY,uZ])
      refine zC 95 rfl rfl (fun K hK=>?_);go_simp
      with_reducible refine(sameWordsR_n (FrD.below HDX.out (zAa Bz (by go_grown))).n2 (FrD.below HDY.out (zAa Bz (by go_grown))).n2 zo zo false HW2).mono ?_
      rintro e w12 ⟨rfl,b12⟩;replace b12:=zAa (a:=w11) (by go_grown) b12;replace Bz:=zAa Bz b12;clear b12;clear pa0 pa1 pa2 pa3 pb0 pb1 pb2 pb3 pA0 pB0;obtain⟨pa0,pa1,pa2,pa3,-⟩:=(zxb HX0 Bz).cz;obtain⟨pb0,pb1,pb2,pb3,-⟩:=(zxb HX1 Bz).cz;have pA0:=(hnd.below (zAa hB Bz)).c0 (u:=.int .i64 x.at_) rfl;have pB0:=(hnd'.below (zAa hBW Bz)).c0 (u:=.int .i64 y.at_) rfl;refine hK.out _ _ ⟨pa0,pa1,pa2,pa3,pb0,pb1,pb2,pb3,pA0,pB0⟩ (fun _=>?_);try simp only[uW,uX,uY,uZ]
      clear hK K;iterate 2 (refine zT rfl rfl (fun w' ⟨pa0,pa1,pa2,pa3,pb0,pb1,pb2,pb3,pA0,pB0⟩=>by go_simp<;>with_reducible rfl) ?_;try simp only[uW,uX,uY,uZ])
      refine zAc ?_;go_wp2_with fail
      go_ret
      have hF:=zAa (c:=w12) hB Bz;obtain rfl:r=false:=rr_no hr.out HYP.out HEX.out HEY.out HFX.out HFY.out HDX.out HDY.out (fun h=>of_decide_eq_false HW2.out h.2.2.2.2.2.2);exact⟨rfl,zAa hF (by go_grown)⟩
     have HK6:=zh hc;have HW2:Hid (decide (d.xs'=e.xs')=true):=zh (decide_eq_true hc);clear hc;have HAL:=zh (And.intro HK0.out (And.intro HK1.out (And.intro HK2.out (rr_pass HFX.out HFY.out HDX.out HDY.out HK3.out HK4.out HK5.out HK6.out))));have Bz:=Below.refl wx.heap.size wx;obtain⟨pa0,pa1,pa2,pa3,-⟩:=(zxb HX0 Bz).cz;obtain⟨pb0,pb1,pb2,pb3,-⟩:=(zxb HX1 Bz).cz;have pA0:=(hnd.below (zAa hB Bz)).c0 (u:=.int .i64 x.at_) rfl;have pB0:=(hnd'.below (zAa hBW Bz)).c0 (u:=.int .i64 y.at_) rfl;go_wp2_with fail
     (try simp only[List.append_eq,List.cons_append,List.nil_append])
     refine zAb (.take 0 (.take 1 (.take 2 (.take 3 (.take 4 (.take 5 (.take 6 (.take 7 (.take 8 (.take 9 (.take 10 (.take 11 (.take 12 (.take 13 (.take 14 (.take 15 (.take 16 (.take 17 (.take 18 (.take 19 (.take 20 (.take 21 (.take 22 (.take 23 (.take 24 (.take 25 (.take 26 (.take 27 (.take 28 (.take 29 (.take 30 (.take 31 (.take 32 (.take 33 (.take 34 (.take 35 (.take 36 (.take 37 (.take 38 (.take 39 (.take 40 (.take 41 (.take 42 (.take 43 (.take 44 (.take 45 (.take 46 (.take 47 (.take 48 (.take 49 (.take 50 (.take 51 (.take 52 (.only 53 (.take 54 (.take 55 (.take 56 (.take 57 (.take 58 (.take 59 (.take 60 (.take 61 (.take 62 (.only 63 (.take 64 (.take 65 .done)))))))))))))))))))))))))))))))))))))))))))))))))))))))))))))))))) [] (fun w'=>w'.cell? ⟨b7,0,none⟩=some (.bool x.x.s)∧w'.cell? ⟨b7,1,none⟩=some (.slice x.x.A x.x.l x.x.c)∧w'.cell? ⟨b7,2,none⟩=some (.bool x.x.s')∧w'.cell? ⟨b7,3,none⟩=some (.slice x.x.A' x.x.l' x.x.c')∧w'.cell? ⟨b8,0,none⟩=some (.bool x.x.s)∧w'.cell? ⟨b8,1,none⟩=some (.slice y.x.A y.x.l y.x.c)∧w'.cell? ⟨b8,2,none⟩=some (.bool x.x.s')∧w'.cell? ⟨b8,3,none⟩=some (.slice y.x.A' y.x.l' y.x.c')∧w'.cell? ⟨b,off+i*5,none⟩=some (.int .i64 x.at_)∧w'.cell? ⟨b',off'+i*5,none⟩=some (.int .i64 y.at_)) (by kernel_rfl) (by kernel_rfl) ⟨pa0,pa1,pa2,pa3,pb0,pb1,pb2,pb3,pA0,pB0⟩ ?_;iterate 53 (refine zT rfl rfl (fun w' ⟨pa0,pa1,pa2,pa3,pb0,pb1,pb2,pb3,pA0,pB0⟩=>by go_simp<;>with_reducible rfl) ?_;try simp only[uW,uX,uY,uZ])
     refine zC 85 rfl rfl (fun K hK=>?_);go_simp
     with_reducible refine(sameWordsR_n (FrD.below HDX.out (zAa Bz (by go_grown))).n1 (FrD.below HDY.out (zAa Bz (by go_grown))).n1 zo zo true HW1).mono ?_
     rintro e w11 ⟨rfl,b11⟩;replace b11:=zAa (a:=wx) (by go_grown) b11;replace Bz:=zAa Bz b11;clear b11;clear pa0 pa1 pa2 pa3 pb0 pb1 pb2 pb3 pA0 pB0;obtain⟨pa0,pa1,pa2,pa3,-⟩:=(zxb HX0 Bz).cz;obtain⟨pb0,pb1,pb2,pb3,-⟩:=(zxb HX1 Bz).cz;have pA0:=(hnd.below (zAa hB Bz)).c0 (u:=.int .i64 x.at_) rfl;have pB0:=(hnd'.below (zAa hBW Bz)).c0 (u:=.int .i64 y.at_) rfl;refine hK.out _ _ ⟨pa0,pa1,pa2,pa3,pb0,pb1,pb2,pb3,pA0,pB0⟩ (fun _=>?_);try simp only[uW,uX,uY,uZ]
     clear hK K;iterate 9 (refine zT rfl rfl (fun w' ⟨pa0,pa1,pa2,pa3,pb0,pb1,pb2,pb3,pA0,pB0⟩=>by go_simp<;>with_reducible rfl) ?_;try simp only[uW,uX,uY,uZ])
     refine zC 95 rfl rfl (fun K hK=>?_);go_simp
     with_reducible refine(sameWordsR_n (FrD.below HDX.out (zAa Bz (by go_grown))).n2 (FrD.below HDY.out (zAa Bz (by go_grown))).n2 zo zo true HW2).mono ?_
     rintro e w12 ⟨rfl,b12⟩;replace b12:=zAa (a:=w11) (by go_grown) b12;replace Bz:=zAa Bz b12;clear b12;clear pa0 pa1 pa2 pa3 pb0 pb1 pb2 pb3 pA0 pB0;obtain⟨pa0,pa1,pa2,pa3,-⟩:=(zxb HX0 Bz).cz;obtain⟨pb0,pb1,pb2,pb3,-⟩:=(zxb HX1 Bz).cz;have pA0:=(hnd.below (zAa hB Bz)).c0 (u:=.int .i64 x.at_) rfl;have pB0:=(hnd'.below (zAa hBW Bz)).c0 (u:=.int .i64 y.at_) rfl;refine hK.out _ _ ⟨pa0,pa1,pa2,pa3,pb0,pb1,pb2,pb3,pA0,pB0⟩ (fun _=>?_);try simp only[uW,uX,uY,uZ]
     clear hK K;iterate 2 (refine zT rfl rfl (fun w' ⟨pa0,pa1,pa2,pa3,pb0,pb1,pb2,pb3,pA0,pB0⟩=>by go_simp<;>with_reducible rfl) ?_;try simp only[uW,uX,uY,uZ])
     refine zAc ?_;go_wp2_with fail
     go_roundg (n-(i+1))
     case measure=>have:=HGK.out;omega
     case rel=>exact⟨i+1,zo,rfl,by go_num,HRR.out.step HEX.out HEY.out HAL.out,zAa (zAa hB Bz) (by go_grown),zAa (zAa hBW Bz) (by go_grown)⟩
   ·obtain rfl:i=n:=zo;have i1:¬(i:Int)<(i:Int):=zo;obtain rfl:r=true:=rr_yes hr.out HYP.out HLN.out HLY.out HRR.out;have Bz:=Below.refl wr.heap.size wr;go_wp2_with fail
    go_ret
    have hF:=zAa (c:=wr) hB Bz;exact⟨rfl,zAa hF (by go_grown)⟩
 ·have g0:((n1:Int) !=(n:Int))=true:=by simp;omega
  obtain rfl:r=false:=rr_len hr.out HV.out.len (by rw[HLN.out];exact hnn);go_wp2_with fail
  go_ret
  have hF:=zAa (c:=w1) hB Bz;exact⟨rfl,zAa hF (by go_grown)⟩
open Go.RowKit Tw
theorem permL_def {L:List Int}:permL L=true↔L.Nodup∧∀x∈L,0≤x∧x<(L.length:Int):=by
 unfold permL
 simp only[Bool.and_eq_true,decide_eq_true_eq,List.all_eq_true]
theorem permL_count {L:List Int}:permL L=true↔∀m:Nat,m<L.length→L.count (m:Int)=1:=by
 constructor
 ·intro h m hm;obtain⟨i,hi⟩:=perm_onto h hm;have h1:=List.nodup_iff_count.1 (permL_def.1 h).1 (m:Int);have h2:=List.one_le_count_iff.2 (List.mem_of_getElem? hi);omega
 ·intro h;have hr:∀x∈L,0≤x∧x<(L.length:Int):=fun x hx=>Classical.byContradiction fun hc=>by
   have h1:(x ::(List.range L.length).map fun(i:Nat)=>(i:Int)).Nodup:=by
    refine List.nodup_cons.2 ⟨fun hm=>hc ?_,?_⟩
    ·obtain⟨i,hi,rfl⟩:=List.mem_map.1 hm;have:=List.mem_range.1 hi;omega
    ·exact List.Pairwise.map _ (fun a b hab=>by omega) (List.nodup_range (n:=L.length))
   have h2:=nodup_len h1 (S:=L) fun y hy=>by
    rcases List.mem_cons.1 hy with rfl | hy
    ·exact hx
    ·obtain⟨i,hi,rfl⟩:=List.mem_map.1 hy;exact List.one_le_count_iff.1 (by rw[h i (List.mem_range.1 hi)];exact Nat.le_refl _)
   rw[List.length_cons,List.length_map,List.length_range] at h2;omega
  refine permL_def.2 ⟨List.nodup_iff_count.2 fun a=>?_,hr⟩;by_cases ha:a∈L
  ·have h1:=hr a ha;have h2:=h a.toNat zo;rw[show((a.toNat:Nat):Int)=a by omega] at h2;omega
  ·rw[List.count_eq_zero.2 ha];omega
theorem count_step {L:List Int} {i:Nat} {x a:Int} (h:L[i]?=some x):(L.take (i+1)).count a=(L.take i).count a+if x=a then 1 else 0:=by
 rw[zAk h,List.count_append,List.count_singleton];congr 1
 by_cases e:x=a
 ·rw[if_pos e,if_pos (by simpa using e)]
 ·rw[if_neg e,if_neg (by simpa using e)]
def RP1 (w:World) (L:List Int) (N gk:Nat) (s:Value) (wr:World):Prop:=∃n:Nat,n≤N∧N-n=gk∧s=.int .i64 (n:Int)∧(∀m:Nat,m<n→L.count (m:Int)=1)∧Below w.heap.size w wr
def RP2 (w:World) (L:List Int) (n N gk:Nat) (s4 s5:Value) (wr:World):Prop:=∃i k:Nat,i≤N∧N-i=gk∧s4=.int .i64 (k:Int)∧s5=.int .i64 (i:Int)∧k=(L.take i).count (n:Int)∧k≤i∧Below w.heap.size w wr
theorem permR_q {w:World} {A:Option Addr} {N c:Nat} {L:List Int} (h:Sl ics 1 w A N c L) (hN:N≤1000000) (r:Bool) (hr:Hid (permL L=r)) :
  Calls Tryz.prog 64 #[.slice A N c] w fun e w'=>e=.returned (.bool r)∧Below w.heap.size w w':=by
 have H:=zh h;have HLN:=zh h.1;clear h;go_enter Tryz.func64,Tryz.ntmps64
 go_wp2_with fail
 go_loopg [3] N (fun gk s wr=>RP1 w L N gk s wr)
 case atStart=>exact⟨0,Nat.zero_le _,rfl,rfl,(fun m hm=>by omega),Below.refl _ _⟩
 case round =>
  obtain⟨n,hn,hgk,rfl,hall,hB⟩:=hrel;have HGK:=zh hgk;have HAL:=zh hall;clear hgk hall;by_cases hlt:n<N
  ·have i1:(n:Int)<(N:Int):=zo;have Bz:=Below.refl wr.heap.size wr;go_wp2_with fail
   have HB1:=zh (zAa hB Bz);clear hB Bz;go_loopg [4,5] N (fun gk s4 s5 wr=>RP2 w L n N gk s4 s5 wr)
   case atStart=>exact⟨0,0,Nat.zero_le _,rfl,by go_num,by go_num,rfl,Nat.le_refl _,zAa HB1.out (by go_grown)⟩
   case round =>
    clear HB1;obtain⟨i,k,hi,hgi,rfl,rfl,hk,hki,hB⟩:=hrel;have HGI:=zh hgi;have HK:=zh hk;clear hgi hk;by_cases hlt2:i<N
    ·obtain⟨b,off,rfl,hel⟩:=H.out.at ics_len zo zo;obtain⟨x,hx⟩:∃x,L[i]?=some x:=⟨L[i]'(by rw[HLN.out];exact hlt2),List.getElem?_eq_getElem _⟩;have hnd:ElA w b (off+i) (ics x):=by have:=hel i x hx;rwa [Nat.mul_one] at this
     have hcs:=count_step (a:=(n:Int)) hx;have j1:(i:Int)<(N:Int):=zo;have j2:(0:Int)≤(i:Int):=zo;clear hel hx;by_cases hxn:x=(n:Int)
     ·have g1:(x==(n:Int))=true:=by simpa using hxn
      have HCN:Hid (k+1=(L.take (i+1)).count (n:Int)):=zh (by rw[hcs,if_pos hxn,←HK.out]);clear hxn hcs;have Bz:=Below.refl wr.heap.size wr;have pA0:=(hnd.below (zAa hB Bz)).c0 (u:=.int .i64 x) rfl;go_wp2_with fail
      go_roundg (N-(i+1))
      case measure=>have:=HGI.out;omega
      case rel=>exact⟨i+1,k+1,zo,rfl,by go_num,by go_num,HCN.out,zo,zAa (zAa hB Bz) (by go_grown)⟩
     ·have g1:(x==(n:Int))=false:=by simpa using hxn
      have HCN:Hid (k=(L.take (i+1)).count (n:Int)):=zh (by rw[hcs,if_neg hxn,←HK.out];rfl);clear hxn hcs;have Bz:=Below.refl wr.heap.size wr;have pA0:=(hnd.below (zAa hB Bz)).c0 (u:=.int .i64 x) rfl;go_wp2_with fail
      go_roundg (N-(i+1))
      case measure=>have:=HGI.out;omega
      case rel=>exact⟨i+1,k,zo,rfl,rfl,by go_num,HCN.out,zo,zAa (zAa hB Bz) (by go_grown)⟩
    ·obtain rfl:i=N:=zo;have j1:¬(i:Int)<(i:Int):=zo;have hkc:k=L.count (n:Int):=by have h9:=HK.out;rwa [List.take_of_length_le (by rw[HLN.out];exact Nat.le_refl _)] at h9
     by_cases hk1:k=1
     ·subst hk1;have HALL:Hid (∀m:Nat,m<n+1→L.count (m:Int)=1):=zh (fun m hm=>by
       rcases Nat.lt_or_ge m n with h1 | h1
       ·exact HAL.out m h1
       ·obtain rfl:m=n:=zo;exact hkc.symm)
      have g1:(((1:Nat):Int) != 1)=false:=by simp
      clear hkc HK HAL;have Bz:=Below.refl wr.heap.size wr;go_wp2_with fail
      go_roundg (i-(n+1))
      case measure=>have:=HGK.out;omega
      case rel=>exact⟨n+1,zo,rfl,by go_num,HALL.out,zAa (zAa hB Bz) (by go_grown)⟩
     ·obtain rfl:r=false:=by
       rw[←hr.out];cases e:permL L
       ·rfl
       ·exact absurd (hkc.trans (permL_count.1 e n (by rw[HLN.out];exact hlt))) hk1
      have g1:((k:Int) != 1)=true:=by simp;omega
      clear hkc HK HAL;have Bz:=Below.refl wr.heap.size wr;go_wp2_with fail
      go_ret
      have hF:=zAa (c:=wr) hB Bz;exact⟨rfl,zAa hF (by go_grown)⟩
  ·obtain rfl:n=N:=zo;have i1:¬(n:Int)<(n:Int):=zo;obtain rfl:r=true:=by rw[←hr.out];exact permL_count.2 fun m hm=>HAL.out m (by rw[HLN.out] at hm;exact hm)
   have Bz:=Below.refl wr.heap.size wr;go_wp2_with fail
   go_ret
   have hF:=zAa (c:=wr) hB Bz;exact⟨rfl,zAa hF (by go_grown)⟩
def TellsIz (w:World) (I:List Int) (z:Int) (e:Ending) (w':World):Prop:=∃A n c,e=.returned (.tuple #[.slice A n c,.int .i64 z])∧Sl ics 1 w' A n c I∧Below w.heap.size w w'
theorem inverseR_no {w:World} {A:Option Addr} {N c:Nat} {L:List Int} (h:Sl ics 1 w A N c L) (hN:N≤1000000) (HPR:Hid (permL L=false)) :
  Calls Tryz.prog 53 #[.slice A N c] w (TellsIz w [] 2):=by
 have hB:=Below.refl w.heap.size w;have Bz:=Below.refl w.heap.size w;go_enter Tryz.func53,Tryz.ntmps53
 go_wp2_with fail
 with_reducible refine(permR_q (h.below (zAa hB (zAa (b:=w) Bz (by go_grown)))) hN false HPR).mono ?_
 rintro e w1 ⟨rfl,b1⟩;replace b1:=zAa (a:=w) (by go_grown) b1;replace Bz:=zAa Bz b1;clear b1;go_wp2_with fail
 go_ret2
 have hF:=zAa (c:=w1) hB Bz;exact⟨none,0,0,rfl,Sl.nil _,zAa hF (by go_grown)⟩
def RI1 (w:World) (L:List Int) (N gk:Nat) (s4 s5:Value) (wr:World):Prop:=∃(n:Nat) (H:Option Addr) (hc:Nat),s4=.slice H n hc∧s5=.int .i64 (n:Int)∧n≤N∧N-n=gk∧OwnR wr w.heap.size 3 1 (.slice H n hc) n (flat ics ((invL L).take n))∧Below w.heap.size w wr
def RI2 (w:World) (L:List Int) (n N gk:Nat) (s4 s6:Value) (wr:World):Prop:=∃(i m:Nat) (H:Option Addr) (hc:Nat),s4=.slice H m hc∧s6=.int .i64 (i:Int)∧i≤N∧N-i=gk∧m≤n+1∧OwnR wr w.heap.size 3 1 (.slice H m hc) m (flat ics ((invL L).take m))∧(m=n∧(∀j:Nat,j<i→L[j]?≠some (n:Int))∨m=n+1∧∃j:Nat,j<i∧L[j]?=some (n:Int))∧Below w.heap.size w wr
theorem inverseR_yes {w:World} {A:Option Addr} {N c:Nat} {L:List Int} (h:Sl ics 1 w A N c L) (hN:N≤1000000) (HPR:Hid (permL L=true)) :
  Calls Tryz.prog 53 #[.slice A N c] w (TellsIz w (invL L) 0):=by
 have H1:=zh h;have HLN:=zh h.1;have hB:=Below.refl w.heap.size w;have Bz:=Below.refl w.heap.size w;go_enter Tryz.func53,Tryz.ntmps53
 go_wp2_with fail
 with_reducible refine(permR_q (h.below (zAa hB (zAa (b:=w) Bz (by go_grown)))) hN true HPR).mono ?_
 rintro e w1 ⟨rfl,b1⟩;replace b1:=zAa (a:=w) (by go_grown) b1;replace Bz:=zAa Bz b1;clear b1;go_wp2_with fail
 have HB1:=zh (zAa hB Bz);clear hB Bz h;go_loopg [4,5] N (fun gk s4 s5 wr=>RI1 w L N gk s4 s5 wr)
 case atStart=>exact⟨0,none,0,rfl,by go_num,Nat.zero_le _,rfl,OwnR.nil _ _ _ _,zAa HB1.out (by go_grown)⟩
 case round =>
  clear HB1;obtain⟨n,H,hc,rfl,rfl,hn,hgk,ho,hB⟩:=hrel;have HGK:=zh hgk;clear hgk;obtain⟨m,hm⟩:∃m,m=n:=⟨_,rfl⟩;by_cases hlt:n<N
  ·have i1:(n:Int)<(N:Int):=zo;rw[←hm] at ho;rw[show(Value.slice H n hc)=.slice H m hc by rw[hm]];have Bz:=Below.refl wr.heap.size wr;go_wp2_with fail
   have HO1:=zh ho;have HB1:=zh (zAa hB Bz);clear hB Bz ho;go_loopg [4,6] N (fun gk s4 s6 wr=>RI2 w L n N gk s4 s6 wr)
   case atStart=>exact⟨0,m,H,hc,rfl,by go_num,Nat.zero_le _,rfl,zo,HO1.out.below (by go_grown),.inl ⟨hm,fun j hj=>by omega⟩,zAa HB1.out (by go_grown)⟩
   case round =>
    clear HB1 HO1 hm;obtain⟨i,m,H,hc,rfl,rfl,hi,hgi,hmn,ho,hal,hB⟩:=hrel;have HGI:=zh hgi;have HAL:=zh hal;clear hgi hal;by_cases hlt2:i<N
    ·obtain⟨b,off,rfl,hel⟩:=H1.out.at ics_len zo zo;obtain⟨x,hx⟩:∃x,L[i]?=some x:=⟨L[i]'(by rw[HLN.out];exact hlt2),List.getElem?_eq_getElem _⟩;have hnd:ElA w b (off+i) (ics x):=by have:=hel i x hx;rwa [Nat.mul_one] at this
     have j1:(i:Int)<(N:Int):=zo;have j2:(0:Int)≤(i:Int):=zo;clear hel;by_cases hxn:x=(n:Int)
     ·have g1:(x==(n:Int))=true:=by simpa using hxn
      have HXI:Hid (L[i]?=some (n:Int)):=zh (by rw[hx,hxn]);rcases HAL.out with⟨e,hno⟩ | ⟨_,j,hj,hjn⟩
      ·subst e;have HTS:Hid ((invL L).take (m+1)=(invL L).take m++[(i:Int)]):=zh (zAk (by have h9:=invL_get HPR.out HXI.out;rwa [Int.toNat_natCast] at h9));clear hno hx HAL hxn;have Bz:=Below.refl wr.heap.size wr;have pA0:=(hnd.below (zAa hB Bz)).c0 (u:=.int .i64 x) rfl;go_wp2_with (at_builtin;refine And.left (b:=True) ?_)
       refine⟨?_,trivial⟩;obtain⟨V11,hW,x0,hN⟩:=zAf wr #[.int .i64 (i:Int)] 3;rw[←hW];clear hW;obtain⟨v0,hb0⟩:∃b,b=wr.heap.size:=⟨_,rfl⟩;rw[←hb0] at x0 ⊢;have ow_0:w.heap.size≤v0:=zia (zw hB Bz);have nv0_own:=OwnR.off' (b:=v0) ho zo;replace ho:=ho.below hN;replace hB:=zAa (zAa hB Bz) hN;have HX0:=zh x0;clear x0 hN Bz hb0;have Bz:=Below.refl V11.heap.size V11;clear pA0;have hdr:V11.drew.heap.size=V11.heap.size:=rfl;have hdr2:V11.drew.drew.heap.size=V11.heap.size:=rfl;refine Elt.app elt_ics rfl _ _ rfl (w.heap.size) (.slice H m hc) (m) (((invL L).take m)) rfl ho (.slice (some ⟨v0,0,none⟩) 1 1) (1) ([(i:Int)]) rfl (From.one (HX0.out.below (zAa Bz (by go_grown))) ((i:Int)) rfl (elt_ics.len _)) zo (zia (zw hB Bz)) ?_;intro H11 c11 w11 ho11 hg11;replace hB:=(zAa (zAa hB Bz) (by go_grown)).trans (hg11.below (zia (zw hB Bz)) (fun g hg=>by have:=ho.base g hg;omega));clear HX0;clear hdr hdr2;clear hg11 Bz;have Bz:=Below.refl w11.heap.size w11;go_wp2_with fail
       go_roundg (N-(i+1))
       case measure=>have:=HGI.out;omega
       case rel=>exact⟨i+1,m+1,_,_,rfl,by go_num,zo,rfl,zo,by rw[HTS.out];exact OwnR.below ho11 (by go_grown),.inr ⟨zo,i,zo,HXI.out⟩,zAa (zAa hB Bz) (by go_grown)⟩
      ·exact absurd (perm_inj HPR.out hjn HXI.out) zo
     ·have g1:(x==(n:Int))=false:=by simpa using hxn
      have HAL2:Hid (m=n∧(∀j:Nat,j<i+1→L[j]?≠some (n:Int))∨m=n+1∧∃j:Nat,j<i+1∧L[j]?=some (n:Int)):=zh (by
       rcases HAL.out with⟨e,hno⟩ | ⟨e,j,hj,hjn⟩
       ·refine .inl ⟨e,fun j hj=>?_⟩;rcases Nat.lt_or_ge j i with h1 | h1
        ·exact hno j h1
        ·obtain rfl:j=i:=zo;rw[hx];exact fun e=>hxn (Option.some.inj e)
       ·exact .inr ⟨e,j,zo,hjn⟩)
      clear hxn hx HAL;have Bz:=Below.refl wr.heap.size wr;have pA0:=(hnd.below (zAa hB Bz)).c0 (u:=.int .i64 x) rfl;go_wp2_with fail
      go_roundg (N-(i+1))
      case measure=>have:=HGI.out;omega
      case rel=>exact⟨i+1,m,_,_,rfl,by go_num,zo,rfl,zo,OwnR.below ho (by go_grown),HAL2.out,zAa (zAa hB Bz) (by go_grown)⟩
    ·obtain rfl:i=N:=zo;have j1:¬(i:Int)<(i:Int):=zo;obtain rfl:m=n+1:=by
      rcases HAL.out with⟨_,hno⟩ | ⟨e,_⟩
      ·obtain⟨j,hj⟩:=perm_onto HPR.out (j:=n) (by rw[HLN.out];exact hlt);exact absurd hj (hno j (by have:=(List.getElem?_eq_some_iff.1 hj).1;rw[HLN.out] at this;exact this))
      ·exact e
     have Bz:=Below.refl wr.heap.size wr;go_wp2_with fail
     go_roundg (i-(n+1))
     case measure=>have:=HGK.out;omega
     case rel=>exact⟨n+1,_,_,rfl,by go_num,zo,rfl,OwnR.below ho (by go_grown),zAa (zAa hB Bz) (by go_grown)⟩
  ·obtain rfl:n=N:=zo;have i1:¬(n:Int)<(n:Int):=zo;have HSL:Hid (Sl ics 1 wr H n hc (invL L)):=zh (by have h9:=ho.sl' elt_ics (ho.eltn elt_ics zo);rwa [List.take_of_length_le (by rw[invL_len,HLN.out];exact Nat.le_refl _)] at h9);clear ho hm;have Bz:=Below.refl wr.heap.size wr;go_wp2_with fail
   go_ret2
   have hF:=zAa (c:=wr) hB Bz;exact⟨H,n,hc,rfl,HSL.out.below (by go_grown),zAa hF (by go_grown)⟩
theorem inverseR_q {w:World} {A:Option Addr} {N c:Nat} {L I:List Int} {z:Int} (h:Sl ics 1 w A N c L) (hN:N≤1000000) (hI:Hid (I=(if permL L=true then invL L else [])∧z=(if permL L=true then 0 else 2))) :
  Calls Tryz.prog 53 #[.slice A N c] w (TellsIz w I z):=by
 obtain⟨rfl,rfl⟩:=hI.out;cases e:permL L
 ·exact inverseR_no h hN (zh e)
 ·exact inverseR_yes h hN (zh e)
theorem nv_none (w:World) (M:Nat):NV w none 0 0 [] M:=⟨[],Sl.nil _,OnT.nil _ _,rfl,fun _=>rfl⟩
def TellsVz (w:World) (V:List (Int×Rat)) (z:Int) (M:Nat) (e:Ending) (w':World):Prop:=∃A n c,e=.returned (.tuple #[.slice A n c,.int .i64 z])∧NV w' A n c V M∧Below w.heap.size w w'
theorem okM_step {n:Nat} {P:List (Int×Rat)} {i:Nat} {x:Int×Rat} (h:P[i]?=some x):okM n (P.take (i+1))=(okM n (P.take i)&&(decide (0≤x.1)&&decide (x.1<(n:Int)))):=by
 rw[show P.take (i+1)=P.take i++[x] by rw[List.take_add_one,h];rfl];unfold okM
 rw[List.all_append,List.all_cons,List.all_nil,Bool.and_true]
theorem mv_distinct {L:List Int} (h:permL L=true) {P:List (Int×Rat)} (hr:Rise P) (hP:okM L.length P=true):(movF L P).Pairwise fun x y=>x.1≠y.1:=by
 unfold movF
 refine List.pairwise_map.2 (List.Pairwise.imp_of_mem (fun {x y} hx hy hxy e=>?_) hr);unfold okM at hP
 rw[List.all_eq_true] at hP;have h1:=hP x hx;have h2:=hP y hy;simp only[Bool.and_eq_true,decide_eq_true_eq] at h1 h2
 have e1:L[x.1.toNat]?=some (L.getD x.1.toNat 0):=by rw[List.getD_eq_getElem?_getD,List.getElem?_eq_getElem zo];rfl
 have e2:L[y.1.toNat]?=some (L.getD y.1.toNat 0):=by rw[List.getD_eq_getElem?_getD,List.getElem?_eq_getElem zo];rfl
 simp only at e
 rw[e] at e1;have:=perm_inj h e1 e2;omega
theorem movF_snoc (L:List Int) {P:List (Int×Rat)} {i:Nat} {x:Int×Rat} (h:P[i]?=some x):movF L (P.take (i+1))=movF L (P.take i)++[(L.getD x.1.toNat 0,x.2)]:=by
 rw[show P.take (i+1)=P.take i++[x] by rw[List.take_add_one,h];rfl];unfold movF
 rw[List.map_append];rfl
theorem prs_apart {O:List Tm} (h:(prs O).Pairwise fun x y=>x.1≠y.1):O.Pairwise fun x y=>x.at_≠y.at_:=(List.pairwise_map (f:=fun t:Tm=>(t.at_,t.x.q)) (R:=fun x y:Int×Rat=>x.1≠y.1)).1 h
def RM1 (w W:World) (L:List Int) (r:Bool) (N m:Nat) (P:List (Int×Rat)) (MM gk:Nat) (s7 s8 s9:Value) (wr:World):Prop :=
 ∃(i:Nat) (b:Bool) (k:Nat) (H:Option Addr) (hc:Nat) (O:List Tm),s7=.slice H k hc∧s8=.bool b∧s9=.int .i64 (i:Int)∧i≤m∧m-i=gk∧k≤i∧OwnR wr W.heap.size 114 5 (.slice H k hc) k (flat Tm.cs O)∧b=(r&&okM N (P.take i))∧(b=true→prs O=movF L (P.take i))∧OnT wr O (fun _=>MM)∧Below w.heap.size w wr∧Below W.heap.size W wr
theorem moveR_q {w:World} {A X:Option Addr} {N c nx cx M:Nat} {L:List Int} {P V:List (Int×Rat)} {z:Int} (h:Sl ics 1 w A N c L) (hN:N≤1000000) (hx:GV w X nx cx P M) (hM:M≤850) (hnx:nx≤100000)
  (hV:Hid (V=(if(permL L&&okM N (nrm P))=true then nrm (movF L (nrm P)) else [])∧z=(if(permL L&&okM N (nrm P))=true then 0 else 2))) (hT:Hid (Tab w)) :
  Calls Tryz.prog 55 #[.slice A N c,.slice X nx cx] w (TellsVz w V z (M+13)):=by
 obtain⟨r,hr⟩:∃r,permL L=r:=⟨_,rfl⟩;have HPR:=zh hr;rw[hr] at hV;have HS:=zh h;have HLN:=zh h.1;clear hr;have hB:=Below.refl w.heap.size w;have Bz:=Below.refl w.heap.size w;go_enter Tryz.func55,Tryz.ntmps55
 go_wp2_with fail
 with_reducible refine(normR_q (hx.below (zAa hB (zAa (b:=w) Bz (by go_grown)))) zo hnx (zh (Tab.below hT.out (zAa hB (zAa (b:=w) Bz (by go_grown)))))).mono ?_
 rintro e w1 ⟨Y,m,cy,rfl,h1,b1⟩;replace b1:=zAa (a:=w) (by go_grown) b1;replace Bz:=zAa Bz b1;clear b1;go_wp2_with fail
 with_reducible refine(permR_q (h.below (zAa hB (zAa (b:=w1) Bz (by go_grown)))) hN r HPR).mono ?_
 rintro e w2 ⟨rfl,b2⟩;replace b2:=zAa (a:=w1) (by go_grown) b2;replace h1:=h1.below b2;replace Bz:=zAa Bz b2;clear b2;go_wp2_with fail
 have HNV:=zh (NV.below h1 (Below.refl _ _));have HB1:=zh (zAa hB Bz);have hWw:w.heap.size≤w2.heap.size:=zia (zw hB Bz);clear hB Bz h1 h;have hmx:m≤nx:=by have h1:=HNV.out.len;have h2:=nrm_len P;rw[hx.len] at h2;omega
 obtain⟨T,hy1,hy2,hy3,_⟩:=HNV.out;have HSY:=zh hy1;have HLY:=zh hy1.1;have HOY:=zh hy2;have HPY:=zh hy3;clear hx hy1 hy2 hy3;go_loopg [7,8,9] m (fun gk s7 s8 s9 wr=>RM1 w w2 L r N m (nrm P) (M+6) gk s7 s8 s9 wr)
 case atStart=>exact⟨0,r,0,none,0,[],rfl,rfl,by go_num,Nat.zero_le _,rfl,Nat.le_refl _,OwnR.nil _ _ _ _,by rw[List.take_zero];exact(Bool.and_true r).symm,(fun _=>rfl),OnT.nil _ _,zAa HB1.out (by go_grown),by go_grown⟩
 case round =>
  clear HB1;obtain⟨i,bb,k,H,hc,O,rfl,rfl,rfl,hi,hgk,hki,ho,hb,hpo,hon,hB,hBW⟩:=hrel;have HGK:=zh hgk;have HBB:=zh hb;have HPP:=zh hpo;clear hgk hb hpo;by_cases hlt:i<m
  ·obtain⟨b',off',rfl,hel⟩:=HSY.out.at Tm.cs_len zo zo;obtain⟨y,hy⟩:∃y,T[i]?=some y:=⟨T[i]'(by rw[HLY.out];exact hlt),List.getElem?_eq_getElem _⟩;have hnd:=hel i y hy;have hyo:=HOY.out y (List.mem_of_getElem? hy);have HPI:Hid ((nrm P)[i]?=some (y.at_,y.x.q)):=zh (by rw[←HPY.out];exact prs_get hy);have hst:=okM_step (n:=N) HPI.out;have i1:(i:Int)<(m:Int):=zo;have i2:(0:Int)≤(i:Int):=zo;clear hel hy;cases bb
   ·have HBT:Hid (false=(r&&okM N ((nrm P).take (i+1)))):=zh (by rw[hst,←Bool.and_assoc,←HBB.out];rfl);clear hst hyo;have Bz:=Below.refl wr.heap.size wr;go_wp2_with fail
    go_roundg (m-(i+1))
    case measure=>have:=HGK.out;omega
    case rel=>exact⟨i+1,false,_,_,_,_,rfl,rfl,by go_num,zo,rfl,zo,OwnR.below ho (by go_grown),HBT.out,(fun e=>by cases e),OnT.below hon (by go_grown),zAa (zAa hB Bz) (by go_grown),zAa (zAa hBW Bz) (by go_grown)⟩
   ·by_cases hlo:0≤y.at_
    ·by_cases hhi:y.at_<(N:Int)
     ·have HBT:Hid (true=(r&&okM N ((nrm P).take (i+1)))):=zh (by rw[hst,←Bool.and_assoc,←HBB.out];simp[hlo,hhi]);obtain⟨b,off,rfl,help⟩:=HS.out.at ics_len zo zo;obtain⟨v,hv⟩:∃v,L[y.at_.toNat]?=some v:=⟨L[y.at_.toNat]'(by rw[HLN.out];omega),List.getElem?_eq_getElem _⟩;have hndp:ElA w b (off+y.at_.toNat) (ics v):=by have:=help _ v hv;rwa [Nat.mul_one] at this
      have HPO:Hid (prs (O++[⟨v,y.x⟩])=movF L ((nrm P).take (i+1))):=zh (by
       rw[movF_snoc L HPI.out,prs_append,HPP.out rfl,List.getD_eq_getElem?_getD,hv];rfl)
      have hyn:=hyo.1.below hBW;have HYX:=zh hyo.2;have g1:decide (0≤y.at_)=true:=decide_eq_true hlo;have g2:decide (y.at_<(N:Int))=true:=decide_eq_true hhi;clear hst hyo help hv;have Bz:=Below.refl wr.heap.size wr;obtain⟨pB0,pB1,pB2,pB3,pB4,-⟩:=(hnd.below (zAa hBW Bz)).ez;have pC0:=(hndp.below (zAa hB Bz)).c0 (u:=.int .i64 v) rfl;go_wp2_with fail
      (try simp only[List.append_eq,List.cons_append,List.nil_append])
      refine zAb (.pure 0 (.pure 1 (.pure 2 (.pure 3 (.pure 4 (.pure 5 (.take 6 (.pure 7 (.take 8 (.pure 9 (.pure 10 (.pure 11 (.pure 12 (.take 13 (.pure 14 (.only 15 (.only 16 (.pure 17 .done)))))))))))))))))) [16] (fun w'=>w'.cell? ⟨b',off'+i*5,none⟩=some (.int .i64 y.at_)∧w'.cell? ⟨b',off'+i*5+1,none⟩=some (.bool y.x.s)∧w'.cell? ⟨b',off'+i*5+2,none⟩=some (.slice y.x.A y.x.l y.x.c)∧w'.cell? ⟨b',off'+i*5+3,none⟩=some (.bool y.x.s')∧w'.cell? ⟨b',off'+i*5+4,none⟩=some (.slice y.x.A' y.x.l' y.x.c')∧w'.cell? ⟨b,off+y.at_.toNat,none⟩=some (.int .i64 v)) (by kernel_rfl) (by kernel_rfl) ⟨pB0,pB1,pB2,pB3,pB4,pC0⟩ ?_;iterate 6 (refine zP rfl rfl (fun w'=>by go_simp<;>with_reducible rfl) ?_;try simp only[uW,uX,uY,uZ])
      refine zT rfl rfl (fun w' ⟨pB0,pB1,pB2,pB3,pB4,pC0⟩=>by go_simp<;>with_reducible rfl) ?_;try simp only[uW,uX,uY,uZ]
      refine zP rfl rfl (fun w'=>by go_simp<;>with_reducible rfl) ?_;try simp only[uW,uX,uY,uZ]
      refine zT rfl rfl (fun w' ⟨pB0,pB1,pB2,pB3,pB4,pC0⟩=>by go_simp<;>with_reducible rfl) ?_;try simp only[uW,uX,uY,uZ]
      iterate 4 (refine zP rfl rfl (fun w'=>by go_simp<;>with_reducible rfl) ?_;try simp only[uW,uX,uY,uZ])
      refine zT rfl rfl (fun w' ⟨pB0,pB1,pB2,pB3,pB4,pC0⟩=>by go_simp<;>with_reducible rfl) ?_;try simp only[uW,uX,uY,uZ]
      refine zP rfl rfl (fun w'=>by go_simp<;>with_reducible rfl) ?_;try simp only[uW,uX,uY,uZ]
      refine zC 55 rfl rfl (fun K hK=>?_);go_simp
      refine hK.out _ _ ⟨(zAd pB0),(zAd pB1),(zAd pB2),(zAd pB3),(zAd pB4),(zAd pC0)⟩ (fun _=>?_);try simp only[uW,uX,uY,uZ]
      clear hK K;refine zAe (o:=⟨some 56,_,_,_,_,_⟩) rfl rfl zd (fun K hK=>?_);obtain⟨V21,hW,x0,hN⟩:=zAf wr #[.int .i64 v,.bool y.x.s,.slice y.x.A y.x.l y.x.c,.bool y.x.s',.slice y.x.A' y.x.l' y.x.c'] 114;rw[←hW];clear hW;obtain⟨v0,hb0⟩:∃b,b=wr.heap.size:=⟨_,rfl⟩;rw[←hb0] at x0 ⊢;have ow_0:w.heap.size≤v0:=zia (zw hB Bz);have nv0_own:=OwnR.off' (b:=v0) ho zo;replace hon:=hon.below hN;replace ho:=ho.below hN;replace hyn:=hyn.below hN;replace hB:=zAa (zAa hB Bz) hN;replace hBW:=zAa (zAa hBW Bz) hN;have HX0:=zh x0;clear x0 hN Bz hb0;have Bz:=Below.refl V21.heap.size V21;clear pB0 pB1 pB2 pB3 pB4 pC0;have hdr:V21.drew.heap.size=V21.heap.size:=rfl;have hdr2:V21.drew.drew.heap.size=V21.heap.size:=rfl;refine Elt.wp elt_term _ _ rfl (w2.heap.size) (.slice H k hc) (k) (O) rfl ho (.slice (some ⟨v0,0,none⟩) 1 1) (1) ([⟨v,y.x⟩]) rfl (From.one (HX0.out.below (zAa Bz (by go_grown))) (⟨v,y.x⟩) rfl (elt_term.len _)) zo (zj hBW.size Bz.size) ?_;intro H21 c21 w21 ho21 hg21;refine hK.out _ _ ?_;try simp only[uW,uX,uY,uZ]
      clear hK K;replace hB:=(zAa (zAa hB Bz) (by go_grown)).trans (hg21.below (zia (zw hB Bz)) (fun g hg=>by have:=ho.base g hg;omega));replace hBW:=(zAa (zAa hBW Bz) (by go_grown)).trans (hg21.below (zj hBW.size Bz.size) (fun g hg=>by have:=ho.base g hg;omega));clear HX0;clear hdr hdr2;replace hon:=hon.k hg21.k;replace hyn:=hyn.k hg21.k;clear hg21 Bz;have Bz:=Below.refl w21.heap.size w21;obtain⟨pB0,pB1,pB2,pB3,pB4,-⟩:=(hnd.below (zAa hBW Bz)).ez;have pC0:=(hndp.below (zAa hB Bz)).c0 (u:=.int .i64 v) rfl;refine zP rfl rfl (fun w'=>by go_simp<;>with_reducible rfl) ?_;try simp only[uW,uX,uY,uZ]
      refine zAc ?_;go_wp2_with fail
      go_roundg (m-(i+1))
      case measure=>have:=HGK.out;omega
      case rel=>exact⟨i+1,true,_,_,_,_,rfl,rfl,by go_num,zo,rfl,zo,OwnR.below ho21 (by go_grown),HBT.out,(fun _=>HPO.out),(OnT.below hon (by go_grown)).snoc (RN.below hyn (by go_grown)) HYX.out.1 HYX.out.2,zAa (zAa hB Bz) (by go_grown),zAa (zAa hBW Bz) (by go_grown)⟩
     ·have HBT:Hid (false=(r&&okM N ((nrm P).take (i+1)))):=zh (by rw[hst];simp[hhi]);have g1:decide (0≤y.at_)=true:=decide_eq_true hlo;have g2:decide (y.at_<(N:Int))=false:=decide_eq_false hhi;clear hst hyo;have Bz:=Below.refl wr.heap.size wr;have pB0:=(hnd.below (zAa hBW Bz)).c0 (u:=.int .i64 y.at_) rfl;go_wp2_with fail
      go_roundg (m-(i+1))
      case measure=>have:=HGK.out;omega
      case rel=>exact⟨i+1,false,_,_,_,_,rfl,rfl,by go_num,zo,rfl,zo,OwnR.below ho (by go_grown),HBT.out,(fun e=>by cases e),OnT.below hon (by go_grown),zAa (zAa hB Bz) (by go_grown),zAa (zAa hBW Bz) (by go_grown)⟩
    ·have HBT:Hid (false=(r&&okM N ((nrm P).take (i+1)))):=zh (by rw[hst];simp[hlo]);have g1:decide (0≤y.at_)=false:=decide_eq_false hlo;clear hst hyo;have Bz:=Below.refl wr.heap.size wr;have pB0:=(hnd.below (zAa hBW Bz)).c0 (u:=.int .i64 y.at_) rfl;go_wp2_with fail
     go_roundg (m-(i+1))
     case measure=>have:=HGK.out;omega
     case rel=>exact⟨i+1,false,_,_,_,_,rfl,rfl,by go_num,zo,rfl,zo,OwnR.below ho (by go_grown),HBT.out,(fun e=>by cases e),OnT.below hon (by go_grown),zAa (zAa hB Bz) (by go_grown),zAa (zAa hBW Bz) (by go_grown)⟩
  ·obtain rfl:i=m:=zo;have i1:¬(i:Int)<(i:Int):=zo;have hbe:=HBB.out;rw[List.take_of_length_le (by rw[←HPY.out,prs_len,HLY.out];exact Nat.le_refl _)] at hbe;cases bb
   ·have hV1:V=[]:=by rw[hV.out.1,←hbe,if_neg zd]
    have hz:z=2:=by rw[hV.out.2,←hbe,if_neg zd]
    subst hV1 hz;clear hbe ho hon hV;have Bz:=Below.refl wr.heap.size wr;go_wp2_with fail
    go_ret2
    have hF:=zAa (c:=wr) hB Bz;exact⟨none,0,0,rfl,nv_none _ _,zAa hF (by go_grown)⟩
   ·have hpo:=HPP.out rfl;rw[List.take_of_length_le (by rw[←HPY.out,prs_len,HLY.out];exact Nat.le_refl _)] at hpo;have hbe2:=hbe.symm;rw[Bool.and_eq_true] at hbe2;have HVV:Hid (nrm (prs O)=V):=zh (by rw[hV.out.1,←hbe,if_pos rfl,hpo]);have hz:z=0:=by rw[hV.out.2,←hbe,if_pos rfl]
    subst hz;have HGV:Hid (GV wr H k hc (prs O) (M+7)):=zh ⟨O,ho.sl' elt_term (ho.eltn elt_term zo),hon.ok,rfl,wsum_apart (prs_apart (by rw[hpo];exact mv_distinct (HPR.out.trans hbe2.1) (nrm_nrm _).rise (by rw[HLN.out];exact hbe2.2))) (fun t ht=>by have h1:=hon.dg t ht;have h2:=(hon t ht).2.2;simp only at h2;omega),own_cap ho⟩;clear hpo hbe hbe2 ho hon HPP HBB;have Bz:=Below.refl wr.heap.size wr;go_wp2_with fail
    with_reducible refine(normR_q HGV.out zo zo (zh (hT.out.below hB))).mono ?_
    rintro e w21 ⟨A21,n21,c21,rfl,h21,b21⟩;replace b21:=zAa (a:=wr) (by go_grown) b21;replace Bz:=zAa Bz b21;clear b21;go_wp2_with fail
    go_ret2
    have hF:=zAa (c:=w21) hB Bz;exact⟨_,_,_,rfl,by rw[←HVV.out];exact(NV.below h21 (by go_grown)).mono zo,zAa hF (by go_grown)⟩
open Go.RowKit Tw
theorem append_ty {P:Program} {w:World} {t t2 ty e e2:TypeId} (ht:P.underlying t=some (.slice e)) (ht2:P.underlying t2=some (.slice e2)) (v x:Value) :
  (Builtin.append_ #[t,t2] ty #[v,x]).run P w=(Builtin.append_ #[t,t] ty #[v,x]).run P w:=by
 have h1:∀{α:Type} (f:TypeDesc→Sem α) (w:World),(underlying t >>= f).run P w=(f (.slice e)).run P w:=fun f w=>by simp[underlying,Sem.run_bind,program,ht,Sem.run]
 have h2:∀{α:Type} (f:TypeDesc→Sem α) (w:World),(underlying t2 >>= f).run P w=(f (.slice e2)).run P w:=fun f w=>by simp[underlying,Sem.run_bind,program,ht2,Sem.run]
 unfold Builtin.append_
 simp only[List.getElem?_toArray,List.getElem?_cons_zero,List.getElem?_cons_succ]
 rw[h1,h1];cases v<;>try rfl
 rename_i base sLen sCap
 have h3:∀{α β:Type} (m:Sem α) (f g:α→Sem β) (w:World),(∀a w',(f a).run P w'=(g a).run P w')→(m >>= f).run P w=(m >>= g).run P w:=fun m f g w h=>by simp only[Sem.run_bind];cases m.run P w<;>simp[Result.andThen,h]
 refine h3 _ _ _ _ fun size w'=>?_;rw[h1,h2]
theorem Elt.wp2 {α:Type} {f:α→List Value} {k:Nat} {t te t2 e2:TypeId} (E:Elt f k t te) (ht2:Tryz.prog.underlying t2=some (.slice e2)) {w:World} {o:Oper} {a:Act} {K:Act→World→Prop} {Q:Exit→Act→World→Prop} (s x:Operand) (ho:o.op=.call { callee:=.builtin .append,args:=#[s,x],argTypes:=#[t,t2] })
  (base:Nat) (v:Value) (n:Nat) (L:List α) (hs:a.eval s=v) (hown:OwnR w base te k v n (flat f L)) (xv:Value) (m:Nat) (M:List α) (hx:a.eval x=xv) (hf:From w k xv m (flat f M)) (hn:n+m≤100000000000) (hbase:base≤w.heap.size)
  (h:∀H c w',OwnR w' base te k (.slice H (n+m) c) (n+m) (flat f (L++M))→Grew w w' v (.slice H (n+m) c)→K (a.put o.dst (.slice H (n+m) c)) w'):o.wp Tryz.prog a w K Q:=by
 obtain⟨H,c,w',hr,h2,h3⟩:=E.run o.type hown xv m M hf hn hbase;rw[←append_ty E.ut ht2] at hr;unfold Oper.wp execOp
 simp only[ho,resolve,invoke,builtin,Sem.run_bind,Sem.run_pure,Result.andThen_ok,List.map_toArray,List.map_cons,List.map_nil,hs,hx,hr]
 exact h H c w' h2 h3
def rtm (C:List (List (Int×Rat))) (P:List (Int×Rat)):Nat→List (Int×Rat)
 | 0=>[]
 | k+1=>rtm C P k++nrm ((C.getD k []).map fun x=>(x.1,pget P (k:Int)*x.2))
theorem rtm_get (C:List (List (Int×Rat))) (P:List (Int×Rat)) (a:Int):∀k,k≤C.length→pget (rtm C P k) a=pdot (idxP ((C.take k).map fun c=>pget c a)) P
 | 0,_=>by rw[List.take_zero];exact(pdot_nil P).symm
 | k+1,h=>by
  have h1:C[k]?=some (C.getD k []):=by rw[List.getD_eq_getElem?_getD,List.getElem?_eq_getElem zo];rfl
  show pget (rtm C P k++_) a=_
  rw[pget_append,rtm_get C P a k zo,nrm_get,pget_scale,List.take_add_one,h1,Option.toList_some,List.map_append,List.map_cons,List.map_nil];unfold idxP
  rw[List.mapIdx_append,pdot_append];congr 1
  rw[List.mapIdx_cons,List.mapIdx_nil,pdot_cons,pdot_nil,List.length_map,List.length_take,Nat.min_eq_left zo];show pget P (k:Int)*pget (C.getD k []) a=pget (C.getD k []) a*pget P ((0+k:Nat):Int)+0
  rw[Nat.zero_add];grind
theorem rtm_end (C:List (List (Int×Rat))) (P:List (Int×Rat)):nrm (rtm C P C.length)=nrm (timesP C (nrm P)):=nrm_ext fun a=>by
 rw[rtm_get C P a _ (Nat.le_refl _),List.take_of_length_le (Nat.le_refl _),times_get,pdot_nrm,pdot_comm]
theorem OnT.cat {w:World} {L M:List Tm} {b:Int→Nat} (h:OnT w L b) (k:OnT w M b):OnT w (L++M) b:=fun t ht=>by
 rcases List.mem_append.1 ht with h1 | h1
 ·exact h t h1
 ·exact k t h1
def RTm1 (w:World) (C:List (List (Int×Rat))) (P:List (Int×Rat)) (n MS gk:Nat) (s5 s6:Value) (wr:World):Prop :=
 ∃(k t:Nat) (H:Option Addr) (hc:Nat) (O:List Tm),s5=.slice H t hc∧s6=.int .i64 (k:Int)∧k≤n∧n-k=gk∧t≤k*100∧OwnR wr w.heap.size 114 5 (.slice H t hc) t (flat Tm.cs O)∧prs O=rtm C P k∧OnT wr O (fun _=>MS)∧(∀a,wsum O a≤k*(MS+1))∧Below w.heap.size w wr
theorem timesR_q {w:World} {X A:Option Addr} {nx cx n c:Nat} {P:List (Int×Rat)} {CL:List Vc} (M MC MS K:Nat) (h:Sl Vc.cs 1 w A n c CL) (hcl:Hid (∀v∈CL,GV w v.A v.n v.c (prs v.L) MC∧v.n≤100)) (hx:GV w X nx cx P M) (hnx:nx≤1000) (hMS:MC+(M+1)+5=MS) (hM2:MS≤870) (hK:n*(MS+1)≤K) (hK2:K≤860) (hT:Hid (Tab w)) :
  Calls Tryz.prog 58 #[.slice A n c,.slice X nx cx] w (TellsV w (nrm (timesP (CL.map fun v=>prs v.L) (nrm P))) (K+6)):=by
 have HS:=zh h;have HLN:=zh h.1;have HGX:=zh hx;have HZX:=zh (gv_sz hx);have hn1:n≤860:=by
  have h1:n*1≤n*(MS+1):=Nat.mul_le_mul_left _ zo;omega
 clear h hx;go_enter Tryz.func58,Tryz.ntmps58
 go_wp2_with fail
 go_loopg [5,6] n (fun gk s5 s6 wr=>RTm1 w (CL.map fun v=>prs v.L) P n MS gk s5 s6 wr)
 case atStart=>exact⟨0,0,none,0,[],rfl,rfl,Nat.zero_le _,rfl,Nat.zero_le _,OwnR.nil _ _ _ _,rfl,OnT.nil _ _,(fun a=>Nat.zero_le _),Below.refl _ _⟩
 case round =>
  obtain⟨k,t,H,hc,O,rfl,rfl,hk,hgk,htk,ho,hp,hon,hws,hB⟩:=hrel;have HGK:=zh hgk;have HP:=zh hp;have HWS:=zh hws;clear hgk hp hws;by_cases hlt:k<n
  ·obtain⟨b,off,rfl,hel⟩:=HS.out.at Vc.cs_len zo zo;obtain⟨v,hv⟩:∃v,CL[k]?=some v:=⟨CL[k]'(by rw[HLN.out];exact hlt),List.getElem?_eq_getElem _⟩;have hnd:ElA w b (off+k) (Vc.cs v):=by have:=hel k v hv;rwa [Nat.mul_one] at this
   have hvg:=hcl.out v (List.mem_of_getElem? hv);have hgv:=hvg.1.below hB;have hgx:=HGX.out.below hB;have HVN:Hid (v.L.length=v.n):=zh (by have h1:=hvg.1.len;rwa [prs_len] at h1);have hvn0:=hvg.2;have HRT:Hid (rtm (CL.map fun v=>prs v.L) P k++nrm ((prs v.L).map fun x=>(x.1,pget P (k:Int)*x.2))=rtm (CL.map fun v=>prs v.L) P (k+1)):=zh (by
    show _=rtm _ P k++nrm ((((CL.map fun v=>prs v.L).getD k []).map fun x=>(x.1,pget P (k:Int)*x.2)))
    rw[List.getD_eq_getElem?_getD,List.getElem?_map,hv];rfl)
   have i1:(k:Int)<(n:Int):=zo;have i2:(0:Int)≤(k:Int):=zo;clear hel hv hvg;have Bz:=Below.refl wr.heap.size wr;have pA0:=(hnd.below (zAa hB Bz)).c0 (u:=.slice v.A v.n v.c) rfl;go_wp2_with fail
   (try simp only[List.append_eq,List.cons_append,List.nil_append])
   refine zAb (.pure 0 (.pure 1 (.pure 2 (.pure 4 (.pure 5 (.pure 6 (.take 7 (.only 3 (.only 8 (.only 9 (.pure 10 .done))))))))))) [9] (fun w'=>w'.cell? ⟨b,off+k,none⟩=some (.slice v.A v.n v.c)) (by kernel_rfl) (by kernel_rfl) pA0 ?_;iterate 6 (refine zP rfl rfl (fun w'=>by go_simp<;>with_reducible rfl) ?_;try simp only[uW,uX,uY,uZ])
   refine zT rfl rfl (fun w' pA0=>by go_simp<;>with_reducible rfl) ?_;try simp only[uW,uX,uY,uZ]
   refine zC 16 rfl rfl (fun K hK=>?_);go_simp
   with_reducible refine(getR_q (k:Int) (GV.below hgx (by go_grown)) zo zo).mono ?_
   rintro e w11 ⟨s11,A11,c11,l11,s11r,A11r,c11r,l11r,rfl,h11,b11⟩;replace b11:=zAa (a:=wr) (by go_grown) b11;replace hgv:=hgv.below b11;replace hon:=hon.below b11;replace ho:=ho.below b11;replace Bz:=zAa Bz b11;clear b11;have z11:=HZX.out (k:Int);clear pA0;have pA0:=(hnd.below (zAa hB Bz)).c0 (u:=.slice v.A v.n v.c) rfl;refine hK.out _ _ pA0 (fun _=>?_);try simp only[uW,uX,uY,uZ]
   clear hK K;refine zC 21 rfl rfl (fun K hK=>?_);go_simp
   with_reducible refine(scaleR_q (RN.r' (RN.below h11 (by go_grown)) z11) (GV.below hgv (by go_grown)) zo zo (zh (Tab.below hT.out (zAa hB (zAa (b:=w11) Bz (by go_grown)))))).mono ?_
   rintro e w12 ⟨A12,n12,c12,rfl,⟨V,hv1,hv2,hv3,_⟩,b12⟩;replace b12:=zAa (a:=w11) (by go_grown) b12;replace hon:=hon.below b12;replace ho:=ho.below b12;replace Bz:=zAa Bz b12;clear b12;rw[hMS] at hv2;have HV3:=zh hv3;have hvn:n12≤100:=by have h1:=hv1.1;have h2:=congrArg List.length hv3;rw[prs_len] at h2;have h3:=nrm_len ((prs v.L).map fun x=>(x.1,pget P (k:Int)*x.2));rw[List.length_map,prs_len,HVN.out] at h3;omega
   clear hv3;clear pA0;have pA0:=(hnd.below (zAa hB Bz)).c0 (u:=.slice v.A v.n v.c) rfl;refine hK.out _ _ pA0 (fun _=>?_);try simp only[uW,uX,uY,uZ]
   clear hK K;refine zAe (o:=⟨some 22,_,_,_,_,_⟩) rfl rfl zd (fun K hK=>?_);have hdr:w12.drew.heap.size=w12.heap.size:=rfl;have hdr2:w12.drew.drew.heap.size=w12.heap.size:=rfl;refine Elt.wp2 elt_term Tryz.underlying55 _ _ rfl (w.heap.size) (.slice H t hc) (t) (O) rfl ho (.slice A12 n12 c12) (n12) (V) rfl (Sl.below hv1 (by go_grown)).2 zo (zia (zw hB Bz)) ?_;intro H13 c13 w13 ho13 hg13;refine hK.out _ _ ?_;try simp only[uW,uX,uY,uZ]
   clear hK K;replace hB:=(zAa (zAa hB Bz) (by go_grown)).trans (hg13.below (zia (zw hB Bz)) (fun g hg=>by have:=ho.base g hg;omega));clear hdr hdr2;replace hon:=hon.k hg13.k;replace hv2:=hv2.k hg13.k;clear hg13 Bz;have Bz:=Below.refl w13.heap.size w13;clear pA0;have pA0:=(hnd.below (zAa hB Bz)).c0 (u:=.slice v.A v.n v.c) rfl;refine zP rfl rfl (fun w'=>by go_simp<;>with_reducible rfl) ?_;try simp only[uW,uX,uY,uZ]
   refine zAc ?_;go_wp2_with fail
   go_roundg (n-(k+1))
   case measure=>have:=HGK.out;omega
   case rel=>exact⟨k+1,_,_,_,_,rfl,by go_num,zo,rfl,zo,OwnR.below ho13 (by go_grown),by rw[prs_append,HP.out,HV3.out,HRT.out],OnT.cat (OnT.below hon (by go_grown)) (OnT.below hv2 (by go_grown)),fun a=>by rw[wsum_append,Nat.add_mul,Nat.one_mul];exact Nat.add_le_add (HWS.out a) (wsum_rise (by rw[HV3.out];exact(nrm_nrm _).rise) (fun t ht=>by have h1:=OnT.dg hv2 t ht;have h2:=(hv2 t ht).2.2;simp only at h2;omega) a),zAa (zAa hB Bz) (by go_grown)⟩
  ·obtain rfl:k=n:=zo;have i1:¬(k:Int)<(k:Int):=zo;have HEND:Hid (nrm (prs O)=nrm (timesP (CL.map fun v=>prs v.L) (nrm P))):=zh (by rw[HP.out,←rtm_end,List.length_map,HLN.out]);have HGV:Hid (GV wr H t hc (prs O) K):=zh ⟨O,ho.sl' elt_term (ho.eltn elt_term zo),hon.ok,rfl,fun a=>Nat.le_trans (HWS.out a) hK,own_cap ho⟩;clear ho hon HP HWS;have Bz:=Below.refl wr.heap.size wr;go_wp2_with fail
   with_reducible refine(normR_q HGV.out zo zo (zh (hT.out.below hB))).mono ?_
   rintro e w21 ⟨A21,n21,c21,rfl,h21,b21⟩;replace b21:=zAa (a:=wr) (by go_grown) b21;replace Bz:=zAa Bz b21;clear b21;go_wp2_with fail
   go_ret
   have hF:=zAa (c:=w21) hB Bz;exact⟨_,_,_,rfl,by rw[←HEND.out];exact(NV.below h21 (by go_grown)).mono zo,zAa hF (by go_grown)⟩
def RL1 (w:World) (l:List Rat) (n K gk:Nat) (s5 s6:Value) (wr:World):Prop :=
 ∃(k:Nat) (H:Option Addr) (hc:Nat) (O:List Tm),s5=.slice H k hc∧s6=.int .i64 (k:Int)∧k≤n∧n-k=gk∧OwnR wr w.heap.size 114 5 (.slice H k hc) k (flat Tm.cs O)∧prs O=(idxP l).take k∧OnT wr O (fun _=>K+1)∧Below w.heap.size w wr
theorem leftR_q {w:World} {X A:Option Addr} {nx cx n c:Nat} {P:List (Int×Rat)} {CL:List Vc} (M MC K WT wc:Nat) (hx:GV w X nx cx P M) (h:Sl Vc.cs 1 w A n c CL) (hcl:Hid (∀v∈CL,GV w v.A v.n v.c (prs v.L) MC∧v.n≤1000∧wtot (prs v.L)≤wc∧sz (pdot P (prs v.L))≤K)) (hM:M+MC≤880) (hW:wtot P≤WT) (hWK:WT+wc+4*nx≤880) (hK:K≤850) (hn:n≤90000) (hT:Hid (Tab w)) :
  Calls Tryz.prog 60 #[.slice X nx cx,.slice A n c] w (TellsV w (nrm (idxP (CL.map fun v=>pdot P (prs v.L)))) (K+8)):=by
 have HS:=zh h;have HLN:=zh h.1;have HGX:=zh hx;clear h hx;go_enter Tryz.func60,Tryz.ntmps60
 go_wp2_with fail
 go_loopg [5,6] n (fun gk s5 s6 wr=>RL1 w (CL.map fun v=>pdot P (prs v.L)) n K gk s5 s6 wr)
 case atStart=>exact⟨0,none,0,[],rfl,rfl,Nat.zero_le _,rfl,OwnR.nil _ _ _ _,rfl,OnT.nil _ _,Below.refl _ _⟩
 case round =>
  obtain⟨k,H,hc,O,rfl,rfl,hk,hgk,ho,hp,hon,hB⟩:=hrel;have HGK:=zh hgk;have HP:=zh hp;clear hgk hp;by_cases hlt:k<n
  ·obtain⟨b,off,rfl,hel⟩:=HS.out.at Vc.cs_len zo zo;obtain⟨v,hv⟩:∃v,CL[k]?=some v:=⟨CL[k]'(by rw[HLN.out];exact hlt),List.getElem?_eq_getElem _⟩;have hnd:ElA w b (off+k) (Vc.cs v):=by have:=hel k v hv;rwa [Nat.mul_one] at this
   have hvg:=hcl.out v (List.mem_of_getElem? hv);have hgv:=hvg.1.below hB;have hgx:=HGX.out.below hB;have hv1:=hvg.2.1;have hv2:=hvg.2.2.1;have hv3:=hvg.2.2.2;have HTS:Hid ((idxP (CL.map fun v=>pdot P (prs v.L))).take (k+1)=(idxP (CL.map fun v=>pdot P (prs v.L))).take k++[((k:Int),pdot P (prs v.L))]):=zh (zAk (idxP_at (by rw[List.getElem?_map,hv];rfl)));have i1:(k:Int)<(n:Int):=zo;have i2:(0:Int)≤(k:Int):=zo;clear hel hv hvg;have Bz:=Below.refl wr.heap.size wr;have pA0:=(hnd.below (zAa hB Bz)).c0 (u:=.slice v.A v.n v.c) rfl;go_wp2_with fail
   with_reducible refine(dotR_q (GV.below hgx (by go_grown)) (GV.below hgv (by go_grown)) zo zo zo zo zo).mono ?_
   rintro e w11 ⟨s11,A11,c11,l11,s11r,A11r,c11r,l11r,rfl,h11,b11⟩;replace b11:=zAa (a:=wr) (by go_grown) b11;replace hon:=hon.below b11;replace ho:=ho.below b11;replace Bz:=zAa Bz b11;clear b11;clear pA0;go_wp2_with (at_builtin;refine And.left (b:=True) ?_)
   refine⟨?_,trivial⟩;obtain⟨V11,hW,x0,hN⟩:=zAf w11 #[.int .i64 (k:Int),.bool s11,.slice A11 l11 c11,.bool s11r,.slice A11r l11r c11r] 114;rw[←hW];clear hW;obtain⟨v0,hb0⟩:∃b,b=w11.heap.size:=⟨_,rfl⟩;rw[←hb0] at x0 ⊢;have ow_0:w.heap.size≤v0:=zia (zw hB Bz);have nv0_own:=OwnR.off' (b:=v0) ho zo;replace h11:=h11.below hN;replace hon:=hon.below hN;replace ho:=ho.below hN;replace hB:=zAa (zAa hB Bz) hN;have HX0:=zh x0;clear x0 hN Bz hb0;have Bz:=Below.refl V11.heap.size V11;have hdr:V11.drew.heap.size=V11.heap.size:=rfl;have hdr2:V11.drew.drew.heap.size=V11.heap.size:=rfl;refine Elt.app elt_term rfl _ _ rfl (w.heap.size) (.slice H k hc) (k) (O) rfl ho (.slice (some ⟨v0,0,none⟩) 1 1) (1) ([⟨(k:Int),⟨s11,A11,c11,l11,s11r,A11r,c11r,l11r,pdot P (prs v.L),true⟩⟩]) rfl (From.one (HX0.out.below (zAa Bz (by go_grown))) (⟨(k:Int),⟨s11,A11,c11,l11,s11r,A11r,c11r,l11r,pdot P (prs v.L),true⟩⟩) rfl (elt_term.len _)) zo (zia (zw hB Bz)) ?_;intro H12 c12 w12 ho12 hg12;replace hB:=(zAa (zAa hB Bz) (by go_grown)).trans (hg12.below (zia (zw hB Bz)) (fun g hg=>by have:=ho.base g hg;omega));clear HX0;clear hdr hdr2;replace h11:=h11.k hg12.k;replace hon:=hon.k hg12.k;clear hg12 Bz;have Bz:=Below.refl w12.heap.size w12;go_wp2_with fail
   go_roundg (n-(k+1))
   case measure=>have:=HGK.out;omega
   case rel=>exact⟨k+1,_,_,_,rfl,by go_num,zo,rfl,OwnR.below ho12 (by go_grown),by rw[prs_append,HP.out,HTS.out];rfl,(OnT.below hon (by go_grown)).snoc (RN.below h11 (by go_grown)) rfl (by show sz (pdot P (prs v.L))+1≤K+1;omega),zAa (zAa hB Bz) (by go_grown)⟩
  ·obtain rfl:k=n:=zo;have i1:¬(k:Int)<(k:Int):=zo;have hpo:prs O=idxP (CL.map fun v=>pdot P (prs v.L)):=by rw[HP.out,List.take_of_length_le (by unfold idxP;rw[List.length_mapIdx,List.length_map,HLN.out];exact Nat.le_refl _)]
   have HEND:Hid (nrm (prs O)=nrm (idxP (CL.map fun v=>pdot P (prs v.L)))):=zh (by rw[hpo]);have HGV:Hid (GV wr H k hc (prs O) (K+2)):=zh ⟨O,ho.sl' elt_term (ho.eltn elt_term zo),hon.ok,rfl,wsum_rise (by rw[hpo];exact idxP_rise _) (fun t ht=>by have h1:=hon.dg t ht;have h2:=(hon t ht).2.2;simp only at h2;omega),own_cap ho⟩;clear ho hon HP hpo;have Bz:=Below.refl wr.heap.size wr;go_wp2_with fail
   with_reducible refine(normR_q HGV.out zo zo (zh (hT.out.below hB))).mono ?_
   rintro e w21 ⟨A21,n21,c21,rfl,h21,b21⟩;replace b21:=zAa (a:=wr) (by go_grown) b21;replace Bz:=zAa Bz b21;clear b21;go_wp2_with fail
   go_ret
   have hF:=zAa (c:=w21) hB Bz;exact⟨_,_,_,rfl,by rw[←HEND.out];exact(NV.below h21 (by go_grown)).mono zo,zAa hF (by go_grown)⟩
theorem rightR6_q {w:World} {A:Option Addr} {n c M:Nat} {CL:List Vc} {kn:Int} (h:Sl Vc.cs 1 w A n c CL) (hcl:Hid (∀v∈CL,GV w v.A v.n v.c (prs v.L) M∧Sl Tm.cs 5 w v.A v.n v.c v.L∧(∀t∈v.L,FrOk w 800000 t.x)∧v.n≤1000)) (hMM:M≤870) (hn:n≤1000000) (r:Bool) (hr:Hid (((CL.all fun v=>rightB v.L kn)&&decide (0≤kn))=r)) (hT:Hid (Tab w)) :
  Calls Tryz.prog 62 #[.slice A n c,.int .i64 kn] w fun e w'=>e=.returned (.bool r)∧Below w.heap.size w w':=by
 have HS:=zh h;have HLN:=zh h.1;clear h;go_enter Tryz.func62,Tryz.ntmps62
 go_wp2_with fail
 go_loopg [5] n (fun gk s wr=>AL1 w CL (fun v=>rightB v.L kn) n gk s wr)
 case atStart=>exact⟨0,Nat.zero_le _,rfl,rfl,Below.refl _ _,rfl⟩
 case round =>
  obtain⟨i,hi,hgk,rfl,hB,hd⟩:=hrel;have HGK:=zh hgk;have HD:=zh hd;clear hgk hd;by_cases hlt:i<n
  ·obtain⟨b,off,rfl,hel⟩:=HS.out.at Vc.cs_len zo zo;obtain⟨v,hv⟩:∃v,CL[i]?=some v:=⟨CL[i]'(by rw[HLN.out];exact hlt),List.getElem?_eq_getElem _⟩;have hnd:ElA w b (off+i) (Vc.cs v):=by have:=hel i v hv;rwa [Nat.mul_one] at this
   have HVI:=zh hv;have hvg:=hcl.out v (List.mem_of_getElem? hv);have hgv:=hvg.1.below hB;have hvs:Hid (Sl Tm.cs 5 wr v.A v.n v.c v.L):=zh (hvg.2.1.below hB);have hvf:Hid (∀t∈v.L,FrOk wr 800000 t.x):=zh fun t ht=>(hvg.2.2.1 t ht).below hB;have hvn:=hvg.2.2.2;have i1:(i:Int)<(n:Int):=zo;have i2:(0:Int)≤(i:Int):=zo;clear hel hv hvg;cases hrv:rightB v.L kn
   ·have HRV:=zh hrv;clear hrv;have Bz:=Below.refl wr.heap.size wr;have pA0:=(hnd.below (zAa hB Bz)).c0 (u:=.slice v.A v.n v.c) rfl;go_wp2_with fail
    with_reducible refine(rightR_q (GV.below hgv (by go_grown)) hvs.out hvf hMM hvn false HRV (zh (Tab.below hT.out (zAa hB (zAa (b:=wr) Bz (by go_grown)))))).mono ?_
    rintro e w11 ⟨rfl,b11⟩;replace b11:=zAa (a:=wr) (by go_grown) b11;replace Bz:=zAa Bz b11;clear b11;clear pA0;go_wp2_with fail
    go_ret
    have hF:=zAa (c:=w11) hB Bz;obtain rfl:r=false:=by rw[←hr.out,all_no HVI.out HRV.out];rfl
    exact⟨rfl,zAa hF (by go_grown)⟩
   ·have HRV:=zh hrv;clear hrv;have Bz:=Below.refl wr.heap.size wr;have pA0:=(hnd.below (zAa hB Bz)).c0 (u:=.slice v.A v.n v.c) rfl;go_wp2_with fail
    with_reducible refine(rightR_q (GV.below hgv (by go_grown)) hvs.out hvf hMM hvn true HRV (zh (Tab.below hT.out (zAa hB (zAa (b:=wr) Bz (by go_grown)))))).mono ?_
    rintro e w11 ⟨rfl,b11⟩;replace b11:=zAa (a:=wr) (by go_grown) b11;replace Bz:=zAa Bz b11;clear b11;clear pA0;go_wp2_with fail
    go_roundg (n-(i+1))
    case measure=>have:=HGK.out;omega
    case rel=>exact⟨i+1,zo,rfl,by go_num,zAa (zAa hB Bz) (by go_grown),take_all HD.out HVI.out HRV.out⟩
  ·obtain rfl:i=n:=zo;have i1:¬(i:Int)<(i:Int):=zo;have gk0:decide (0≤kn)=r:=by rw[←hr.out,all_yes HLN.out HD.out,Bool.true_and]
   have Bz:=Below.refl wr.heap.size wr;go_wp2_with fail
   go_ret
   have hF:=zAa (c:=wr) hB Bz;exact⟨rfl,zAa hF (by go_grown)⟩
def TellsVf (w:World) (P:List (Int×Rat)) (M:Nat) (e:Ending) (w':World):Prop:=∃A n c,e=.returned (.slice A n c)∧NV w' A n c P M∧(∀a,A=some a→w.heap.size≤a.block)∧Below w.heap.size w w'
theorem ofRf_q {w:World} {A:Option Addr} {n c m:Nat} {L:List Fr} (h:Sl Fr.cs 4 w A n c L) (hok:Hid (∀x∈L,FrOk w m x)) (hm:m≤1900) (hn:n≤1000000) (hT:Hid (Tab w)) :
  Calls Tryz.prog 110 #[.slice A n c] w (TellsVf w (nrm (idxP (L.map fun x=>x.q))) (m+2)):=by
 have HS:=zh h;have HLN:=zh h.1;clear h;go_enter Tryz.func110,Tryz.ntmps110
 go_wp2_with fail
 go_loopg [3,4] n (fun gk s3 s4 wr=>OF2 w n (L.map fun x=>x.q) (m+2) gk s3 s4 wr)
 case atStart=>exact⟨0,0,none,0,[],rfl,rfl,Nat.zero_le _,rfl,OwnR.nil _ _ _ _,rfl,OnT.nil _ _,Below.refl _ _⟩
 case round =>
  obtain⟨i,k,H,hc,O,rfl,rfl,hi,hgk,ho,hp,hon,hB⟩:=hrel;have HGK:=zh hgk;have HP:=zh hp;clear hgk hp;by_cases hlt:i<n
  ·obtain⟨b,off,rfl,hel⟩:=HS.out.at Fr.cs_len zo zo;obtain⟨x,hx⟩:∃x,L[i]?=some x:=⟨L[i]'(by rw[HLN.out];exact hlt),List.getElem?_eq_getElem _⟩;have hnd:=hel i x hx;have hfx:=(hok.out x (List.mem_of_getElem? hx)).below hB;have HPS:=zh (filt_snoc (P:=idxP (L.map fun x=>x.q)) (x:=((i:Int),x.q)) (idxP_at (by rw[List.getElem?_map,hx];rfl)));have hkl:k≤i:=by
    have h1:=congrArg List.length HP.out;rw[prs_len,ho.eltn elt_vec zo] at h1;have h2:=List.length_filter_le (fun x:Int×Rat=>decide (x.2≠0)) ((idxP (L.map fun x=>x.q)).take i);rw[List.length_take] at h2;omega
   have hpq:=put_q (i:Int) ho hB.size hon hfx.r hm (zia hfx.r.sz) zo (zh (hT.out.below hB));have i1:(i:Int)<(n:Int):=zo;have i2:(0:Int)≤(i:Int):=zo;obtain⟨p0,p1,p2,p3,-⟩:=(hnd.below hB).ez;clear hel hx hnd hfx;go_wp2_with fail
   with_reducible refine hpq.mono ?_
   rintro e w1 ⟨H1,k1,c1,O1,rfl,ho1,hp1,hon1,hg1⟩;have HB1:=zh (hB.trans (hg1.below hB.size (fun g hg=>ho.base g hg)));have HP1:Hid (prs O1=((idxP (L.map fun x=>x.q)).take (i+1)).filter (fun x=>decide (x.2≠0))):=zh (by rw[hp1,HP.out,HPS.out]);clear p0 p1 p2 p3 hpq ho hon hp1 hg1 hB;go_wp2_with fail
   go_roundg (n-(i+1))
   case measure=>have:=HGK.out;omega
   case rel=>exact⟨i+1,k1,H1,c1,O1,rfl,by go_num,zo,rfl,ho1.below (by go_grown),HP1.out,hon1.below (by go_grown),zAa HB1.out (by go_grown)⟩
  ·obtain rfl:i=n:=zo;have i1:¬(i:Int)<(i:Int):=zo;have HNV:Hid (NV wr H k hc (nrm (idxP (L.map fun x=>x.q))) (m+2)):=zh ⟨O,ho.sl' elt_vec (ho.eltn elt_vec zo),hon,by
    rw[HP.out,List.take_of_length_le (by unfold idxP;rw[List.length_mapIdx,List.length_map,HLN.out];exact Nat.le_refl _),idxP_nrm],fun e=>by
    obtain⟨_,_,e9,h9,_⟩:=ho.slice;cases e9;exact(h9 e).2⟩
   have HBA:Hid (∀a,H=some a→w.heap.size≤a.block):=zh (fun a ha=>by subst ha;exact ho.base a.block rfl);clear ho hon;go_wp2_with fail
   go_ret
   exact⟨H,k,hc,rfl,HNV.out,HBA.out,hB⟩
theorem turn_no6 {w:World} {A:Option Addr} {n c:Nat} (k:Int) (hk:k<0∨65536<k) :
  Calls Tryz.prog 51 #[.slice A n c,.int .i64 k] w fun e w'=>e=.returned (.tuple #[.slice none 0 0,.int .i64 2])∧Below w.heap.size w w':=by
 by_cases g1:k<0
 ·clear hk;go_enter Tryz.func51,Tryz.ntmps51
  go_wp2_with fail
  go_ret2
  exact⟨rfl,Below.refl _ _⟩
 ·have g2:65536<k:=zo;clear hk;go_enter Tryz.func51,Tryz.ntmps51
  go_wp2_with fail
  go_ret2
  exact⟨rfl,Below.refl _ _⟩
def VG (w:World) (g:Nat) (C:List (List (Int×Rat))) (i MM:Nat) (V:List Vc):Prop :=
 ∀(j:Nat) v,V[j]?=some v→(j<i→CN w v MM∧prs v.L=turnF C (j:Int)∧∀a,v.A=some a→a.block≠g)∧(i≤j→v=zVc)
theorem VG.below {w w':World} {g i MM:Nat} {C:List (List (Int×Rat))} {V:List Vc} (h:VG w g C i MM V) (hb:Below w.heap.size w w'):VG w' g C i MM V:=fun j v hv=>⟨fun hj=>⟨((h j v hv).1 hj).1.below hb,((h j v hv).1 hj).2⟩,(h j v hv).2⟩
theorem VG.step {w W:World} {g i MM:Nat} {C:List (List (Int×Rat))} {V:List Vc} (h:VG w g C i MM V) (ho:∀(k j:Nat),k≠g→W.cell? ⟨k,j,none⟩=w.cell? ⟨k,j,none⟩) (hk:K64 w W) (hi:i<V.length) {x:Vc} (hx:CN W x MM) (hp:prs x.L=turnF C (i:Int)) (ha:∀a,x.A=some a→a.block≠g):VG W g C (i+1) MM (V.set i x):=fun j v hv=>by
 by_cases e:j=i
 ·subst e;rw[List.getElem?_set_self hi,Option.some.injEq] at hv;subst hv;exact⟨fun _=>⟨hx,hp,ha⟩,fun h1=>by omega⟩
 ·rw[List.getElem?_set_ne (fun e2=>e e2.symm)] at hv;have h1:=h j v hv;refine⟨fun hj=>?_,fun hj=>h1.2 zo⟩;obtain⟨⟨c1,c2,c3⟩,c4,c5⟩:=h1.1 zo;exact⟨⟨c1.off ho c5,c2.k hk,c3⟩,c4,c5⟩
theorem turnF_nrm (C:List (List (Int×Rat))) (i:Int):nrm (idxP (C.map fun c=>pget c i))=turnF C i:=nrm_eq (turn_nrm C i) fun a=>(turn_idx C i a).symm ▸ rfl
def RU1 (w:World) (g m:Nat) (C:List (List (Int×Rat))) (MM gk:Nat) (s:Value) (wr:World):Prop:=∃(i:Nat) (V:List Vc),i≤m∧m-i=gk∧s=.int .i64 (i:Int)∧OwnR wr w.heap.size 55 1 (.slice (some ⟨g,0,none⟩) m m) m (flat Vc.cs V)∧VG wr g C i MM V∧Below w.heap.size w wr
def RU2 (w wo:World) (l:List Rat) (n K gk:Nat) (s8 s9:Value) (wr:World):Prop:=∃(k:Nat) (H:Option Addr) (hc:Nat) (D:List Fr),s8=.slice H k hc∧s9=.int .i64 (k:Int)∧k≤n∧n-k=gk∧OwnR wr wo.heap.size 50 4 (.slice H k hc) k (flat Fr.cs D)∧D.map (fun x=>x.q)=l.take k∧AllRn wr K D∧Below w.heap.size w wr∧Below wo.heap.size wo wr
theorem turnR_q {w:World} {A:Option Addr} {n c m M:Nat} {CL:List Vc} (h:Sl Vc.cs 1 w A n c CL) (hcl:Hid (∀v∈CL,GV w v.A v.n v.c (prs v.L) M∧v.n≤1000)) (hM:M≤880) (hn:n≤100000) (hm:m≤65536) (hT:Hid (Tab w)) :
  Calls Tryz.prog 51 #[.slice A n c,.int .i64 (m:Int)] w fun e w'=>∃g,e=.returned (.tuple #[.slice (some ⟨g,0,none⟩) m m,.int .i64 0])∧CM w' (some ⟨g,0,none⟩) m m (turnT (CL.map fun v=>prs v.L) m) (M+4)∧Below w.heap.size w w':=by
 have HS:=zh h;have HLN:=zh h.1;have g1:¬(m:Int)<0:=zo;have g2:¬(65536:Int)<(m:Int):=zo;clear h;go_enter Tryz.func51,Tryz.ntmps51
 go_wp2_with (at_make;refine And.left (b:=True) ?_)
 refine⟨?_,trivial⟩;refine Elt.makeN elt_vcs zVc (fun i z h1 h2=>vc_zero h1 h2) rfl _ _ rfl .i64 .i64 m rfl rfl zo w.heap.size (Nat.le_refl _) ?_;intro g w1 ho1 b1;have HO1:=zh ho1;have HB1:=zh b1;clear ho1 b1;go_wp2_with fail
 go_loopg [7] m (fun gk s wr=>RU1 w g m (CL.map fun v=>prs v.L) (M+4) gk s wr)
 case atStart=>exact⟨0,List.replicate m zVc,Nat.zero_le _,rfl,by go_num,HO1.out.below (by go_grown),(fun j v hv=>⟨fun hj=>by omega,fun _=>List.eq_of_mem_replicate (List.mem_of_getElem? hv)⟩),zAa HB1.out (by go_grown)⟩
 case round =>
  clear HO1 HB1;obtain⟨i,V,hi,hgk,rfl,ho,hvg,hB⟩:=hrel;have HGK:=zh hgk;have HVG:=zh hvg;clear hgk hvg;by_cases hlt:i<m
  ·have i1:(i:Int)<(m:Int):=zo;have Bz:=Below.refl wr.heap.size wr;go_wp2_with fail
   obtain⟨wo,rfl⟩:∃wo,wo=wr:=⟨_,rfl⟩;have HO1:=zh ho;have HB1:=zh hB;have HVL:=zh (show i<V.length by rw[ho.eltn elt_vcs zo];exact hlt);clear ho hB Bz;go_loopg [8,9] n (fun gk s8 s9 wr=>RU2 w wo ((CL.map fun v=>prs v.L).map fun c=>pget c (i:Int)) n (M+3) gk s8 s9 wr)
   case atStart=>exact⟨0,none,0,[],rfl,by go_num,Nat.zero_le _,rfl,OwnR.nil _ _ _ _,rfl,(fun x hx=>by cases hx),zAa HB1.out (by go_grown),by go_grown⟩
   case round =>
    obtain⟨k,H,hc,D,rfl,rfl,hk,hgj,hr,hd,hfr,hB,hBW⟩:=hrel;have HGJ:=zh hgj;have HD:=zh hd;have hWw:w.heap.size≤wo.heap.size:=HB1.out.size;clear hgj hd HB1;by_cases hlt2:k<n
    ·obtain⟨b,off,rfl,hel⟩:=HS.out.at Vc.cs_len zo zo;obtain⟨v,hv⟩:∃v,CL[k]?=some v:=⟨CL[k]'(by rw[HLN.out];exact hlt2),List.getElem?_eq_getElem _⟩;have hnd:ElA w b (off+k) (Vc.cs v):=by have:=hel k v hv;rwa [Nat.mul_one] at this
     have hvv:=hcl.out v (List.mem_of_getElem? hv);have hgv:=hvv.1.below hB;have hvn:v.n≤1000000:=zia hvv.2;have HZV:=zh (gv_sz hvv.1);have HTS:Hid (((CL.map fun v=>prs v.L).map fun c=>pget c (i:Int)).take (k+1)=((CL.map fun v=>prs v.L).map fun c=>pget c (i:Int)).take k++[pget (prs v.L) (i:Int)]):=zh (zAk (by rw[List.getElem?_map,List.getElem?_map,hv];rfl));have j1:(k:Int)<(n:Int):=zo;have j2:(0:Int)≤(k:Int):=zo;clear hel hv hvv;have Bz:=Below.refl wr.heap.size wr;have pA0:=(hnd.below (zAa hB Bz)).c0 (u:=.slice v.A v.n v.c) rfl;go_wp2_with fail
     with_reducible refine(getR_q (i:Int) (GV.below hgv (by go_grown)) zo hvn).mono ?_
     rintro e w31 ⟨s31,A31,c31,l31,s31r,A31r,c31r,l31r,rfl,h31,b31⟩;replace b31:=zAa (a:=wr) (by go_grown) b31;replace hfr:=hfr.below b31;replace hr:=hr.below b31;replace Bz:=zAa Bz b31;clear b31;have z31:=HZV.out (i:Int);clear pA0;go_wp2_with fail
     with_reducible refine(norm_r4 (RN.r' (RN.below h31 (by go_grown)) z31) zo).mono ?_
     rintro e w32 ⟨s32,A32,c32,l32,s32r,A32r,c32r,l32r,rfl,h32,b32⟩;replace b32:=zAa (a:=w31) (by go_grown) b32;replace hfr:=hfr.below b32;replace hr:=hr.below b32;replace Bz:=zAa Bz b32;clear b32;have z32:=HZV.out (i:Int);go_wp2_with (at_builtin;refine And.left (b:=True) ?_)
     refine⟨?_,trivial⟩;obtain⟨V31,hW,x0,hN⟩:=zAf w32 #[.bool s32,.slice A32 l32 c32,.bool s32r,.slice A32r l32r c32r] 50;rw[←hW];clear hW;obtain⟨v0,hb0⟩:∃b,b=w32.heap.size:=⟨_,rfl⟩;rw[←hb0] at x0 ⊢;have ow_0:w.heap.size≤v0:=zia (zw hB Bz);have nv0_row:=OwnR.off' (b:=v0) hr zo;replace hfr:=hfr.below hN;replace h32:=h32.below hN;replace hr:=hr.below hN;replace hB:=zAa (zAa hB Bz) hN;replace hBW:=zAa (zAa hBW Bz) hN;have HX0:=zh x0;clear x0 hN Bz hb0;have Bz:=Below.refl V31.heap.size V31;have hdr:V31.drew.heap.size=V31.heap.size:=rfl;have hdr2:V31.drew.drew.heap.size=V31.heap.size:=rfl;refine Elt.app elt_frs rfl _ _ rfl (wo.heap.size) (.slice H k hc) (k) (D) rfl hr (.slice (some ⟨v0,0,none⟩) 1 1) (1) ([⟨s32,A32,c32,l32,s32r,A32r,c32r,l32r,pget (prs v.L) (i:Int),true⟩]) rfl (From.one (HX0.out.below (zAa Bz (by go_grown))) (⟨s32,A32,c32,l32,s32r,A32r,c32r,l32r,pget (prs v.L) (i:Int),true⟩) rfl (elt_frs.len _)) zo (zj hBW.size Bz.size) ?_;intro H33 c33 w33 ho33 hg33;replace hB:=(zAa (zAa hB Bz) (by go_grown)).trans (hg33.below (zia (zw hB Bz)) (fun g hg=>by have:=hr.base g hg;omega));replace hBW:=(zAa (zAa hBW Bz) (by go_grown)).trans (hg33.below (zj hBW.size Bz.size) (fun g hg=>by have:=hr.base g hg;omega));clear HX0;clear hdr hdr2;replace hfr:=hfr.k hg33.k;replace h32:=h32.k hg33.k;clear hg33 Bz;have Bz:=Below.refl w33.heap.size w33;go_wp2_with fail
     go_roundg (n-(k+1))
     case measure=>have:=HGJ.out;omega
     case rel=>exact⟨k+1,_,_,_,rfl,by go_num,zo,rfl,OwnR.below ho33 (by go_grown),by rw[List.map_append,HD.out,HTS.out];rfl,AllRn.snoc (AllRn.below hfr (by go_grown)) (AllRn.put (RN.below h32 (by go_grown)) (by show sz (pget (prs v.L) (i:Int))+1≤_;omega)),zAa (zAa hB Bz) (by go_grown),zAa (zAa hBW Bz) (by go_grown)⟩
    ·obtain rfl:k=n:=zo;have j1:¬(k:Int)<(k:Int):=zo;have ho:=HO1.out.below hBW;have hvg:=HVG.out.below hBW;have HGW:Hid (g<wr.heap.size):=zh ho.blk.1;obtain⟨y0,hy0⟩:∃y,V[i]?=some y:=⟨V[i]'HVL.out,List.getElem?_eq_getElem _⟩;have HV0:=zh hy0;have HSR:=zh (hr.sl' elt_frs (hr.eltn elt_frs zo));have HFR:Hid (∀x∈D,FrOk wr (M+2) x):=zh (fun x hx=>by
      have h1:=hfr x hx;have h2:=h1.1.fr (m:=M+2) (zia h1.2.2);have e:x=⟨x.s,x.A,x.c,x.l,x.s',x.A',x.c',x.l',x.q,true⟩:=by rw[←h1.2.1]
      rw[e];exact h2)
     have HTF:Hid (nrm (idxP (D.map fun x=>x.q))=turnF (CL.map fun v=>prs v.L) (i:Int)):=zh (by rw[HD.out,List.take_of_length_le (by rw[List.length_map,List.length_map,HLN.out];exact Nat.le_refl _),turnF_nrm]);have i2:(0:Int)≤(i:Int):=zo;clear hr hfr hy0;have Bz:=Below.refl wr.heap.size wr;go_wp2_with fail
     with_reducible refine(ofRf_q (m:=M+2) HSR.out HFR zo zo (zh (hT.out.below hB))).mono ?_
     rintro e w51 ⟨A51,n51,c51,rfl,⟨V',hv1,hv2,hv3,hv4⟩,hfar,b51⟩;replace b51:=zAa (a:=wr) (by go_grown) b51;replace ho:=ho.below b51;replace hvg:=hvg.below b51;replace Bz:=zAa Bz b51;clear b51;have HV3:=zh hv3;have HV4:=zh hv4;have HFA:Hid (∀a,A51=some a→wr.heap.size≤a.block):=zh hfar;clear hv3 hv4 hfar;have pE0:=vc_cell ho HV0.out;have fE0:=ho.frozen i;have y54:=ho.blk.1;go_wp2_with fail
     have hgs:=ho.blk.1;obtain⟨V51,hV,ho2,hg2⟩:=vc_store ho HV0.out ⟨A51,n51,c51,V'⟩;have hoff:∀(k j:Nat),k≠g→V51.cell? ⟨k,j,none⟩=w51.cell? ⟨k,j,none⟩:=fun k j hk=>by rw[hV];exact cell_off1 (Ne.symm hk)
     rw[←hV];clear hV;have hvx:CN V51 ⟨A51,n51,c51,V'⟩ (M+4):=⟨Sl.off hv1 hoff (fun a ha=>by have h1:=HFA.out a ha;have h2:=HGW.out;omega),OnT.k hv2 hg2.k,HV4.out⟩;replace hvg:=VG.step (VG.below hvg (Below.refl _ _)) hoff hg2.k HVL.out hvx (by rw[HV3.out,HTF.out]) (fun a ha=>by have h1:=HFA.out a ha;have h2:=HGW.out;omega);replace hB:=(zAa hB Bz).trans (hg2.below (zia (zw hB Bz)) (fun g' hg'=>by have:=ho.base g' hg';omega));clear ho;have ho:=ho2;clear ho2 hg2 Bz hgs hoff hvx;have Bz:=Below.refl V51.heap.size V51;clear pE0 fE0 y54;go_wp2_with fail
     go_roundg (m-(i+1))
     case measure=>have:=HGK.out;omega
     case rel=>exact⟨i+1,_,zo,rfl,by go_num,OwnR.below ho (by go_grown),VG.below hvg (by go_grown),zAa (zAa hB Bz) (by go_grown)⟩
  ·obtain rfl:i=m:=zo;have i1:¬(i:Int)<(i:Int):=zo;have hvl:=ho.eltn elt_vcs zo;have HCM:Hid (CM wr (some ⟨g,0,none⟩) i i (turnT (CL.map fun v=>prs v.L) i) (M+4)):=zh ⟨V,ho.sl' elt_vcs hvl,fun v hv=>by
    obtain⟨j,hj⟩:=List.getElem?_of_mem hv;exact((HVG.out j v hj).1 (zia (List.getElem?_eq_some_iff.1 hj).1)).1,by
    apply List.ext_getElem?
    intro j;unfold turnT
    rw[List.getElem?_map,List.getElem?_map];by_cases hji:j<i
    ·rw[List.getElem?_range hji,List.getElem?_eq_getElem zo,Option.map_some,Option.map_some];rw[((HVG.out j _ (List.getElem?_eq_getElem zo)).1 hji).2.1]
    ·rw[List.getElem?_eq_none zo,List.getElem?_eq_none (by rw[List.length_range];omega)];rfl⟩
   clear ho hvl HVG;have Bz:=Below.refl wr.heap.size wr;go_wp2_with fail
   go_ret2
   have hF:=zAa (c:=wr) hB Bz;exact⟨_,rfl,HCM.out.below (by go_grown),zAa hF (by go_grown)⟩
end Go.Proofs.YtljjgfmeaejnfaaGreatDoor
