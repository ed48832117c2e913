/-
  tripwireref05.put, Of. Written by wip/gen/pu.py.
-/
import Derived.Test.YtldcfmangolkoaaGreatDoorYRf
import Derived.Test.YtldcfmangolkoaaGreatDoorYMx2
import Derived.Test.YtldcfmangolkoaaGreatDoorYVj
namespace Go.Proofs.YtldcfmangolkoaaGreatDoor
open Go.RowKit Tw
theorem Grew.stay {w w':World} (v:Value) (hb:Below w.heap.size w w'):Grew w w' v v:=⟨⟨hb.os,hb.tape,hb.output,hb.size,fun i hi _=>hb.block i hi⟩,K64.below hb,.inl rfl⟩
theorem Grew.after {w w1 w':World} {v v':Value} (hg:Grew w1 w' v v') (hb:Below w.heap.size w w1) (_hlt:∀g,v.ownBlock=some g→g<w.heap.size):Grew w w' v v' :=
 ⟨⟨hg.by_.os.trans hb.os,hg.by_.tape.trans hb.tape,hg.by_.output.trans hb.output,Nat.le_trans hb.size hg.by_.size,fun i hi hn=>(hg.by_.block i (Nat.lt_of_lt_of_le hi hb.size) hn).trans (hb.block i hi)⟩,K64.trans (K64.below hb) hg.k,by
  rcases hg.new with h | ⟨g,h,h2⟩
  ·exact .inl h
  ·exact .inr ⟨g,h,Nat.le_trans hb.size h2⟩⟩
theorem sign_z0 {q:Rat} (h:q=0):q.num.sign=0:=by subst h;rfl
theorem sign_nz {q:Rat} (h:q≠0):q.num.sign≠0:=fun e=>h (by
 have h1:=Int.sign_eq_zero_iff_zero.1 e
 exact Rat.num_eq_zero.1 h1)
def TellsPut (w:World) (B:Nat) (v:Value) (O:List Tm) (at_:Int) (q:Rat) (M:Nat) (e:Ending) (w':World):Prop :=
 ∃H' k' hc' O',e=.returned (.slice H' k' hc')∧OwnR w' B 118 5 (.slice H' k' hc') k' (flat Tm.cs O')∧prs O'=prs O++(if q=0 then [] else [(at_,q)])∧OnT w' O' (fun _=>M)∧Grew w w' v (.slice H' k' hc')
set_option maxRecDepth 100000 in
set_option maxHeartbeats 4000000 in
theorem put_q {w:World} {B k hc m M:Nat} {H:Option Addr} {O:List Tm} {s s':Bool} {A A':Option Addr} {l c l' c':Nat} {q:Rat} (at_:Int) (ho:OwnR w B 118 5 (.slice H k hc) k (flat Tm.cs O)) (hBw:B≤w.heap.size) (hon:OnT w O (fun _=>M)) (ha:R w s A c l s' A' c' l' q m) (hm:m≤1900) (hM:sz q+1≤M) (hk:k≤1000000000) (_hT:Hid (Tab w)) :
  Calls Tryz.prog 90 #[.slice H k hc,.int .i64 at_,.agg #[.bool s,.slice A l c,.bool s',.slice A' l' c']] w (TellsPut w B (.slice H k hc) O at_ q M):=by
 have HLT:=Lib.hid ho.lt
 have HM:=Lib.hid hM
 clear hM
 by_cases hq:q=0
 ·have HQ0:=Lib.hid hq
  have HZ:=Lib.hid (sign_z0 hq)
  clear hq
  obtain⟨W,hW,x0,hB⟩:=zAi w #[.bool s,.slice A l c,.bool s',.slice A' l' c'] 57
  replace hon:=hon.below hB
  replace ho:=ho.below hB
  replace ha:=ha.below hB
  have HX0:=Lib.hid x0
  clear x0
  have Bz:=Below.refl W.heap.size W
  have p0_0:=(HX0.out.below Bz).cell 0 (.bool s) rfl
  have p0_1:=(HX0.out.below Bz).cell 1 (.slice A l c) rfl
  have p0_2:=(HX0.out.below Bz).cell 2 (.bool s') rfl
  have p0_3:=(HX0.out.below Bz).cell 3 (.slice A' l' c') rfl
  go_enter Tryz.func90,Tryz.ntmps90
  go_wp2_with fail
  rw[←hW]
  clear hW
  go_wp2_with fail
  with_reducible refine(sign_r4 (R.below ha (by go_grown)) (by omega) 0 HZ).mono ?_
  rintro e w1 ⟨rfl,b1⟩
  replace b1:=zAa (a:=W) (by go_grown) b1
  replace hon:=hon.below b1
  replace ho:=ho.below b1
  replace Bz:=zAa Bz b1
  clear b1
  clear p0_0 p0_1 p0_2 p0_3
  go_wp2_with fail
  go_ret
  have hF:=zAa (c:=w1) hB Bz
  exact⟨H,k,hc,O,rfl,OwnR.below ho (by go_grown),by rw[if_pos HQ0.out,List.append_nil],OnT.below hon (by go_grown),Grew.stay _ (zAa hF (by go_grown))⟩
 ·have HQ0:=Lib.hid hq
  obtain⟨z,hz⟩:∃z,q.num.sign=z:=⟨_,rfl⟩
  have hz0:z≠0:=by rw[←hz];exact sign_nz hq
  have g1:(z==0)=false:=by simpa using hz0
  have HZ:=Lib.hid hz
  clear hq hz
  obtain⟨W,hW,x0,hB⟩:=zAi w #[.bool s,.slice A l c,.bool s',.slice A' l' c'] 57
  replace hon:=hon.below hB
  replace ho:=ho.below hB
  replace ha:=ha.below hB
  have HX0:=Lib.hid x0
  clear x0
  have Bz:=Below.refl W.heap.size W
  have p0_0:=(HX0.out.below Bz).cell 0 (.bool s) rfl
  have p0_1:=(HX0.out.below Bz).cell 1 (.slice A l c) rfl
  have p0_2:=(HX0.out.below Bz).cell 2 (.bool s') rfl
  have p0_3:=(HX0.out.below Bz).cell 3 (.slice A' l' c') rfl
  go_enter Tryz.func90,Tryz.ntmps90
  go_wp2_with fail
  rw[←hW]
  clear hW
  go_wp2_with fail
  with_reducible refine(sign_r4 (R.below ha (by go_grown)) (by omega) z HZ).mono ?_
  rintro e w1 ⟨rfl,b1⟩
  replace b1:=zAa (a:=W) (by go_grown) b1
  replace hon:=hon.below b1
  replace ho:=ho.below b1
  replace ha:=ha.below b1
  replace Bz:=zAa Bz b1
  clear b1
  clear p0_0 p0_1 p0_2 p0_3
  have p0_0:=(HX0.out.below Bz).cell 0 (.bool s) rfl
  have p0_1:=(HX0.out.below Bz).cell 1 (.slice A l c) rfl
  have p0_2:=(HX0.out.below Bz).cell 2 (.bool s') rfl
  have p0_3:=(HX0.out.below Bz).cell 3 (.slice A' l' c') rfl
  go_wp2_with fail
  with_reducible refine(norm_r4 (R.below ha (by go_grown)) (by omega)).mono ?_
  rintro e w2 ⟨s2,A2,c2,l2,s2r,A2r,c2r,l2r,rfl,h2,b2⟩
  replace b2:=zAa (a:=w1) (by go_grown) b2
  replace hon:=hon.below b2
  replace ho:=ho.below b2
  replace Bz:=zAa Bz b2
  clear b2
  clear p0_0 p0_1 p0_2 p0_3
  go_wp2_with (at_builtin;refine And.left (b:=True) ?_)
  refine⟨?_,trivial⟩
  obtain⟨V1,hW,x1,hN⟩:=zAi w2 #[.int .i64 at_,.bool s2,.slice A2 l2 c2,.bool s2r,.slice A2r l2r c2r] 118
  rw[←hW]
  clear hW
  obtain⟨v1,hb1⟩:∃b,b=w2.heap.size:=⟨_,rfl⟩
  rw[←hb1] at x1 ⊢
  have o0_1:w.heap.size<v1:=by have:=(HX0.out.below Bz).lt;omega
  have ow_1:w.heap.size≤v1:=by have:=hB.size;have:=Bz.size;omega
  have nv1_own:=OwnR.off' (b:=v1) ho (by omega)
  replace h2:=h2.below hN
  replace hon:=hon.below hN
  replace ho:=ho.below hN
  replace hB:=zAa (zAa hB Bz) hN
  replace HX0:=Lib.hid ((HX0.out.below Bz).below hN)
  have HX1:=Lib.hid x1
  clear x1 hN Bz hb1
  have Bz:=Below.refl V1.heap.size V1
  have hdr:V1.drew.heap.size=V1.heap.size:=rfl
  have hdr2:V1.drew.drew.heap.size=V1.heap.size:=rfl
  refine Elt.app elt_vec rfl _ _ rfl (B) (.slice H k hc) (k) (O) rfl ho (.slice (some ⟨v1,0,none⟩) 1 1) (1) ([⟨at_,⟨s2,A2,c2,l2,s2r,A2r,c2r,l2r,q,true⟩⟩]) rfl (From.one (HX1.out.below (zAa Bz (by go_grown))) (⟨at_,⟨s2,A2,c2,l2,s2r,A2r,c2r,l2r,q,true⟩⟩) rfl (elt_vec.len _)) (by omega) (by have:=hB.size;have:=Bz.size;have:=hBw;omega) ?_
  intro H3 c3 w3 ho3 hg3
  have hG:=hg3.after (zAa (zAa hB Bz) (by go_grown)) HLT.out
  have hon3:=(OnT.below hon (by go_grown)).k hg3.k
  have hr3:=(RN.below h2 (by go_grown)).k hg3.k
  clear hB Bz HX0 HX1 hdr hdr2
  go_wp2_with fail
  go_ret
  exact⟨H3,k+1,c3,_,rfl,ho3,by rw[prs_append,if_neg HQ0.out];rfl,hon3.snoc hr3 rfl HM.out,hG⟩
def OF2 (w:World) (n:Nat) (l:List Rat) (M gk:Nat) (s3 s4:Value) (wr:World):Prop :=
 ∃(i k:Nat) (H:Option Addr) (hc:Nat) (O:List Tm),s3=.slice H k hc∧s4=.int .i64 (i:Int)∧i≤n∧n-i=gk∧OwnR wr w.heap.size 118 5 (.slice H k hc) k (flat Tm.cs O)∧prs O=((idxP l).take i).filter (fun x=>decide (x.2≠0))∧OnT wr O (fun _=>M)∧Below w.heap.size w wr
theorem idxP_at {l:List Rat} {i:Nat} {q:Rat} (h:l[i]?=some q):(idxP l)[i]?=some ((i:Int),q):=by unfold idxP;rw[List.getElem?_mapIdx,h];rfl
theorem idxP_rise (l:List Rat):Rise (idxP l):=by
 unfold Rise idxP
 rw[List.pairwise_iff_getElem]
 intro i j hi hj hij
 rw[List.getElem_mapIdx,List.getElem_mapIdx]
 simp only
 omega
theorem idxP_nrm (l:List Rat):(idxP l).filter (fun x=>decide (x.2≠0))=nrm (idxP l):=(nrm_eq (idxP_rise l).strike fun a=>(pget_nz _ a).symm).symm
theorem filt_snoc {P:List (Int×Rat)} {i:Nat} {x:Int×Rat} (h:P[i]?=some x):(P.take (i+1)).filter (fun x=>decide (x.2≠0))=(P.take i).filter (fun x=>decide (x.2≠0))++(if x.2=0 then [] else [x]):=by
 rw[show P.take (i+1)=P.take i++[x] by rw[List.take_add_one,h];rfl,List.filter_append,List.filter_cons,List.filter_nil]
 by_cases e:x.2=0
 ·rw[if_pos e,if_neg (by simp[e])]
 ·rw[if_neg e,if_pos (by simp[e])]
set_option maxRecDepth 100000 in
set_option maxHeartbeats 4000000 in
theorem ofR_q {w:World} {A:Option Addr} {n c m:Nat} {L:List Fr} (h:Sl Fr.cs 4 w A n c L) (hok:Hid (∀x∈L,FrOk w m x)) (hm:m≤1900) (hn:n≤1000000) (hT:Hid (Tab w)) :
  Calls Tryz.prog 26 #[.slice A n c] w (TellsV w (nrm (idxP (L.map fun x=>x.q))) (m+2)):=by
 have HS:=Lib.hid h
 have HLN:=Lib.hid h.1
 clear h
 go_enter Tryz.func26,Tryz.ntmps26
 go_wp2_with fail
 go_loopg [3,4] n (fun gk s3 s4 wr=>OF2 w n (L.map fun x=>x.q) (m+2) gk s3 s4 wr)
 case atStart=>exact⟨0,0,none,0,[],rfl,rfl,Nat.zero_le _,rfl,OwnR.nil _ _ _ _,rfl,OnT.nil _ _,Below.refl _ _⟩
 case round =>
  obtain⟨i,k,H,hc,O,rfl,rfl,hi,hgk,ho,hp,hon,hB⟩:=hrel
  have HGK:=Lib.hid hgk
  have HP:=Lib.hid hp
  clear hgk hp
  by_cases hlt:i<n
  ·obtain⟨b,off,rfl,hel⟩:=HS.out.at Fr.cs_len (by omega) (by omega)
   obtain⟨x,hx⟩:∃x,L[i]?=some x:=⟨L[i]'(by rw[HLN.out];exact hlt),List.getElem?_eq_getElem _⟩
   have hnd:=hel i x hx
   have hfx:=(hok.out x (List.mem_of_getElem? hx)).below hB
   have HPS:=Lib.hid (filt_snoc (P:=idxP (L.map fun x=>x.q)) (x:=((i:Int),x.q)) (idxP_at (by rw[List.getElem?_map,hx];rfl)))
   have hkl:k≤i:=by
    have h1:=congrArg List.length HP.out
    rw[prs_len,ho.eltn elt_vec (by omega)] at h1
    have h2:=List.length_filter_le (fun x:Int×Rat=>decide (x.2≠0)) ((idxP (L.map fun x=>x.q)).take i)
    rw[List.length_take] at h2
    omega
   have hpq:=put_q (i:Int) ho hB.size hon hfx.r hm (by have:=hfx.r.sz;omega) (by omega) (Lib.hid (hT.out.below hB))
   have i1:(i:Int)<(n:Int):=by omega
   have i2:(0:Int)≤(i:Int):=by omega
   have p0:=(hnd.below hB).c0 (u:=.bool x.s) rfl
   have p1:=(hnd.below hB).at 1 (.slice x.A x.l x.c) rfl
   have p2:=(hnd.below hB).at 2 (.bool x.s') rfl
   have p3:=(hnd.below hB).at 3 (.slice x.A' x.l' x.c') rfl
   clear hel hx hnd hfx
   go_wp2_with fail
   with_reducible refine hpq.mono ?_
   rintro e w1 ⟨H1,k1,c1,O1,rfl,ho1,hp1,hon1,hg1⟩
   have HB1:=Lib.hid (hB.trans (hg1.below hB.size (fun g hg=>ho.base g hg)))
   have HP1:Hid (prs O1=((idxP (L.map fun x=>x.q)).take (i+1)).filter (fun x=>decide (x.2≠0))):=Lib.hid (by rw[hp1,HP.out,HPS.out])
   clear p0 p1 p2 p3 hpq ho hon hp1 hg1 hB
   go_wp2_with fail
   go_roundg (n-(i+1))
   case measure=>have:=HGK.out;omega
   case rel=>exact⟨i+1,k1,H1,c1,O1,rfl,by go_num,by omega,rfl,ho1.below (by go_grown),HP1.out,hon1.below (by go_grown),zAa HB1.out (by go_grown)⟩
  ·obtain rfl:i=n:=by omega
   have i1:¬(i:Int)<(i:Int):=by omega
   have HNV:Hid (NV wr H k hc (nrm (idxP (L.map fun x=>x.q))) (m+2)):=Lib.hid ⟨O,ho.sl' elt_vec (ho.eltn elt_vec (by omega)),hon,by
    rw[HP.out,List.take_of_length_le (by unfold idxP;rw[List.length_mapIdx,List.length_map,HLN.out];exact Nat.le_refl _),idxP_nrm],fun e=>by
    obtain⟨_,_,e9,h9,_⟩:=ho.slice
    cases e9
    exact(h9 e).2⟩
   clear ho hon
   go_wp2_with fail
   go_ret
   exact⟨H,k,hc,rfl,HNV.out,hB⟩
end Go.Proofs.YtldcfmangolkoaaGreatDoor
