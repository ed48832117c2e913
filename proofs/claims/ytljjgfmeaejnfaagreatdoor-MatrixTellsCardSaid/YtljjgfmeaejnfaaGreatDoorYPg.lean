/-
  tripwireref04.Make, Of; tripwireref05.Get, Places. Written by wip/gen/pl.py.
-/
import Derived.Test.YtljjgfmeaejnfaaGreatDoorYMx2
import Derived.Test.YtljjgfmeaejnfaaGreatDoorYRf
import Derived.Test.YtljjgfmeaejnfaaGreatDoorYSo5
set_option maxHeartbeats 16000000
set_option maxRecDepth 100000
namespace Go.Proofs.YtljjgfmeaejnfaaGreatDoor
open Go.RowKit Tw
theorem make_r4 {w:World} {s s':Bool} {A A':Option Addr} {l c l' c':Nat} {n d:Int} (hn:I w s A c l n) (hd:I w s' A' c' l' d) (hl:l≤900) (hl':l'≤900) (hd0:0<d) :
  Calls Tryz.prog 135 #[.agg #[.bool s,.slice A l c],.agg #[.bool s',.slice A' l' c']] w (TellsR w (qof n d)):=by
 have HS:Hid (d.sign=1):=zh (Int.sign_eq_one_of_pos hd0);obtain⟨W,hW,x0,x1,x2,hB⟩:=boxes3 w #[.bool s,.slice A l c] 48 #[.bool s',.slice A' l' c'] 48 #[.bool false,.slice none 0 0,.bool false,.slice none 0 0] 50;replace hd:=hd.below hB;replace hn:=hn.below hB;have HX0:=zh x0;have HX1:=zh x1;have HX2:=zh x2;clear x0 x1 x2;have Bz:=Below.refl W.heap.size W;obtain⟨pb0,pb1,-⟩:=(zxb HX1 Bz).cz;go_enter Tryz.func135,Tryz.ntmps135
 go_wp2_with fail
 rw[←hW];clear hW;go_wp2_with fail
 with_reducible refine(sign_r (I.below hd (by go_grown)) zo 1 HS.out).mono ?_
 rintro e w1 ⟨rfl,b1⟩;replace b1:=zAa (a:=W) (by go_grown) b1;replace hd:=hd.below b1;replace hn:=hn.below b1;replace Bz:=zAa Bz b1;clear b1;clear pb0 pb1;obtain⟨pa0,pa1,-⟩:=(zxb HX0 Bz).cz;obtain⟨pb0,pb1,-⟩:=(zxb HX1 Bz).cz;go_wp2_with fail
 with_reducible refine(lowest_r (I.below hn (by go_grown)) (I.below hd (by go_grown)) zo zo hd0).mono ?_
 rintro e w2 ⟨s2,A2,c2,l2,s2r,A2r,c2r,l2r,rfl,h2,b2⟩;replace b2:=zAa (a:=w1) (by go_grown) b2;replace Bz:=zAa Bz b2;clear b2;clear pa0 pa1 pb0 pb1;obtain⟨pc0,pc1,pc2,pc3,-⟩:=(zxb HX2 Bz).cz;have fc0:=(zxb HX2 Bz).frozen 0;have fc1:=(zxb HX2 Bz).frozen 1;have fc2:=(zxb HX2 Bz).frozen 2;have fc3:=(zxb HX2 Bz).frozen 3;have y2:=(zxb HX2 Bz).lt;go_wp2_with fail
 have qc0:w2.cell? ⟨w.heap.size+2,0,none⟩=some (.bool false):=pc0;have qc1:w2.cell? ⟨w.heap.size+2,1,none⟩=some (.slice none 0 0):=pc1;have qc2:w2.cell? ⟨w.heap.size+2,2,none⟩=some (.bool false):=pc2;have qc3:w2.cell? ⟨w.heap.size+2,3,none⟩=some (.slice none 0 0):=pc3;(try simp only[Exit.inBlock,Exit.then])
 refine bodyPost_ret (by simp[results,Tryz.results135,go_sem,qc0,qc1,qc2,qc3];try rfl) rfl ?_;obtain⟨V1,hW,x,kk,far,bel⟩:=store4 (.bool s2) (.slice A2 l2 c2) (.bool s2r) (.slice A2r l2r c2r) (zxb HX2 Bz) nofun nofun nofun nofun;rw[←hW];clear hW;replace h2:=h2.k kk;replace hB:=bel w.heap.size w zo (zAa hB Bz);replace HX0:=zh (far _ _ _ zo (zxb HX0 Bz));replace HX1:=zh (far _ _ _ zo (zxb HX1 Bz));replace HX2:=zh x;clear x kk far bel Bz;have Bz:=Below.refl V1.heap.size V1;have hF:=zAa (c:=V1) hB Bz;exact⟨s2,A2,c2,l2,s2r,A2r,c2r,l2r,rfl,(RN.below h2 (by go_grown)),zAa hF (by go_grown)⟩
theorem getR_q {w:World} {A:Option Addr} {n c M:Nat} {P:List (Int×Rat)} (at_:Int) (h:GV w A n c P M) (hM:M≤890) (hn:n≤1000000) :
  Calls Tryz.prog 38 #[.slice A n c,.int .i64 at_] w (TellsR w (pget P at_)):=by
 obtain⟨L,h1,h2,rfl,h4,h5⟩:=h;have HS:=zh h1;have HLN:=zh h1.1;have HOK:=zh h2;have HWS:=zh h4;clear h1 h2 h4 h5;obtain⟨W,hW,x0,x1,hB⟩:=boxes2 w #[.bool false,.slice none 0 0,.bool false,.slice none 0 0] 50 #[.bool false,.slice none 0 0,.bool false,.slice none 0 0] 50;have HX0:=zh x0;have HX1:=zh x1;clear x0 x1;have Bz:=Below.refl W.heap.size W;go_enter Tryz.func38,Tryz.ntmps38
 go_wp2_with fail
 rw[←hW];clear hW;go_wp2_with fail
 have HB1:=zh (zAa hB Bz);have XX0:=zh (zxb HX0 Bz);have XX1:=zh (zxb HX1 Bz);clear hB Bz HX0 HX1;go_loopg [6] n (fun gk s wr=>GT1 w L at_ n gk s wr)
 case atStart=>exact⟨0,_,_,_,_,_,_,_,_,Nat.zero_le _,rfl,rfl,RN.zero _,XX0.out,XX1.out,HB1.out⟩
 case round =>
  clear HB1 XX0 XX1;obtain⟨i,sS,sA,sc,sl,sS',sA',sc',sl',hi,hgk,rfl,hs,hx0,hx1,hB⟩:=hrel;have HGK:=zh hgk;have HX0:=zh hx0;have HX1:=zh hx1;clear hgk hx0 hx1;by_cases hlt:i<n
  ·obtain⟨b,off,rfl,hel⟩:=HS.out.at Tm.cs_len zo zo;obtain⟨x,hx⟩:∃x,L[i]?=some x:=⟨L[i]'(by rw[HLN.out];exact hlt),List.getElem?_eq_getElem _⟩;have hnd:=hel i x hx;have hfx:=HOK.out x (List.mem_of_getElem? hx);have hrx:R wr x.x.s x.x.A x.x.c x.x.l x.x.s' x.x.A' x.x.c' x.x.l' x.x.q (dgT x):=(hfx.below hB).r;have hss:sz (pget (prs (L.take i)) at_)≤wsum (L.take i) at_+1:=get_sz (fun t ht=>HOK.out t (List.mem_of_mem_take ht)) at_;have hws:wsum (L.take i) at_+(if x.at_=at_ then dgT x+2 else 0)≤M:=by rw[←wsum_snoc hx];exact Nat.le_trans (wsum_take_le L (i+1) at_) (HWS.out at_)
   have hpt:=pget_take hx at_;have i1:(i:Int)<(n:Int):=zo;have i2:(0:Int)≤(i:Int):=zo;clear hel hx hfx;by_cases hq:x.at_=at_
   ·have g1:(x.at_==at_)=true:=by simpa using hq
    have HSM:Hid (pget (prs (L.take i)) at_+x.x.q=pget (prs (L.take (i+1))) at_):=zh (by rw[hpt,if_pos hq]);rw[if_pos hq] at hws;clear hpt hq;have Bz:=Below.refl wr.heap.size wr;obtain⟨pb0,pb1,pb2,pb3,-⟩:=(zxb HX1 Bz).cz;have fb0:=(zxb HX1 Bz).frozen 0;have fb1:=(zxb HX1 Bz).frozen 1;have fb2:=(zxb HX1 Bz).frozen 2;have fb3:=(zxb HX1 Bz).frozen 3;have y1:=(zxb HX1 Bz).lt;obtain⟨pA0,pA1,pA2,pA3,pA4,-⟩:=(hnd.below (zAa hB Bz)).ez;go_wp2_with fail
    (try simp only[List.append_eq,List.cons_append,List.nil_append])
    refine zAb (.take 0 (.pure 1 (.pure 2 (.pure 3 (.pure 4 (.take 5 (.only 6 (.only 7 .done)))))))) [7] (fun w'=>w'.cell? ⟨(w.heap.size+1),0,none⟩=some (.bool sS)∧w'.cell? ⟨(w.heap.size+1),1,none⟩=some (.slice sA sl sc)∧w'.cell? ⟨(w.heap.size+1),2,none⟩=some (.bool sS')∧w'.cell? ⟨(w.heap.size+1),3,none⟩=some (.slice sA' sl' sc')∧w'.cell? ⟨b,off+i*5+1,none⟩=some (.bool x.x.s)∧w'.cell? ⟨b,off+i*5+2,none⟩=some (.slice x.x.A x.x.l x.x.c)∧w'.cell? ⟨b,off+i*5+3,none⟩=some (.bool x.x.s')∧w'.cell? ⟨b,off+i*5+4,none⟩=some (.slice x.x.A' x.x.l' x.x.c')) (by kernel_rfl) (by kernel_rfl) ⟨pb0,pb1,pb2,pb3,pA1,pA2,pA3,pA4⟩ ?_;refine zT rfl rfl (fun w' ⟨pb0,pb1,pb2,pb3,pA1,pA2,pA3,pA4⟩=>by go_simp<;>with_reducible rfl) ?_;try simp only[uW,uX,uY,uZ]
    iterate 4 (refine zP rfl rfl (fun w'=>by go_simp<;>with_reducible rfl) ?_;try simp only[uW,uX,uY,uZ])
    refine zT rfl rfl (fun w' ⟨pb0,pb1,pb2,pb3,pA1,pA2,pA3,pA4⟩=>by go_simp<;>with_reducible rfl) ?_;try simp only[uW,uX,uY,uZ]
    refine zC 26 rfl rfl (fun K hK=>?_);go_simp
    with_reducible refine(add_r4 (R.below hs.r (by go_grown)) (R.below hrx (by go_grown)) zo).mono ?_
    rintro e w1 ⟨s1,A1,c1,l1,s1r,A1r,c1r,l1r,rfl,h1,b1⟩;replace b1:=zAa (a:=wr) (by go_grown) b1;replace Bz:=zAa Bz b1;clear b1;clear pb0 pb1 pb2 pb3 fb0 fb1 fb2 fb3 y1 pA0 pA1 pA2 pA3 pA4;obtain⟨pb0,pb1,pb2,pb3,-⟩:=(zxb HX1 Bz).cz;have fb0:=(zxb HX1 Bz).frozen 0;have fb1:=(zxb HX1 Bz).frozen 1;have fb2:=(zxb HX1 Bz).frozen 2;have fb3:=(zxb HX1 Bz).frozen 3;have y1:=(zxb HX1 Bz).lt;obtain⟨-,pA1,pA2,pA3,pA4,-⟩:=(hnd.below (zAa hB Bz)).ez;refine hK.out _ _ ⟨pb0,pb1,pb2,pb3,pA1,pA2,pA3,pA4⟩ (fun _=>?_);try simp only[uW,uX,uY,uZ]
    clear hK K;refine zAe (o:=⟨none,_,_,_,_,_⟩) rfl rfl zd (fun K hK=>?_);go_simp
    refine hK.out _ _ ?_;try simp only[Act.put,uX,uY,uZ]
    clear hK K;refine zAc ?_;obtain⟨V1,hW,x,kk,far,bel⟩:=store4 (.bool s1) (.slice A1 l1 c1) (.bool s1r) (.slice A1r l1r c1r) (zxb HX1 Bz) nofun nofun nofun nofun;rw[←hW];clear hW;replace h1:=h1.k kk;replace hB:=bel w.heap.size w zo (zAa hB Bz);replace HX0:=zh (far _ _ _ zo (zxb HX0 Bz));replace HX1:=zh x;clear x kk far bel Bz;have Bz:=Below.refl V1.heap.size V1;clear pb0 pb1 pb2 pb3 fb0 fb1 fb2 fb3 y1 pA1 pA2 pA3 pA4;go_wp2_with fail
    go_roundg (n-(i+1))
    case measure=>have:=HGK.out;omega
    case rel=>exact⟨i+1,_,_,_,_,_,_,_,_,zo,rfl,by go_num,by rw[←HSM.out];exact RN.below h1 (by go_grown),HX0.out.below (zAa Bz (by go_grown)),HX1.out.below (zAa Bz (by go_grown)),zAa (zAa hB Bz) (by go_grown)⟩
   ·have g1:(x.at_==at_)=false:=by simpa using hq
    have HSM:Hid (pget (prs (L.take i)) at_=pget (prs (L.take (i+1))) at_):=zh (by rw[hpt,if_neg hq,Rat.add_zero]);clear hpt hq hws;have Bz:=Below.refl wr.heap.size wr;have pA0:=(hnd.below (zAa hB Bz)).c0 (u:=.int .i64 x.at_) rfl;go_wp2_with fail
    go_roundg (n-(i+1))
    case measure=>have:=HGK.out;omega
    case rel=>exact⟨i+1,_,_,_,_,_,_,_,_,zo,rfl,by go_num,by rw[←HSM.out];exact RN.below hs (by go_grown),HX0.out.below (zAa Bz (by go_grown)),HX1.out.below (zAa Bz (by go_grown)),zAa (zAa hB Bz) (by go_grown)⟩
  ·obtain rfl:i=n:=zo;have i1:¬(i:Int)<(i:Int):=zo;have HEND:Hid (pget (prs (L.take i)) at_=pget (prs L) at_):=zh (by rw[List.take_of_length_le (by rw[HLN.out];exact Nat.le_refl _)]);have Bz:=Below.refl wr.heap.size wr;obtain⟨pa0,pa1,pa2,pa3,-⟩:=(zxb HX0 Bz).cz;have fa0:=(zxb HX0 Bz).frozen 0;have fa1:=(zxb HX0 Bz).frozen 1;have fa2:=(zxb HX0 Bz).frozen 2;have fa3:=(zxb HX0 Bz).frozen 3;have y0:=(zxb HX0 Bz).lt;obtain⟨pb0,pb1,pb2,pb3,-⟩:=(zxb HX1 Bz).cz;go_wp2_with fail
   (try simp only[Exit.inBlock,Exit.then])
   refine bodyPost_ret (by simp[results,Tryz.results38,go_sem,pa0,pa1,pa2,pa3];try rfl) rfl ?_;obtain⟨V1,hW,x,kk,far,bel⟩:=store4 (.bool sS) (.slice sA sl sc) (.bool sS') (.slice sA' sl' sc') (zxb HX0 Bz) nofun nofun nofun nofun;rw[←hW];clear hW;replace hs:=hs.k kk;replace hB:=bel w.heap.size w zo (zAa hB Bz);replace HX1:=zh (far _ _ _ zo (zxb HX1 Bz));replace HX0:=zh x;clear x kk far bel Bz;have Bz:=Below.refl V1.heap.size V1;have hF:=zAa (c:=V1) hB Bz;exact⟨_,_,_,_,_,_,_,_,rfl,by rw[←HEND.out];exact RN.below hs (by go_grown),zAa hF (by go_grown)⟩
def plcs (VL:List Vc):List Int:=VL.flatMap fun v=>v.L.map fun t=>t.at_
theorem plcs_snoc {VL:List Vc} {k:Nat} {v:Vc} (h:VL[k]?=some v):plcs (VL.take (k+1))=plcs (VL.take k)++v.L.map fun t=>t.at_:=by
 unfold plcs
 rw[zAk h,List.flatMap_append];congr 1
 exact List.append_nil _
theorem plcs_len {VL:List Vc} {k:Nat}:(plcs (VL.take k)).length≤(plcs VL).length:=by
 have h:plcs VL=plcs (VL.take k)++plcs (VL.drop k):=by
  unfold plcs
  rw[←List.flatMap_append,List.take_append_drop]
 rw[h,List.length_append];omega
def PP1 (w:World) (VL:List Vc) (n gk:Nat) (s3 s4:Value) (wr:World):Prop :=
 ∃(k:Nat) (H:Option Addr) (hc m:Nat) (L:List Int),s3=.slice H m hc∧s4=.int .i64 (k:Int)∧k≤n∧n-k=gk∧OwnR wr w.heap.size 3 1 (.slice H m hc) m (flat ics L)∧PlS L (plcs (VL.take k))∧Below w.heap.size w wr
def PP2 (w:World) (S0:List Int) (v:Vc) (gk:Nat) (s3 s5:Value) (wr:World):Prop :=
 ∃(i:Nat) (H:Option Addr) (hc m:Nat) (L:List Int),s3=.slice H m hc∧s5=.int .i64 (i:Int)∧i≤v.n∧v.n-i=gk∧OwnR wr w.heap.size 3 1 (.slice H m hc) m (flat ics L)∧PlS L (S0++(v.L.take i).map fun t=>t.at_)∧Below w.heap.size w wr
def PP3 (w:World) (H:Option Addr) (hc m:Nat) (L:List Int) (a:Int) (gk:Nat) (s:Value) (wr:World):Prop :=
 ∃j:Nat,j≤m∧m-j≤gk∧s=.int .i64 (j:Int)∧OwnR wr w.heap.size 3 1 (.slice H m hc) m (flat ics L)∧(∀(i:Nat) (u:Int),i<j→L[i]?=some u→u<a)∧Below w.heap.size w wr
def PP4 (w:World) (g m c:Nat) (L:List Int) (j gk:Nat) (s:Value) (wr:World):Prop :=
 ∃(q:Nat) (y:Int),j≤q∧q≤m∧q-j≤gk∧s=.int .i64 (q:Int)∧OwnR wr w.heap.size 3 1 (.slice (some ⟨g,0,none⟩) (m+1) c) (m+1) (flat ics (shL L q y))∧Below w.heap.size w wr
theorem Sl.off {α:Type} {f:α→List Value} {k:Nat} {w V:World} {b n c:Nat} {A:Option Addr} {L:List α} (h:Sl f k w A n c L) (ho:∀(k j:Nat),k≠b→V.cell? ⟨k,j,none⟩=w.cell? ⟨k,j,none⟩) (hA:∀a,A=some a→a.block≠b):Sl f k V A n c L:=by
 obtain⟨h1,h2,A',c',e,h3,h4⟩:=h;cases e;refine⟨h1,h2,A,c,rfl,h3,fun a ha j u hu=>?_⟩;have h5:=h4 a ha j u hu;have h6:=World.cell?_spot h5;have h7:(a.add j).block=a.block:=by unfold Addr.add;split<;>rfl
 rw[←h5];have h8:a.add j=⟨a.block,(a.add j).off,none⟩:=by
  rw[←h7,←h6]
 rw[h8];exact ho _ _ (hA a ha)
def TellsPl (w:World) (S:List Int) (e:Ending) (w':World):Prop:=∃H k hc L,e=.returned (.slice H k hc)∧Sl ics 1 w' H k hc L∧PlS L S∧k≤S.length∧(∀a,H=some a→w.heap.size≤a.block)∧Below w.heap.size w w'
theorem places_q {w:World} {A:Option Addr} {n c:Nat} {VL:List Vc} (h:Sl Vc.cs 1 w A n c VL) (hv:Hid (∀v∈VL,Sl Tm.cs 5 w v.A v.n v.c v.L)) (hn:n≤1000000) (hs:Hid ((plcs VL).length≤1000000)) :
  Calls Tryz.prog 95 #[.slice A n c] w (TellsPl w (plcs VL)):=by
 have HS:=zh h;have HLN:=zh h.1;clear h;go_enter Tryz.func95,Tryz.ntmps95
 go_wp2_with fail
 go_loopg [3,4] n (fun gk s3 s4 wr=>PP1 w VL n gk s3 s4 wr)
 case atStart=>exact⟨0,none,0,0,[],rfl,rfl,Nat.zero_le _,rfl,OwnR.nil _ _ _ _,PlS.nil,Below.refl _ _⟩
 case round =>
  obtain⟨k,H,hc,m,L,rfl,rfl,hk,hgk,ho,hpl,hB⟩:=hrel;have HGK:=zh hgk;have HPL:=zh hpl;clear hgk hpl;by_cases hlt:k<n
  ·obtain⟨bv,ov,rfl,hel⟩:=HS.out.at Vc.cs_len zo zo;obtain⟨v,hvk⟩:∃v,VL[k]?=some v:=⟨VL[k]'(by rw[HLN.out];exact hlt),List.getElem?_eq_getElem _⟩;have hev:ElA w bv (ov+k) (Vc.cs v):=by have:=hel k v hvk;rwa [Nat.mul_one] at this
   have HVS:=zh (hv.out v (List.mem_of_getElem? hvk));have HVN:=zh (hv.out v (List.mem_of_getElem? hvk)).1;have HSN:=zh (plcs_snoc hvk);have hvn:v.n≤1000000:=by
    have h1:=plcs_len (VL:=VL) (k:=k+1);rw[HSN.out,List.length_append,List.length_map,HVN.out] at h1;have:=hs.out;omega
   have i1:(k:Int)<(n:Int):=zo;have i2:(0:Int)≤(k:Int):=zo;have HSL:Hid ((plcs (VL.take k)).length+v.n≤1000000):=zh (by
    have h1:=plcs_len (VL:=VL) (k:=k+1);rw[HSN.out,List.length_append,List.length_map,HVN.out] at h1;have:=hs.out;omega)
   clear hel hvk;have Bz:=Below.refl wr.heap.size wr;go_wp2_with fail
   have HO1:=zh ho;have HB2:=zh (zAa hB Bz);clear ho hB Bz;go_loopg [3,5] v.n (fun gk s3 s5 wr=>PP2 w (plcs (VL.take k)) v gk s3 s5 wr)
   case atStart=>exact⟨0,H,hc,m,L,rfl,by go_num,Nat.zero_le _,rfl,HO1.out.below (by go_grown),by rw[List.take_zero,List.map_nil,List.append_nil];exact HPL.out,zAa HB2.out (by go_grown)⟩
   case round =>
    clear HO1 HB2 HPL;obtain⟨i,H,hc,m,L,rfl,rfl,hi,hgi,ho,hpl,hB⟩:=hrel;have HGI:=zh hgi;have HPL:=zh hpl;have HLL:=zh (ho.eltn elt_ics zo);have hm0:m≤1000000:=by
     have h1:=hpl.len;rw[List.length_append,List.length_map,List.length_take,HVN.out,HLL.out] at h1;have:=HSL.out;omega
    clear hgi hpl;by_cases hlt2:i<v.n
    ·obtain⟨vA,vn,vc,vL⟩:=v;obtain⟨b,off,rfl,hel2⟩:=HVS.out.at Tm.cs_len (by show 0<5;omega) zo;obtain⟨x,hx⟩:∃x,vL[i]?=some x:=⟨vL[i]'(by have:=HVN.out;simp only at this hlt2;omega),List.getElem?_eq_getElem _⟩;have hnd:=hel2 i x hx;have HSI:Hid (((vL.take (i+1)).map fun t=>t.at_)=((vL.take i).map fun t=>t.at_)++[x.at_]):=zh (by rw[zAk hx,List.map_append];rfl);simp only at hlt2 hi hvn hev HSL HVN
     have k1:(i:Int)<(vn:Int):=zo;have k2:(0:Int)≤(i:Int):=zo;have i3:(0:Int)≤(vn:Int):=zo;clear hel2 hx;have Bz:=Below.refl wr.heap.size wr;have pA0:=(hev.below (zAa hB Bz)).c0 (u:=.slice (some ⟨b,off,none⟩) vn vc) rfl;have pB0:=(hnd.below (zAa hB Bz)).c0 (u:=.int .i64 x.at_) rfl;go_wp2_with fail
     obtain⟨a,ha⟩:∃a,a=x.at_:=⟨_,rfl⟩;rw[←ha];have HA:=zh ha;have HO1:=zh ho;have HB2:=zh (zAa hB Bz);clear ho hB Bz ha hnd;go_loopg [7] m (fun gk s wr=>PP3 w H hc m L a gk s wr)
     case atStart=>exact⟨0,Nat.zero_le _,zo,by go_num,HO1.out.below (by go_grown),(fun i u hi=>by omega),zAa HB2.out (by go_grown)⟩
     case round =>
      clear HO1 HB2;obtain⟨j,hj,hgj,rfl,ho,hlo,hB⟩:=hrel;have HLO:=zh hlo;clear hlo;by_cases hjm:j<m
      ·obtain⟨g,rfl⟩:=ho.some zo;obtain⟨u,hu⟩:∃u,L[j]?=some u:=⟨L[j]'(by rw[HLL.out];exact hjm),List.getElem?_eq_getElem _⟩;have HU:=zh hu;have j1:(j:Int)<(m:Int):=zo;have j2:(0:Int)≤(j:Int):=zo;by_cases hua:u<a
       ·have HLO2:Hid (∀(i:Nat) (u:Int),i<j+1→L[i]?=some u→u<a):=zh (fun i z hi hz=>by
         rcases Nat.lt_or_ge i j with h1 | h1
         ·exact HLO.out i z h1 hz
         ·obtain rfl:i=j:=zo;rw[hu,Option.some.injEq] at hz;rw[←hz];exact hua)
        clear hu;have Bz:=Below.refl wr.heap.size wr;have pC0:=int_cell ho HU.out;go_wp2_with fail
        go_roundg (m-(j+1))
        case measure=>omega
        case rel=>exact⟨j+1,zo,zo,by go_num,OwnR.below ho (by go_grown),HLO2.out,zAa (zAa hB Bz) (by go_grown)⟩
       ·by_cases hea:u=a
        ·have e1:(u==a)=true:=by simpa using hea
         have HSU:Hid (L[j]?=some x.at_):=zh (by rw[hu,hea,HA.out]);clear hu hea;have Bz:=Below.refl wr.heap.size wr;have pC0:=int_cell ho HU.out;go_wp2_with fail
         go_roundg (vn-(i+1))
         case measure=>have:=HGI.out;omega
         case rel=>exact⟨i+1,_,hc,m,L,rfl,by go_num,(by show i+1≤vn;omega),rfl,OwnR.below ho (by go_grown),by rw[HSI.out,←List.append_assoc];exact HPL.out.same HSU.out,zAa (zAa hB Bz) (by go_grown)⟩
        ·have e1:(u==a)=false:=by simpa using hea
         have HPN:Hid (PlS (shL L j a) (plcs (VL.take k)++(vL.take i).map (fun t=>t.at_)++[x.at_])):=zh (by rw[←HA.out];exact HPL.out.new (by rw[HLL.out];exact hj) HLO.out (fun z hz=>by rw[hu,Option.some.injEq] at hz;omega));clear hu hea;have Bz:=Below.refl wr.heap.size wr;have pC0:=int_cell ho HU.out;go_wp2_with (at_builtin;refine And.left (b:=True) ?_)
         refine⟨?_,trivial⟩;obtain⟨V41,hW,x0,hN⟩:=zAf wr #[.int .i64 0] 3;rw[←hW];clear hW;obtain⟨v0,hb0⟩:∃b,b=wr.heap.size:=⟨_,rfl⟩;rw[←hb0] at x0 ⊢;have ow_0:w.heap.size≤v0:=zia (zw hB Bz);have nv0_own:=OwnR.off' (b:=v0) ho zo;replace ho:=ho.below hN;replace hB:=zAa (zAa hB Bz) hN;have HX0:=zh x0;clear x0 hN Bz hb0;have Bz:=Below.refl V41.heap.size V41;clear pC0;have hdr:V41.drew.heap.size=V41.heap.size:=rfl;have hdr2:V41.drew.drew.heap.size=V41.heap.size:=rfl;refine Elt.app elt_ics rfl _ _ rfl (w.heap.size) (.slice (some ⟨g,0,none⟩) m hc) (m) (L) rfl ho (.slice (some ⟨v0,0,none⟩) 1 1) (1) ([(0:Int)]) rfl (From.one (HX0.out.below (zAa Bz (by go_grown))) ((0:Int)) rfl (elt_ics.len _)) zo (zia (zw hB Bz)) ?_;intro H41 c41 w41 ho41 hg41;replace hB:=(zAa (zAa hB Bz) (by go_grown)).trans (hg41.below (zia (zw hB Bz)) (fun g hg=>by have:=ho.base g hg;omega));clear HX0;clear hdr hdr2;clear hg41 Bz;have Bz:=Below.refl w41.heap.size w41;go_wp2_with fail
         obtain⟨g2,rfl⟩:=ho41.some zo;obtain⟨cc,hcc⟩:∃cc,cc=c41:=⟨_,rfl⟩;rw[←hcc] at ho41 ⊢;have HO1:=zh ho41;have HB2:=zh (zAa hB Bz);clear ho41 hB Bz hcc;go_loopg [8] (m-j) (fun gk s wr=>PP4 w g2 m cc L j gk s wr)
         case atStart=>exact⟨m,0,zo,Nat.le_refl _,Nat.le_refl _,by go_num,by have h9:=shL_start L 0;rw[HLL.out] at h9;rw[h9];exact HO1.out,HB2.out⟩
         case round =>
          clear HO1 HB2;obtain⟨q,y,hjq,hqm,hgq,rfl,ho,hB⟩:=hrel;by_cases hqj:j<q
          ·obtain⟨q,rfl⟩:∃q',q=q'+1:=⟨q-1,zo⟩;obtain⟨u,hu⟩:∃u,L[q]?=some u:=⟨L[q]'(by rw[HLL.out];omega),List.getElem?_eq_getElem _⟩;have HU:=zh (shL_get hu y);have HST:=zh (shL_step hu y);obtain⟨v0,hv0⟩:∃v,(shL L (q+1) y)[q+1]?=some v:=⟨(shL L (q+1) y)[q+1]'(by rw[shL_len,HLL.out];omega),List.getElem?_eq_getElem _⟩;have HV0:=zh hv0;have e1:((q+1:Nat):Int)=(q:Int)+1:=zo;rw[e1];have w6:IntKind.i64.wrap ((q:Int)+1-1)=(q:Int):=by rw[IntWalk.i64_in _ zo];omega
           have j1:(j:Int)<(q:Int)+1:=zo;have j2:(0:Int)≤(q:Int):=zo;have j3:(q:Int)<(m:Int)+1:=zo;have j4:(q:Int)+1<(m:Int)+1:=zo;have j5:(0:Int)≤(q:Int)+1:=zo;have j6:((q:Int)+1).toNat=q+1:=zo;clear hu hv0 e1;have Bz:=Below.refl wr.heap.size wr;have pD0:=int_cell ho HU.out;have pE0:=int_cell ho HV0.out;have fE0:=ho.frozen (q+1);have y54:=ho.blk.1;go_upto_region 16 with(fail)
           obtain⟨V61,hV,ho2,hg2⟩:=int_store ho HV0.out (u);rw[←hV];clear hV;replace hB:=(zAa hB Bz).trans (hg2.below (zia (zw hB Bz)) (fun g' hg'=>by have:=ho.base g' hg';omega));clear ho;have ho:=ho2;clear ho2 hg2 Bz;have Bz:=Below.refl V61.heap.size V61;clear pD0 pE0 fE0 y54;go_wp2_with fail
           go_roundg (q-j)
           case measure=>omega
           case rel=>exact⟨q,u,zo,zo,zo,by go_num,by rw[←HST.out];exact OwnR.below ho (by go_grown),zAa (zAa hB Bz) (by go_grown)⟩
          ·obtain rfl:q=j:=zo;obtain⟨v0,hv0⟩:∃v,(shL L q y)[q]?=some v:=⟨(shL L q y)[q]'(by rw[shL_len,HLL.out];omega),List.getElem?_eq_getElem _⟩;have HV0:=zh hv0;have HST:=zh (shL_set (L:=L) (k:=q) (by rw[HLL.out];omega) y a);have j1:¬(q:Int)<(q:Int):=zo;have j2:(0:Int)≤(q:Int):=zo;have j3:(q:Int)<(m:Int)+1:=zo;clear hv0;have Bz:=Below.refl wr.heap.size wr;have pE0:=int_cell ho HV0.out;have fE0:=ho.frozen q;have y54:=ho.blk.1;go_wp2_with fail
           obtain⟨V61,hV,ho2,hg2⟩:=int_store ho HV0.out (a);rw[←hV];clear hV;replace hB:=(zAa hB Bz).trans (hg2.below (zia (zw hB Bz)) (fun g' hg'=>by have:=ho.base g' hg';omega));clear ho;have ho:=ho2;clear ho2 hg2 Bz;have Bz:=Below.refl V61.heap.size V61;clear pE0 fE0 y54;go_wp2_with fail
           go_roundg (vn-(i+1))
           case measure=>have:=HGI.out;omega
           case rel=>exact⟨i+1,_,cc,m+1,shL L q a,rfl,by go_num,(by show i+1≤vn;omega),rfl,by rw[←HST.out];exact OwnR.below ho (by go_grown),by rw[HSI.out,←List.append_assoc];exact HPN.out,zAa (zAa hB Bz) (by go_grown)⟩
      ·have j1:¬(j:Int)<(m:Int):=zo;have HPN:Hid (PlS (shL L j a) (plcs (VL.take k)++(vL.take i).map (fun t=>t.at_)++[x.at_])):=zh (by rw[←HA.out];exact HPL.out.new (by rw[HLL.out];exact hj) HLO.out (fun z hz=>by rw[List.getElem?_eq_none (by rw[HLL.out];omega)] at hz;cases hz));have Bz:=Below.refl wr.heap.size wr;go_wp2_with (at_builtin;refine And.left (b:=True) ?_)
       refine⟨?_,trivial⟩;obtain⟨V41,hW,x0,hN⟩:=zAf wr #[.int .i64 0] 3;rw[←hW];clear hW;obtain⟨v0,hb0⟩:∃b,b=wr.heap.size:=⟨_,rfl⟩;rw[←hb0] at x0 ⊢;have ow_0:w.heap.size≤v0:=zia (zw hB Bz);have nv0_own:=OwnR.off' (b:=v0) ho zo;replace ho:=ho.below hN;replace hB:=zAa (zAa hB Bz) hN;have HX0:=zh x0;clear x0 hN Bz hb0;have Bz:=Below.refl V41.heap.size V41;have hdr:V41.drew.heap.size=V41.heap.size:=rfl;have hdr2:V41.drew.drew.heap.size=V41.heap.size:=rfl;refine Elt.app elt_ics rfl _ _ rfl (w.heap.size) (.slice H m hc) (m) (L) rfl ho (.slice (some ⟨v0,0,none⟩) 1 1) (1) ([(0:Int)]) rfl (From.one (HX0.out.below (zAa Bz (by go_grown))) ((0:Int)) rfl (elt_ics.len _)) zo (zia (zw hB Bz)) ?_;intro H41 c41 w41 ho41 hg41;replace hB:=(zAa (zAa hB Bz) (by go_grown)).trans (hg41.below (zia (zw hB Bz)) (fun g hg=>by have:=ho.base g hg;omega));clear HX0;clear hdr hdr2;clear hg41 Bz;have Bz:=Below.refl w41.heap.size w41;go_wp2_with fail
       obtain⟨g2,rfl⟩:=ho41.some zo;obtain⟨cc,hcc⟩:∃cc,cc=c41:=⟨_,rfl⟩;rw[←hcc] at ho41 ⊢;have HO1:=zh ho41;have HB2:=zh (zAa hB Bz);clear ho41 hB Bz hcc;go_loopg [8] (m-j) (fun gk s wr=>PP4 w g2 m cc L j gk s wr)
       case atStart=>exact⟨m,0,zo,Nat.le_refl _,Nat.le_refl _,by go_num,by have h9:=shL_start L 0;rw[HLL.out] at h9;rw[h9];exact HO1.out,HB2.out⟩
       case round =>
        clear HO1 HB2;obtain⟨q,y,hjq,hqm,hgq,rfl,ho,hB⟩:=hrel;by_cases hqj:j<q
        ·exact absurd hqj zo
        ·obtain rfl:q=j:=zo;obtain⟨v0,hv0⟩:∃v,(shL L q y)[q]?=some v:=⟨(shL L q y)[q]'(by rw[shL_len,HLL.out];omega),List.getElem?_eq_getElem _⟩;have HV0:=zh hv0;have HST:=zh (shL_set (L:=L) (k:=q) (by rw[HLL.out];omega) y a);have j1:¬(q:Int)<(q:Int):=zo;have j2:(0:Int)≤(q:Int):=zo;have j3:(q:Int)<(m:Int)+1:=zo;clear hv0;have Bz:=Below.refl wr.heap.size wr;have pE0:=int_cell ho HV0.out;have fE0:=ho.frozen q;have y54:=ho.blk.1;go_wp2_with fail
         obtain⟨V61,hV,ho2,hg2⟩:=int_store ho HV0.out (a);rw[←hV];clear hV;replace hB:=(zAa hB Bz).trans (hg2.below (zia (zw hB Bz)) (fun g' hg'=>by have:=ho.base g' hg';omega));clear ho;have ho:=ho2;clear ho2 hg2 Bz;have Bz:=Below.refl V61.heap.size V61;clear pE0 fE0 y54;go_wp2_with fail
         go_roundg (vn-(i+1))
         case measure=>have:=HGI.out;omega
         case rel=>exact⟨i+1,_,cc,m+1,shL L q a,rfl,by go_num,(by show i+1≤vn;omega),rfl,by rw[←HST.out];exact OwnR.below ho (by go_grown),by rw[HSI.out,←List.append_assoc];exact HPN.out,zAa (zAa hB Bz) (by go_grown)⟩
    ·obtain rfl:i=v.n:=zo;have k1:¬(v.n:Int)<(v.n:Int):=zo;have HPL:Hid (PlS L (plcs (VL.take (k+1)))):=zh (by rw[HSN.out];have h9:=HPL.out;rwa [List.take_of_length_le (l:=v.L) (by rw[HVN.out];exact Nat.le_refl _)] at h9);have Bz:=Below.refl wr.heap.size wr;have pA0:=(hev.below (zAa hB Bz)).c0 (u:=.slice v.A v.n v.c) rfl;go_wp2_with fail
     go_roundg (n-(k+1))
     case measure=>have:=HGK.out;omega
     case rel=>exact⟨k+1,H,hc,m,L,rfl,by go_num,zo,rfl,OwnR.below ho (by go_grown),HPL.out,zAa (zAa hB Bz) (by go_grown)⟩
  ·obtain rfl:k=n:=zo;have i1:¬(k:Int)<(k:Int):=zo;have HLL:=zh (ho.eltn elt_ics zo);have HSL:=zh (ho.sl' elt_ics HLL.out);have hpl2:PlS L (plcs VL):=by have h9:=HPL.out;rwa [List.take_of_length_le (by rw[HLN.out];exact Nat.le_refl _)] at h9
   have HP2:=zh hpl2;have HBA:Hid (∀a,H=some a→w.heap.size≤a.block):=zh (fun a ha=>by subst ha;exact ho.base a.block rfl);clear ho hpl2;go_wp2_with fail
   go_ret
   exact⟨H,m,hc,L,rfl,HSL.out,HP2.out,by have h9:=HP2.out.len;rw[HLL.out] at h9;exact h9,HBA.out,hB⟩
open Go.RowKit Tw
theorem Grew.stay {w w':World} (v:Value) (hb:Below w.heap.size w w'):Grew w w' v v:=⟨⟨hb.os,hb.tape,hb.output,hb.size,fun i hi _=>hb.block i hi⟩,K64.below hb,.inl rfl⟩
theorem Grew.after {w w1 w':World} {v v':Value} (hg:Grew w1 w' v v') (hb:Below w.heap.size w w1) (_hlt:∀g,v.ownBlock=some g→g<w.heap.size):Grew w w' v v' :=
 ⟨⟨hg.by_.os.trans hb.os,hg.by_.tape.trans hb.tape,hg.by_.output.trans hb.output,Nat.le_trans hb.size hg.by_.size,fun i hi hn=>(hg.by_.block i (Nat.lt_of_lt_of_le hi hb.size) hn).trans (hb.block i hi)⟩,K64.trans (K64.below hb) hg.k,by
  rcases hg.new with h | ⟨g,h,h2⟩
  ·exact .inl h
  ·exact .inr ⟨g,h,Nat.le_trans hb.size h2⟩⟩
theorem sign_z0 {q:Rat} (h:q=0):q.num.sign=0:=by subst h;rfl
theorem sign_nz {q:Rat} (h:q≠0):q.num.sign≠0:=fun e=>h (by
 have h1:=Int.sign_eq_zero_iff_zero.1 e;exact Rat.num_eq_zero.1 h1)
def TellsPut (w:World) (B:Nat) (v:Value) (O:List Tm) (at_:Int) (q:Rat) (M:Nat) (e:Ending) (w':World):Prop :=
 ∃H' k' hc' O',e=.returned (.slice H' k' hc')∧OwnR w' B 114 5 (.slice H' k' hc') k' (flat Tm.cs O')∧prs O'=prs O++(if q=0 then [] else [(at_,q)])∧OnT w' O' (fun _=>M)∧Grew w w' v (.slice H' k' hc')
theorem put_q {w:World} {B k hc m M:Nat} {H:Option Addr} {O:List Tm} {s s':Bool} {A A':Option Addr} {l c l' c':Nat} {q:Rat} (at_:Int) (ho:OwnR w B 114 5 (.slice H k hc) k (flat Tm.cs O)) (hBw:B≤w.heap.size) (hon:OnT w O (fun _=>M)) (ha:R w s A c l s' A' c' l' q m) (hm:m≤1900) (hM:sz q+1≤M) (hk:k≤1000000000) (_hT:Hid (Tab w)) :
  Calls Tryz.prog 96 #[.slice H k hc,.int .i64 at_,.agg #[.bool s,.slice A l c,.bool s',.slice A' l' c']] w (TellsPut w B (.slice H k hc) O at_ q M):=by
 have HLT:=zh ho.lt;have HM:=zh hM;clear hM;by_cases hq:q=0
 ·have HQ0:=zh hq;have HZ:=zh (sign_z0 hq);clear hq;obtain⟨W,hW,x0,hB⟩:=zAf w #[.bool s,.slice A l c,.bool s',.slice A' l' c'] 50;replace hon:=hon.below hB;replace ho:=ho.below hB;replace ha:=ha.below hB;have HX0:=zh x0;clear x0;have Bz:=Below.refl W.heap.size W;obtain⟨pa0,pa1,pa2,pa3,-⟩:=(zxb HX0 Bz).cz;go_enter Tryz.func96,Tryz.ntmps96
  go_wp2_with fail
  rw[←hW];clear hW;go_wp2_with fail
  with_reducible refine(sign_r4 (R.below ha (by go_grown)) zo 0 HZ).mono ?_
  rintro e w1 ⟨rfl,b1⟩;replace b1:=zAa (a:=W) (by go_grown) b1;replace hon:=hon.below b1;replace ho:=ho.below b1;replace Bz:=zAa Bz b1;clear b1;clear pa0 pa1 pa2 pa3;go_wp2_with fail
  go_ret
  have hF:=zAa (c:=w1) hB Bz;exact⟨H,k,hc,O,rfl,OwnR.below ho (by go_grown),by rw[if_pos HQ0.out,List.append_nil],OnT.below hon (by go_grown),Grew.stay _ (zAa hF (by go_grown))⟩
 ·have HQ0:=zh hq;obtain⟨z,hz⟩:∃z,q.num.sign=z:=⟨_,rfl⟩;have hz0:z≠0:=by rw[←hz];exact sign_nz hq
  have g1:(z==0)=false:=by simpa using hz0
  have HZ:=zh hz;clear hq hz;obtain⟨W,hW,x0,hB⟩:=zAf w #[.bool s,.slice A l c,.bool s',.slice A' l' c'] 50;replace hon:=hon.below hB;replace ho:=ho.below hB;replace ha:=ha.below hB;have HX0:=zh x0;clear x0;have Bz:=Below.refl W.heap.size W;obtain⟨pa0,pa1,pa2,pa3,-⟩:=(zxb HX0 Bz).cz;go_enter Tryz.func96,Tryz.ntmps96
  go_wp2_with fail
  rw[←hW];clear hW;go_wp2_with fail
  with_reducible refine(sign_r4 (R.below ha (by go_grown)) zo z HZ).mono ?_
  rintro e w1 ⟨rfl,b1⟩;replace b1:=zAa (a:=W) (by go_grown) b1;replace hon:=hon.below b1;replace ho:=ho.below b1;replace ha:=ha.below b1;replace Bz:=zAa Bz b1;clear b1;clear pa0 pa1 pa2 pa3;obtain⟨pa0,pa1,pa2,pa3,-⟩:=(zxb HX0 Bz).cz;go_wp2_with fail
  with_reducible refine(norm_r4 (R.below ha (by go_grown)) zo).mono ?_
  rintro e w2 ⟨s2,A2,c2,l2,s2r,A2r,c2r,l2r,rfl,h2,b2⟩;replace b2:=zAa (a:=w1) (by go_grown) b2;replace hon:=hon.below b2;replace ho:=ho.below b2;replace Bz:=zAa Bz b2;clear b2;clear pa0 pa1 pa2 pa3;go_wp2_with (at_builtin;refine And.left (b:=True) ?_)
  refine⟨?_,trivial⟩;obtain⟨V1,hW,x1,hN⟩:=zAf w2 #[.int .i64 at_,.bool s2,.slice A2 l2 c2,.bool s2r,.slice A2r l2r c2r] 114;rw[←hW];clear hW;obtain⟨v1,hb1⟩:∃b,b=w2.heap.size:=⟨_,rfl⟩;rw[←hb1] at x1 ⊢;have o0_1:w.heap.size<v1:=zia (zxb HX0 Bz).lt;have ow_1:w.heap.size≤v1:=zia (zw hB Bz);have nv1_own:=OwnR.off' (b:=v1) ho zo;replace h2:=h2.below hN;replace hon:=hon.below hN;replace ho:=ho.below hN;replace hB:=zAa (zAa hB Bz) hN;replace HX0:=zh ((zxb HX0 Bz).below hN);have HX1:=zh x1;clear x1 hN Bz hb1;have Bz:=Below.refl V1.heap.size V1;have hdr:V1.drew.heap.size=V1.heap.size:=rfl;have hdr2:V1.drew.drew.heap.size=V1.heap.size:=rfl;refine Elt.app elt_vec rfl _ _ rfl (B) (.slice H k hc) (k) (O) rfl ho (.slice (some ⟨v1,0,none⟩) 1 1) (1) ([⟨at_,⟨s2,A2,c2,l2,s2r,A2r,c2r,l2r,q,true⟩⟩]) rfl (From.one (HX1.out.below (zAa Bz (by go_grown))) (⟨at_,⟨s2,A2,c2,l2,s2r,A2r,c2r,l2r,q,true⟩⟩) rfl (elt_vec.len _)) zo (by have:=hB.size;have:=Bz.size;have:=hBw;omega) ?_;intro H3 c3 w3 ho3 hg3;have hG:=hg3.after (zAa (zAa hB Bz) (by go_grown)) HLT.out;have hon3:=(OnT.below hon (by go_grown)).k hg3.k;have hr3:=(RN.below h2 (by go_grown)).k hg3.k;clear hB Bz HX0 HX1 hdr hdr2;go_wp2_with fail
  go_ret
  exact⟨H3,k+1,c3,_,rfl,ho3,by rw[prs_append,if_neg HQ0.out];rfl,hon3.snoc hr3 rfl HM.out,hG⟩
def OF2 (w:World) (n:Nat) (l:List Rat) (M gk:Nat) (s3 s4:Value) (wr:World):Prop :=
 ∃(i k:Nat) (H:Option Addr) (hc:Nat) (O:List Tm),s3=.slice H k hc∧s4=.int .i64 (i:Int)∧i≤n∧n-i=gk∧OwnR wr w.heap.size 114 5 (.slice H k hc) k (flat Tm.cs O)∧prs O=((idxP l).take i).filter (fun x=>decide (x.2≠0))∧OnT wr O (fun _=>M)∧Below w.heap.size w wr
theorem idxP_at {l:List Rat} {i:Nat} {q:Rat} (h:l[i]?=some q):(idxP l)[i]?=some ((i:Int),q):=by unfold idxP;rw[List.getElem?_mapIdx,h];rfl
theorem idxP_rise (l:List Rat):Rise (idxP l):=by
 unfold Rise idxP
 rw[List.pairwise_iff_getElem];intro i j hi hj hij;rw[List.getElem_mapIdx,List.getElem_mapIdx];simp only
 omega
theorem idxP_nrm (l:List Rat):(idxP l).filter (fun x=>decide (x.2≠0))=nrm (idxP l):=(nrm_eq (idxP_rise l).strike fun a=>(pget_nz _ a).symm).symm
theorem filt_snoc {P:List (Int×Rat)} {i:Nat} {x:Int×Rat} (h:P[i]?=some x):(P.take (i+1)).filter (fun x=>decide (x.2≠0))=(P.take i).filter (fun x=>decide (x.2≠0))++(if x.2=0 then [] else [x]):=by
 rw[show P.take (i+1)=P.take i++[x] by rw[List.take_add_one,h];rfl,List.filter_append,List.filter_cons,List.filter_nil];by_cases e:x.2=0
 ·rw[if_pos e,if_neg (by simp[e])]
 ·rw[if_neg e,if_pos (by simp[e])]
open Go.RowKit Tw
theorem sl_box {α:Type} {f:α→List Value} {k:Nat} {w:World} {b n:Nat} {cs:Array Value} {te:TypeId} {L:List α} (hk:∀x,(f x).length=k) (h:Bx w b cs te) (hcs:cs.toList=flat f L) (hl:L.length=n):Sl f k w (some ⟨b,0,none⟩) n n L:=by
 subst hl;refine⟨rfl,by rw[flat_len hk],_,_,rfl,(fun h=>(by cases h)),fun a ha j u hu=>?_⟩;cases ha;rw[add_off,Nat.zero_add];refine h.cell j u ?_;rw[←hcs] at hu;simpa using hu
theorem gv_sz {w:World} {A:Option Addr} {n c M:Nat} {P:List (Int×Rat)} (h:GV w A n c P M) (a:Int):sz (pget P a)≤M+1:=by
 obtain⟨L,_,h2,rfl,h4,_⟩:=h;exact Nat.le_trans (get_sz h2 a) (Nat.add_le_add_right (h4 a) 1)
theorem gv_rows {w:World} {A:Option Addr} {n c M:Nat} {P:List (Int×Rat)} (h:GV w A n c P M):∃L:List Tm,Sl Tm.cs 5 w A n c L∧prs L=P:=by
 obtain⟨L,h1,_,h3,_⟩:=h;exact⟨L,h1,h3⟩
theorem at_prs (L:List Tm):(L.map fun t=>t.at_)=(prs L).map fun x=>x.1:=by
 unfold prs
 rw[List.map_map];rfl
def axP (q:Rat) (P Q:List (Int×Rat)):List (Int×Rat):=P++Q.map fun x=>(x.1,q*x.2)
theorem axP_get (q:Rat) (P Q:List (Int×Rat)) (a:Int):pget (axP q P Q) a=pget P a+q*pget Q a:=by unfold axP;rw[pget_append,pget_scale]
def AX1 (w W:World) (cs:Array Value) (Z:List (Int×Rat)) (k0 MM gk:Nat) (s7 s9:Value) (wr:World):Prop :=
 ∃(i k:Nat) (H:Option Addr) (hc:Nat) (O:List Tm),s7=.slice H k hc∧s9=.int .i64 (i:Int)∧i≤k0∧k0-i=gk∧OwnR wr W.heap.size 114 5 (.slice H k hc) k (flat Tm.cs O)∧prs O=(Z.take i).filter (fun x=>decide (x.2≠0))∧OnT wr O (fun _=>MM)∧Bx wr w.heap.size cs 50∧Below w.heap.size w wr∧Below W.heap.size W wr
theorem sl_two {w:World} {u v:Vc} (h1:Sl Tm.cs 5 w u.A u.n u.c u.L) (h2:Sl Tm.cs 5 w v.A v.n v.c v.L):∀x∈[u,v],Sl Tm.cs 5 w x.A x.n x.c x.L:=fun x hx=>by
 rcases List.mem_cons.1 hx with rfl | hx
 ·exact h1
 ·rcases List.mem_cons.1 hx with rfl | hx
  ·exact h2
  ·cases hx
theorem ax_mem {LX LY:List Tm} {q:Rat} {u v:Vc} (hu:u.L=LX) (hv:v.L=LY):∀x∈axP q (prs LY) (prs LX),x.1∈plcs [u,v]:=fun x hx=>by
 unfold plcs
 rw[List.flatMap_cons,List.flatMap_cons,List.flatMap_nil,List.append_nil,hu,hv,at_prs,at_prs];rcases List.mem_append.1 hx with h | h
 ·exact List.mem_append_right _ (List.mem_map_of_mem (f:=fun x:Int×Rat=>x.1) h)
 ·obtain⟨y,hy,rfl⟩:=List.mem_map.1 h;exact List.mem_append_left _ (List.mem_map.2 ⟨y,hy,rfl⟩)
theorem axpyR_q {w:World} {s s':Bool} {A A':Option Addr} {l c l' c':Nat} {q:Rat} {mq:Nat} {X Y:Option Addr} {n cx m cy M M':Nat} {P Q:List (Int×Rat)} (hy0:GV w Y m cy P M') (ha:R w s A c l s' A' c' l' q mq) (h:GV w X n cx Q M) (hM:M+M'+mq≤880) (hn:n≤100000) (hm:m≤100000) (hT:Hid (Tab w)) :
  Calls Tryz.prog 29 #[.slice Y m cy,.agg #[.bool s,.slice A l c,.bool s',.slice A' l' c'],.slice X n cx] w (TellsV w (nrm (axP q P Q)) (M+M'+mq+5)):=by
 have HGX:=zh h;have HGY:=zh hy0;have HRA:=zh ha;have HZX:=zh (gv_sz h);have HZY:=zh (gv_sz hy0);have hsq:sz q≤mq+1:=zia ha.sz;obtain⟨LX,hx1,hx2⟩:=gv_rows h;obtain⟨LY,hy1,hy2⟩:=gv_rows hy0;have HSX:=zh hx1;have HSY:=zh hy1;have HPX:=zh hx2;have HPY:=zh hy2;obtain⟨SS,hSS⟩:∃SS,SS=plcs [⟨X,n,cx,LX⟩,⟨Y,m,cy,LY⟩]:=⟨_,rfl⟩;have hsl:SS.length=n+m:=by
  rw[hSS];unfold plcs
  rw[List.flatMap_cons,List.flatMap_cons,List.flatMap_nil,List.append_nil,List.length_append,List.length_map,List.length_map];show LX.length+LY.length=n+m
  rw[hx1.1,hy1.1]
 have HPN:Hid ((plcs [⟨X,n,cx,LX⟩,⟨Y,m,cy,LY⟩]).length≤1000000):=zh (by rw[←hSS,hsl];omega);obtain⟨MM,hMM0⟩:∃MM,MM=M+M'+mq+5:=⟨_,rfl⟩;have HRW:Hid (∀x∈axP q P Q,x.1∈plcs [⟨X,n,cx,LX⟩,⟨Y,m,cy,LY⟩]):=zh (by rw[←hx2,←hy2];exact ax_mem rfl rfl);have HSS:=zh hSS;have HPL:Hid ((plcs [⟨X,n,cx,LX⟩,⟨Y,m,cy,LY⟩]).length=n+m):=zh (by rw[←hSS];exact hsl);rw[←hMM0];clear h hy0 ha hx1 hx2 hy1 hy2 hSS hsl SS HSS;obtain⟨W,hW,x0,hB⟩:=zAf w #[.bool s,.slice A l c,.bool s',.slice A' l' c'] 50;have HX0:=zh x0;clear x0;have Bz:=Below.refl W.heap.size W;go_enter Tryz.func29,Tryz.ntmps29
 go_upto_region 2 with(fail)
 rw[←hW];clear hW;go_wp2_with fail
 obtain⟨V1,hW,x1,hN⟩:=zAf W #[.slice X n cx,.slice Y m cy] 45;rw[←hW];clear hW;obtain⟨v1,hb1⟩:∃b,b=W.heap.size:=⟨_,rfl⟩;rw[←hb1] at x1 ⊢;have o0_1:w.heap.size<v1:=zia (zxb HX0 Bz).lt;have ow_1:w.heap.size≤v1:=zia (zw hB Bz);replace hB:=zAa (zAa hB Bz) hN;replace HX0:=zh ((zxb HX0 Bz).below hN);have HX1:=zh x1;clear x1 hN Bz hb1;have Bz:=Below.refl V1.heap.size V1;with_reducible refine(places_q (sl_box (n:=2) (L:=[⟨X,n,cx,LX⟩,⟨Y,m,cy,LY⟩]) Vc.cs_len (HX1.out.below (zAa Bz (by go_grown))) rfl rfl) (zh (sl_two (HSX.out.below (zAa hB (zAa (b:=V1) Bz (by go_grown)))) (HSY.out.below (zAa hB (zAa (b:=V1) Bz (by go_grown)))))) zo HPN).mono ?_
 rintro e w1 ⟨PA0,k0,cp,LP,rfl,h1,hps1,hpk1,hpa1,b1⟩;replace b1:=zAa (a:=V1) (by go_grown) b1;replace Bz:=zAa Bz b1;clear b1;have HPS:=zh hps1;have hk0:=hpk1;have HPA:=zh hpa1;clear hps1 hpk1 hpa1;go_wp2_with fail
 have HB1:=zh (zAa hB Bz);have HA1:=zh (zxb HX0 Bz);have HSP:=zh (Sl.below h1 (Below.refl _ _));have HPLN:=zh (h1).1;have HWS:Hid (w.heap.size<w1.heap.size):=zh (zia (zxb HX0 Bz).lt);have hk1:k0≤200000:=zia HPL.out;clear hB Bz HX0 h1 HX1 hk0;go_loopg [7,9] k0 (fun gk s7 s9 wr=>AX1 w w1 #[.bool s,.slice A l c,.bool s',.slice A' l' c'] (atP LP (axP q P Q)) k0 MM gk s7 s9 wr)
 case atStart=>exact⟨0,0,none,0,[],rfl,by go_num,Nat.zero_le _,rfl,OwnR.nil _ _ _ _,rfl,OnT.nil _ _,HA1.out.below (by go_grown),zAa HB1.out (by go_grown),Below.refl _ _⟩
 case round =>
  clear HA1;have hWs:w.heap.size<w1.heap.size:=HWS.out;clear HB1;obtain⟨i,k,H,hc,O,rfl,rfl,hi,hgk,ho,hp,hon,hx0,hB,hBW⟩:=hrel;have HGK:=zh hgk;have HP:=zh hp;have HX0:=zh hx0;have hki:k≤i:=by
   have h1:=congrArg List.length hp;rw[prs_len,ho.eltn elt_vec zo] at h1;have h2:=List.length_filter_le (fun x:Int×Rat=>decide (x.2≠0)) ((atP LP (axP q P Q)).take i);rw[List.length_take] at h2;omega
  clear hgk hp hx0;by_cases hlt:i<k0
  ·obtain⟨bp,op_,rfl,hel⟩:=HSP.out.at ics_len zo zo;obtain⟨a,ha⟩:∃a,LP[i]?=some a:=⟨LP[i]'(by rw[HPLN.out];exact hlt),List.getElem?_eq_getElem _⟩;have hnd:ElA w1 bp (op_+i) (ics a):=by have:=hel i a ha;rwa [Nat.mul_one] at this
   have HFS:Hid (((atP LP (axP q P Q)).take i).filter (fun x=>decide (x.2≠0))++(if pget P a+q*pget Q a=0 then [] else [(a,pget P a+q*pget Q a)])=((atP LP (axP q P Q)).take (i+1)).filter (fun x=>decide (x.2≠0))):=zh (by rw[filt_snoc (atP_at ha (axP q P Q)),axP_get]);have hgx:=HGX.out.below hB;have hgy:=HGY.out.below hB;have hra:=HRA.out.below hB;have i1:(i:Int)<(k0:Int):=zo;have i2:(0:Int)≤(i:Int):=zo;clear hel ha;have Bz:=Below.refl wr.heap.size wr;obtain⟨pa0,pa1,pa2,pa3,-⟩:=(zxb HX0 Bz).cz;have pA0:=(hnd.below (zAa hBW Bz)).c0 (u:=.int .i64 a) rfl;go_wp2_with fail
   (try simp only[List.append_eq,List.cons_append,List.nil_append])
   refine zAb (.take 0 (.take 1 (.take 2 (.take 3 (.take 4 (.take 5 (.take 6 (.take 7 (.take 8 (.take 9 (.take 11 (.take 12 (.take 13 (.take 14 (.take 15 (.take 16 (.only 10 (.only 17 (.only 18 (.only 19 (.only 20 (.take 21 .done)))))))))))))))))))))) [] (fun w'=>w'.cell? ⟨w.heap.size,0,none⟩=some (.bool s)∧w'.cell? ⟨w.heap.size,1,none⟩=some (.slice A l c)∧w'.cell? ⟨w.heap.size,2,none⟩=some (.bool s')∧w'.cell? ⟨w.heap.size,3,none⟩=some (.slice A' l' c')∧w'.cell? ⟨bp,op_+i,none⟩=some (.int .i64 a)) (by kernel_rfl) (by kernel_rfl) ⟨pa0,pa1,pa2,pa3,pA0⟩ ?_;iterate 16 (refine zT rfl rfl (fun w' ⟨pa0,pa1,pa2,pa3,pA0⟩=>by go_simp<;>with_reducible rfl) ?_;try simp only[uW,uX,uY,uZ])
   refine zC 30 rfl rfl (fun K hK=>?_);go_simp
   with_reducible refine(getR_q a (GV.below hgy (by go_grown)) zo zo).mono ?_
   rintro e w11 ⟨s11,A11,c11,l11,s11r,A11r,c11r,l11r,rfl,h11,b11⟩;replace b11:=zAa (a:=wr) (by go_grown) b11;replace hgx:=hgx.below b11;replace hon:=hon.below b11;replace ho:=ho.below b11;replace hra:=hra.below b11;replace Bz:=zAa Bz b11;clear b11;have z11:=HZY.out a;clear pa0 pa1 pa2 pa3 pA0;obtain⟨pa0,pa1,pa2,pa3,-⟩:=(zxb HX0 Bz).cz;have pA0:=(hnd.below (zAa hBW Bz)).c0 (u:=.int .i64 a) rfl;refine hK.out _ _ ⟨pa0,pa1,pa2,pa3,pA0⟩ (fun _=>?_);try simp only[uW,uX,uY,uZ]
   clear hK K;refine zC 37 rfl rfl (fun K hK=>?_);go_simp
   with_reducible refine(getR_q a (GV.below hgx (by go_grown)) zo zo).mono ?_
   rintro e w12 ⟨s12,A12,c12,l12,s12r,A12r,c12r,l12r,rfl,h12,b12⟩;replace b12:=zAa (a:=w11) (by go_grown) b12;replace h11:=h11.below b12;replace hon:=hon.below b12;replace ho:=ho.below b12;replace hra:=hra.below b12;replace Bz:=zAa Bz b12;clear b12;have z12:=HZX.out a;clear pa0 pa1 pa2 pa3 pA0;obtain⟨pa0,pa1,pa2,pa3,-⟩:=(zxb HX0 Bz).cz;have pA0:=(hnd.below (zAa hBW Bz)).c0 (u:=.int .i64 a) rfl;refine hK.out _ _ ⟨pa0,pa1,pa2,pa3,pA0⟩ (fun _=>?_);try simp only[uW,uX,uY,uZ]
   clear hK K;refine zC 38 rfl rfl (fun K hK=>?_);go_simp
   with_reducible refine(mul_r4 (R.below hra (by go_grown)) (R.below h12.r (by go_grown)) zo).mono ?_
   rintro e w13 ⟨s13,A13,c13,l13,s13r,A13r,c13r,l13r,rfl,h13,b13⟩;replace b13:=zAa (a:=w12) (by go_grown) b13;replace h11:=h11.below b13;replace hon:=hon.below b13;replace ho:=ho.below b13;replace Bz:=zAa Bz b13;clear b13;have z13:=sz_mul hsq z12;clear pa0 pa1 pa2 pa3 pA0;obtain⟨pa0,pa1,pa2,pa3,-⟩:=(zxb HX0 Bz).cz;have pA0:=(hnd.below (zAa hBW Bz)).c0 (u:=.int .i64 a) rfl;refine hK.out _ _ ⟨pa0,pa1,pa2,pa3,pA0⟩ (fun _=>?_);try simp only[uW,uX,uY,uZ]
   clear hK K;refine zC 39 rfl rfl (fun K hK=>?_);go_simp
   with_reducible refine(add_r4 (R.below h11.r (by go_grown)) (R.below h13.r (by go_grown)) zo).mono ?_
   rintro e w14 ⟨s14,A14,c14,l14,s14r,A14r,c14r,l14r,rfl,h14,b14⟩;replace b14:=zAa (a:=w13) (by go_grown) b14;replace hon:=hon.below b14;replace ho:=ho.below b14;replace Bz:=zAa Bz b14;clear b14;have z14:=sz_add z11 z13;clear pa0 pa1 pa2 pa3 pA0;obtain⟨pa0,pa1,pa2,pa3,-⟩:=(zxb HX0 Bz).cz;have pA0:=(hnd.below (zAa hBW Bz)).c0 (u:=.int .i64 a) rfl;refine hK.out _ _ ⟨pa0,pa1,pa2,pa3,pA0⟩ (fun _=>?_);try simp only[uW,uX,uY,uZ]
   clear hK K;refine zC 40 rfl rfl (fun K hK=>?_);go_simp
   have hlt0:=OwnR.lt ho;have hMM:sz (pget P a+q*pget Q a)+1≤MM:=zo;with_reducible refine(put_q a (OwnR.below ho (by go_grown)) (zj hBW.size Bz.size) (OnT.below hon (by go_grown)) (R.below h14.r (by go_grown)) zo hMM zo (zh (hT.out.below (zAa hB (zAa (b:=w14) Bz (by go_grown)))))).mono ?_
   rintro e w15 ⟨H15,k15,c15,O15,rfl,ho15,hp15,hon15,hg15⟩;replace hg15:=Grew.after (w:=w14) hg15 (by go_grown) hlt0;clear hlt0;replace hB:=(zAa hB Bz).trans (hg15.below (by have:=hB.size;have:=Bz.size;have:=hB.size;omega) (fun g hg=>by have:=ho.base g hg;have:=hB.size;have:=Bz.size;omega));replace hBW:=(zAa hBW Bz).trans (hg15.below (by have:=hB.size;have:=Bz.size;have:=hBW.size;omega) (fun g hg=>by have:=ho.base g hg;have:=hB.size;have:=Bz.size;omega));replace HX0:=zh (hg15.bx (zxb HX0 Bz) (ho.off zo));clear hg15 Bz;have Bz:=Below.refl w15.heap.size w15;clear pa0 pa1 pa2 pa3 pA0;obtain⟨pa0,pa1,pa2,pa3,-⟩:=(zxb HX0 Bz).cz;have pA0:=(hnd.below (zAa hBW Bz)).c0 (u:=.int .i64 a) rfl;refine hK.out _ _ ⟨pa0,pa1,pa2,pa3,pA0⟩ (fun _=>?_);try simp only[uW,uX,uY,uZ]
   clear hK K;refine zT rfl rfl (fun w' ⟨pa0,pa1,pa2,pa3,pA0⟩=>by go_simp<;>with_reducible rfl) ?_;try simp only[uW,uX,uY,uZ]
   refine zAc ?_;go_wp2_with fail
   go_roundg (k0-(i+1))
   case measure=>have:=HGK.out;omega
   case rel=>exact⟨i+1,k15,H15,c15,O15,rfl,by go_num,zo,rfl,OwnR.below ho15 (by go_grown),by rw[hp15,HP.out,HFS.out],OnT.below hon15 (by go_grown),HX0.out.below (zAa Bz (by go_grown)),zAa (zAa hB Bz) (by go_grown),zAa (zAa hBW Bz) (by go_grown)⟩
  ·obtain rfl:i=k0:=zo;have i1:¬(i:Int)<(i:Int):=zo;have HNV:Hid (NV wr H k hc (nrm (axP q P Q)) MM):=zh ⟨O,ho.sl' elt_vec (ho.eltn elt_vec zo),hon,by
    rw[HP.out,List.take_of_length_le (by rw[atP_len,HPLN.out];exact Nat.le_refl _),atP_nrm HPS.out HRW.out],fun e=>by
    obtain⟨_,_,e9,h9,_⟩:=ho.slice;cases e9;exact(h9 e).2⟩
   clear ho hon HX0;go_wp2_with fail
   go_ret
   exact⟨H,k,hc,rfl,by rw[←hMM0];exact HNV.out,hB⟩
theorem gv_none (w:World) (M:Nat):GV w none 0 0 [] M:=⟨[],Sl.nil _,(fun t ht=>by cases ht),rfl,fun _=>Nat.zero_le _,fun _=>rfl⟩
theorem r_none (w:World):R w false none 0 0 false none 0 0 0 1:=(RN.zero w).r' sz_zero
theorem ax_nil (P:List (Int×Rat)):nrm (axP 0 P [])=nrm P:=by unfold axP;rw[List.map_nil,List.append_nil]
theorem ax_scale (q:Rat) (Q:List (Int×Rat)):nrm (axP q [] Q)=nrm (Q.map fun x=>(x.1,q*x.2)):=rfl
theorem normR_q {w:World} {X:Option Addr} {n cx M:Nat} {P:List (Int×Rat)} (hx:GV w X n cx P M) (hM:M≤870) (hn:n≤100000) (hT:Hid (Tab w)) :
  Calls Tryz.prog 25 #[.slice X n cx] w (TellsV w (nrm P) (M+6)):=by
 have hB:=Below.refl w.heap.size w;have Bz:=Below.refl w.heap.size w;go_enter Tryz.func25,Tryz.ntmps25
 go_wp2_with fail
 with_reducible refine(axpyR_q (GV.below hx (by go_grown)) (r_none _) (gv_none _ 0) zo zo hn (zh (Tab.below hT.out (zAa hB (zAa (b:=w) Bz (by go_grown)))))).mono ?_
 rintro e w1 ⟨A1,n1,c1,rfl,h1,b1⟩;replace b1:=zAa (a:=w) (by go_grown) b1;replace Bz:=zAa Bz b1;clear b1;go_wp2_with fail
 go_ret
 have hF:=zAa (c:=w1) hB Bz;exact⟨_,_,_,rfl,by rw[←ax_nil];exact(NV.below h1 (by go_grown)).mono zo,zAa hF (by go_grown)⟩
theorem scaleR_q {w:World} {s s':Bool} {A A':Option Addr} {l c l' c':Nat} {q:Rat} {mq:Nat} {X:Option Addr} {n cx M:Nat} {P:List (Int×Rat)} (ha:R w s A c l s' A' c' l' q mq) (hx:GV w X n cx P M) (hM:M+mq≤870) (hn:n≤100000) (hT:Hid (Tab w)) :
  Calls Tryz.prog 31 #[.agg #[.bool s,.slice A l c,.bool s',.slice A' l' c'],.slice X n cx] w (TellsV w (nrm (P.map fun x=>(x.1,q*x.2))) (M+mq+5)):=by
 obtain⟨W,hW,x0,hB⟩:=zAf w #[.bool s,.slice A l c,.bool s',.slice A' l' c'] 50;replace hx:=hx.below hB;replace ha:=ha.below hB;have HX0:=zh x0;clear x0;have Bz:=Below.refl W.heap.size W;obtain⟨pa0,pa1,pa2,pa3,-⟩:=(zxb HX0 Bz).cz;go_enter Tryz.func31,Tryz.ntmps31
 go_wp2_with fail
 rw[←hW];clear hW;go_wp2_with fail
 with_reducible refine(axpyR_q (gv_none _ 0) (R.below ha (by go_grown)) (GV.below hx (by go_grown)) zo zo zo (zh (Tab.below hT.out (zAa hB (zAa (b:=W) Bz (by go_grown)))))).mono ?_
 rintro e w1 ⟨A1,n1,c1,rfl,h1,b1⟩;replace b1:=zAa (a:=W) (by go_grown) b1;replace Bz:=zAa Bz b1;clear b1;clear pa0 pa1 pa2 pa3;go_wp2_with fail
 go_ret
 have hF:=zAa (c:=w1) hB Bz;exact⟨_,_,_,rfl,by rw[←ax_scale];exact(NV.below h1 (by go_grown)).mono zo,zAa hF (by go_grown)⟩
theorem sl_one {w:World} {u:Vc} (h1:Sl Tm.cs 5 w u.A u.n u.c u.L):∀x∈[u],Sl Tm.cs 5 w x.A x.n x.c x.L:=fun x hx=>by
 rcases List.mem_cons.1 hx with rfl | hx
 ·exact h1
 ·cases hx
theorem atP_off {L:List Int} {y:Int×Rat} {Q:List (Int×Rat)} (h:y.1∉L):atP L (y :: Q)=atP L Q:=by
 unfold atP
 refine List.map_congr_left fun a ha=>?_;rw[zAi,if_neg (by rintro rfl;exact h ha)]
theorem atP_step {y:Int×Rat} {Q:List (Int×Rat)}:∀{L:List Int},L.Nodup→wtot (atP L (y :: Q))≤wtot (atP L Q)+(sz y.2+1)
 | [],_=>Nat.zero_le _
 | a :: L,hn=>by
  have h1:=List.nodup_cons.1 hn;show sz (pget (y :: Q) a)+1+wtot (atP L (y :: Q))≤sz (pget Q a)+1+wtot (atP L Q)+(sz y.2+1)
  by_cases e:y.1=a
  ·subst e;rw[atP_off h1.1,zAi,if_pos rfl];have:=sz_add (Nat.le_refl (sz y.2)) (Nat.le_refl (sz (pget Q y.1)));omega
  ·have:=atP_step (y:=y) (Q:=Q) h1.2;rw[zAi,if_neg e];omega
theorem atP_zero:∀L:List Int,wtot (atP L [])≤2*L.length
 | []=>Nat.le_refl _
 | a :: L=>by
  have h1:=atP_zero L;have h2:=sz_zero;show sz 0+1+wtot (atP L [])≤2*(L.length+1)
  omega
theorem atP_tot {L:List Int} (hn:L.Nodup):∀Q:List (Int×Rat),wtot (atP L Q)≤wtot Q+2*L.length
 | []=>by have:=atP_zero L;show _≤0+_;omega
 | y :: Q=>by
  have h1:=atP_tot hn Q;have h2:=atP_step (y:=y) (Q:=Q) hn;show _≤sz y.2+1+wtot Q+_
  omega
theorem wtot_take_le (L:List (Int×Rat)) (i:Nat):wtot (L.take i)≤wtot L:=by
 have h:wtot L=wtot (L.take i)+wtot (L.drop i):=by rw[←wtot_append,List.take_append_drop]
 omega
theorem atP_snoc {L:List Int} {i:Nat} {a:Int} (h:L[i]?=some a) (P:List (Int×Rat)):(atP L P).take (i+1)=(atP L P).take i++[(a,pget P a)]:=by rw[List.take_add_one,atP_at h];rfl
theorem wtot_snoc {L:List Int} {i:Nat} {a:Int} (h:L[i]?=some a) (P:List (Int×Rat)):wtot ((atP L P).take (i+1))=wtot ((atP L P).take i)+(sz (pget P a)+1):=by
 rw[atP_snoc h,wtot_append];rfl
def DT2 (w:World) (PA0:Option Addr) (cp:Nat) (LP:List Int) (P Q:List (Int×Rat)) (k0 gk:Nat) (s:Value) (wr:World):Prop :=
 ∃(i:Nat) (sS:Bool) (sA:Option Addr) (sc sl:Nat) (sS':Bool) (sA':Option Addr) (sc' sl':Nat),i≤k0∧k0-i=gk∧s=.int .i64 (i:Int)∧RN wr sS sA sc sl sS' sA' sc' sl' (pdot ((atP LP P).take i) Q)∧sz (pdot ((atP LP P).take i) Q)≤1+wtot ((atP LP P).take i)+wtot ((atP LP Q).take i)∧
  Bx wr w.heap.size #[.bool false,.slice none 0 0,.bool false,.slice none 0 0] 50∧Bx wr (w.heap.size+1) #[.bool sS,.slice sA sl sc,.bool sS',.slice sA' sl' sc'] 50∧Below w.heap.size w wr∧Sl ics 1 wr PA0 k0 cp LP
theorem dotR_q {w:World} {X Y:Option Addr} {n cx m cy M M':Nat} {P Q:List (Int×Rat)} (h:GV w X n cx P M) (hy0:GV w Y m cy Q M') (hM:M≤880) (hM':M'≤880) (_hMM:M+M'≤880) (hW:wtot P+wtot Q+4*n≤880) (hm:m≤100000) :
  Calls Tryz.prog 36 #[.slice X n cx,.slice Y m cy] w (TellsR w (pdot P Q)):=by
 have HGX:=zh h;have HGY:=zh hy0;have HZX:=zh (gv_sz h);have HZY:=zh (gv_sz hy0);have hn:n≤1000:=zo;obtain⟨LX,hx1,hx2⟩:=gv_rows h;have HSX:=zh hx1;have hsl:(plcs [⟨X,n,cx,LX⟩]).length=n:=by
  unfold plcs
  rw[List.flatMap_cons,List.flatMap_nil,List.append_nil,List.length_map];exact hx1.1
 have HPN:Hid ((plcs [⟨X,n,cx,LX⟩]).length≤1000000):=zh (by rw[hsl];omega);have HRW:Hid (∀x∈P,x.1∈plcs [⟨X,n,cx,LX⟩]):=zh (fun x hx=>by
  unfold plcs
  rw[List.flatMap_cons,List.flatMap_nil,List.append_nil,at_prs,hx2];exact List.mem_map_of_mem (f:=fun x:Int×Rat=>x.1) hx)
 have HPL:=zh hsl;clear h hy0 hx1 hx2 hsl;obtain⟨W,hW,x0,x1,hB⟩:=boxes2 w #[.bool false,.slice none 0 0,.bool false,.slice none 0 0] 50 #[.bool false,.slice none 0 0,.bool false,.slice none 0 0] 50;have HX0:=zh x0;have HX1:=zh x1;clear x0 x1;have Bz:=Below.refl W.heap.size W;go_enter Tryz.func36,Tryz.ntmps36
 go_upto_region 2 with(fail)
 rw[←hW];clear hW;go_wp2_with fail
 obtain⟨V1,hW,x2,hN⟩:=zAf W #[.slice X n cx] 45;rw[←hW];clear hW;obtain⟨v2,hb2⟩:∃b,b=W.heap.size:=⟨_,rfl⟩;rw[←hb2] at x2 ⊢;have o0_2:w.heap.size<v2:=zia (zxb HX0 Bz).lt;have o1_2:w.heap.size+1<v2:=zia (zxb HX1 Bz).lt;have ow_2:w.heap.size≤v2:=zia (zw hB Bz);replace hB:=zAa (zAa hB Bz) hN;replace HX0:=zh ((zxb HX0 Bz).below hN);replace HX1:=zh ((zxb HX1 Bz).below hN);have HX2:=zh x2;clear x2 hN Bz hb2;have Bz:=Below.refl V1.heap.size V1;have HLW:Hid (w.heap.size+1<V1.heap.size):=zh (zia (zxb HX1 Bz).lt);with_reducible refine(places_q (sl_box (n:=1) (L:=[⟨X,n,cx,LX⟩]) Vc.cs_len (HX2.out.below (zAa Bz (by go_grown))) rfl rfl) (zh (sl_one (HSX.out.below (zAa hB (zAa (b:=V1) Bz (by go_grown)))))) zo HPN).mono ?_
 rintro e w1 ⟨PA0,k0,cp,LP,rfl,h1,hps1,hpk1,hpa1,b1⟩;replace b1:=zAa (a:=V1) (by go_grown) b1;replace Bz:=zAa Bz b1;clear b1;have HPS:=zh hps1;have hk0:=hpk1;have HPA:=zh hpa1;clear hps1 hpk1 hpa1;go_wp2_with fail
 have HB1:=zh (zAa hB Bz);have XX0:=zh (zxb HX0 Bz);have XX1:=zh (zxb HX1 Bz);have HSP:=zh (Sl.below h1 (Below.refl _ _));have HPLN:=zh (h1).1;have HAO:Hid (∀a,PA0=some a→a.block≠w.heap.size+1):=zh (fun a ha=>by have h1:=HPA.out a ha;have h2:=HLW.out;omega);have hk1:k0≤n:=zia HPL.out;have HTP:Hid (1+wtot (atP LP P)+wtot (atP LP Q)≤890):=zh (by
  have hnd:LP.Nodup:=HPS.out.asc.imp fun e=>by omega
  have h1:=atP_tot hnd P;have h2:=atP_tot hnd Q;rw[HPLN.out] at h1 h2;omega)
 clear hB Bz HX0 HX1 HX2 h1 hk0;go_loopg [7] k0 (fun gk s wr=>DT2 w PA0 cp LP P Q k0 gk s wr)
 case atStart=>exact⟨0,_,_,_,_,_,_,_,_,Nat.zero_le _,rfl,by go_num,RN.zero _,Nat.le_trans sz_zero zo,XX0.out.below (by go_grown),XX1.out.below (by go_grown),zAa HB1.out (by go_grown),HSP.out.below (by go_grown)⟩
 case round =>
  clear HB1 XX0 XX1;obtain⟨i,sS,sA,sc,sl,sS',sA',sc',sl',hi,hgk,rfl,hs,hss,hx0,hx1,hB,hpl⟩:=hrel;have HGK:=zh hgk;have HX0:=zh hx0;have HX1:=zh hx1;clear hgk hx0 hx1;by_cases hlt:i<k0
  ·obtain⟨bp,op_,rfl,hel⟩:=hpl.at ics_len zo zo;obtain⟨a,ha⟩:∃a,LP[i]?=some a:=⟨LP[i]'(by rw[HPLN.out];exact hlt),List.getElem?_eq_getElem _⟩;have hnd:ElA wr bp (op_+i) (ics a):=by have:=hel i a ha;rwa [Nat.mul_one] at this
   have HSM:Hid (pdot ((atP LP P).take i) Q+pget P a*pget Q a=pdot ((atP LP P).take (i+1)) Q):=zh (by rw[atP_snoc ha,pdot_snoc]);have HWX:=zh (wtot_snoc ha P);have HWY:=zh (wtot_snoc ha Q);have hgx:=HGX.out.below hB;have hgy:=HGY.out.below hB;have hb1:=HTP.out;have hb2:=wtot_take_le (atP LP P) (i+1);have hb3:=wtot_take_le (atP LP Q) (i+1);rw[HWX.out] at hb2;rw[HWY.out] at hb3;have i1:(i:Int)<(k0:Int):=zo;have i2:(0:Int)≤(i:Int):=zo;clear hel ha;have Bz:=Below.refl wr.heap.size wr;obtain⟨pb0,pb1,pb2,pb3,-⟩:=(zxb HX1 Bz).cz;have fb0:=(zxb HX1 Bz).frozen 0;have fb1:=(zxb HX1 Bz).frozen 1;have fb2:=(zxb HX1 Bz).frozen 2;have fb3:=(zxb HX1 Bz).frozen 3;have y1:=(zxb HX1 Bz).lt;have pA0:=(hnd.below Bz).c0 (u:=.int .i64 a) rfl;go_wp2_with fail
   (try simp only[List.append_eq,List.cons_append,List.nil_append])
   refine zAb (.take 0 (.pure 1 (.pure 2 (.pure 3 (.pure 4 (.take 5 (.pure 7 (.pure 8 (.pure 9 (.pure 10 (.take 11 (.only 6 (.only 12 (.only 13 (.only 14 (.only 15 .done)))))))))))))))) [15] (fun w'=>w'.cell? ⟨(w.heap.size+1),0,none⟩=some (.bool sS)∧w'.cell? ⟨(w.heap.size+1),1,none⟩=some (.slice sA sl sc)∧w'.cell? ⟨(w.heap.size+1),2,none⟩=some (.bool sS')∧w'.cell? ⟨(w.heap.size+1),3,none⟩=some (.slice sA' sl' sc')∧w'.cell? ⟨bp,op_+i,none⟩=some (.int .i64 a)) (by kernel_rfl) (by kernel_rfl) ⟨pb0,pb1,pb2,pb3,pA0⟩ ?_;refine zT rfl rfl (fun w' ⟨pb0,pb1,pb2,pb3,pA0⟩=>by go_simp<;>with_reducible rfl) ?_;try simp only[uW,uX,uY,uZ]
   iterate 4 (refine zP rfl rfl (fun w'=>by go_simp<;>with_reducible rfl) ?_;try simp only[uW,uX,uY,uZ])
   refine zT rfl rfl (fun w' ⟨pb0,pb1,pb2,pb3,pA0⟩=>by go_simp<;>with_reducible rfl) ?_;try simp only[uW,uX,uY,uZ]
   iterate 4 (refine zP rfl rfl (fun w'=>by go_simp<;>with_reducible rfl) ?_;try simp only[uW,uX,uY,uZ])
   refine zT rfl rfl (fun w' ⟨pb0,pb1,pb2,pb3,pA0⟩=>by go_simp<;>with_reducible rfl) ?_;try simp only[uW,uX,uY,uZ]
   refine zC 23 rfl rfl (fun K hK=>?_);go_simp
   with_reducible refine(getR_q a (GV.below hgx (by go_grown)) zo zo).mono ?_
   rintro e w11 ⟨s11,A11,c11,l11,s11r,A11r,c11r,l11r,rfl,h11,b11⟩;replace b11:=zAa (a:=wr) (by go_grown) b11;replace hgy:=hgy.below b11;replace hpl:=hpl.below b11;replace hs:=hs.below b11;replace Bz:=zAa Bz b11;clear b11;have z11:=HZX.out a;clear pb0 pb1 pb2 pb3 fb0 fb1 fb2 fb3 y1 pA0;obtain⟨pb0,pb1,pb2,pb3,-⟩:=(zxb HX1 Bz).cz;have fb0:=(zxb HX1 Bz).frozen 0;have fb1:=(zxb HX1 Bz).frozen 1;have fb2:=(zxb HX1 Bz).frozen 2;have fb3:=(zxb HX1 Bz).frozen 3;have y1:=(zxb HX1 Bz).lt;have pA0:=(hnd.below Bz).c0 (u:=.int .i64 a) rfl;refine hK.out _ _ ⟨pb0,pb1,pb2,pb3,pA0⟩ (fun _=>?_);try simp only[uW,uX,uY,uZ]
   clear hK K;refine zC 29 rfl rfl (fun K hK=>?_);go_simp
   with_reducible refine(getR_q a (GV.below hgy (by go_grown)) zo zo).mono ?_
   rintro e w12 ⟨s12,A12,c12,l12,s12r,A12r,c12r,l12r,rfl,h12,b12⟩;replace b12:=zAa (a:=w11) (by go_grown) b12;replace h11:=h11.below b12;replace hpl:=hpl.below b12;replace hs:=hs.below b12;replace Bz:=zAa Bz b12;clear b12;have z12:=HZY.out a;clear pb0 pb1 pb2 pb3 fb0 fb1 fb2 fb3 y1 pA0;obtain⟨pb0,pb1,pb2,pb3,-⟩:=(zxb HX1 Bz).cz;have fb0:=(zxb HX1 Bz).frozen 0;have fb1:=(zxb HX1 Bz).frozen 1;have fb2:=(zxb HX1 Bz).frozen 2;have fb3:=(zxb HX1 Bz).frozen 3;have y1:=(zxb HX1 Bz).lt;have pA0:=(hnd.below Bz).c0 (u:=.int .i64 a) rfl;refine hK.out _ _ ⟨pb0,pb1,pb2,pb3,pA0⟩ (fun _=>?_);try simp only[uW,uX,uY,uZ]
   clear hK K;refine zC 30 rfl rfl (fun K hK=>?_);go_simp
   with_reducible refine(mul_r4 (R.below h11.r (by go_grown)) (R.below h12.r (by go_grown)) zo).mono ?_
   rintro e w13 ⟨s13,A13,c13,l13,s13r,A13r,c13r,l13r,rfl,h13,b13⟩;replace b13:=zAa (a:=w12) (by go_grown) b13;replace hpl:=hpl.below b13;replace hs:=hs.below b13;replace Bz:=zAa Bz b13;clear b13;have z13:=sz_mul (Nat.le_refl (sz (pget P a))) (Nat.le_refl (sz (pget Q a)));clear pb0 pb1 pb2 pb3 fb0 fb1 fb2 fb3 y1 pA0;obtain⟨pb0,pb1,pb2,pb3,-⟩:=(zxb HX1 Bz).cz;have fb0:=(zxb HX1 Bz).frozen 0;have fb1:=(zxb HX1 Bz).frozen 1;have fb2:=(zxb HX1 Bz).frozen 2;have fb3:=(zxb HX1 Bz).frozen 3;have y1:=(zxb HX1 Bz).lt;have pA0:=(hnd.below Bz).c0 (u:=.int .i64 a) rfl;refine hK.out _ _ ⟨pb0,pb1,pb2,pb3,pA0⟩ (fun _=>?_);try simp only[uW,uX,uY,uZ]
   clear hK K;refine zC 31 rfl rfl (fun K hK=>?_);go_simp
   with_reducible refine(add_r4 (R.below hs.r (by go_grown)) (R.below h13.r (by go_grown)) zo).mono ?_
   rintro e w14 ⟨s14,A14,c14,l14,s14r,A14r,c14r,l14r,rfl,h14,b14⟩;replace b14:=zAa (a:=w13) (by go_grown) b14;replace hpl:=hpl.below b14;replace Bz:=zAa Bz b14;clear b14;have z14:=sz_add hss z13;clear pb0 pb1 pb2 pb3 fb0 fb1 fb2 fb3 y1 pA0;obtain⟨pb0,pb1,pb2,pb3,-⟩:=(zxb HX1 Bz).cz;have fb0:=(zxb HX1 Bz).frozen 0;have fb1:=(zxb HX1 Bz).frozen 1;have fb2:=(zxb HX1 Bz).frozen 2;have fb3:=(zxb HX1 Bz).frozen 3;have y1:=(zxb HX1 Bz).lt;have pA0:=(hnd.below Bz).c0 (u:=.int .i64 a) rfl;refine hK.out _ _ ⟨pb0,pb1,pb2,pb3,pA0⟩ (fun _=>?_);try simp only[uW,uX,uY,uZ]
   clear hK K;refine zAe (o:=⟨none,_,_,_,_,_⟩) rfl rfl zd (fun K hK=>?_);go_simp
   refine hK.out _ _ ?_;try simp only[Act.put,uX,uY,uZ]
   clear hK K;refine zAc ?_;obtain⟨V11,hW,x,kk,far,bel⟩:=store4 (.bool s14) (.slice A14 l14 c14) (.bool s14r) (.slice A14r l14r c14r) (zxb HX1 Bz) nofun nofun nofun nofun;have hoff:∀(k j:Nat),k≠(w.heap.size+1)→V11.cell? ⟨k,j,none⟩=w14.cell? ⟨k,j,none⟩:=fun k j hk=>by rw[hW];exact cell_off4 (Ne.symm hk)
   rw[←hW];clear hW;replace h14:=h14.k kk;replace hpl:=hpl.off hoff HAO.out;replace hB:=bel w.heap.size w zo (zAa hB Bz);replace HX0:=zh (far _ _ _ zo (zxb HX0 Bz));replace HX1:=zh x;clear x kk far bel Bz hoff;have Bz:=Below.refl V11.heap.size V11;clear pb0 pb1 pb2 pb3 fb0 fb1 fb2 fb3 y1 pA0;go_wp2_with fail
   go_roundg (k0-(i+1))
   case measure=>have:=HGK.out;omega
   case rel=>exact⟨i+1,_,_,_,_,_,_,_,_,zo,rfl,by go_num,by rw[←HSM.out];exact RN.below h14 (by go_grown),by rw[←HSM.out,HWX.out,HWY.out];omega,HX0.out.below (zAa Bz (by go_grown)),HX1.out.below (zAa Bz (by go_grown)),zAa (zAa hB Bz) (by go_grown),Sl.below hpl (by go_grown)⟩
  ·obtain rfl:i=k0:=zo;have i1:¬(i:Int)<(i:Int):=zo;have HEND:Hid (pdot ((atP LP P).take i) Q=pdot P Q):=zh (by rw[List.take_of_length_le (by rw[atP_len,HPLN.out];exact Nat.le_refl _),atP_dot HPS.out HRW.out]);have Bz:=Below.refl wr.heap.size wr;obtain⟨pa0,pa1,pa2,pa3,-⟩:=(zxb HX0 Bz).cz;have fa0:=(zxb HX0 Bz).frozen 0;have fa1:=(zxb HX0 Bz).frozen 1;have fa2:=(zxb HX0 Bz).frozen 2;have fa3:=(zxb HX0 Bz).frozen 3;have y0:=(zxb HX0 Bz).lt;obtain⟨pb0,pb1,pb2,pb3,-⟩:=(zxb HX1 Bz).cz;go_wp2_with fail
   (try simp only[Exit.inBlock,Exit.then])
   refine bodyPost_ret (by simp[results,Tryz.results36,go_sem,pa0,pa1,pa2,pa3];try rfl) rfl ?_;obtain⟨V11,hW,x,kk,far,bel⟩:=store4 (.bool sS) (.slice sA sl sc) (.bool sS') (.slice sA' sl' sc') (zxb HX0 Bz) nofun nofun nofun nofun;rw[←hW];clear hW;replace hs:=hs.k kk;replace hB:=bel w.heap.size w zo (zAa hB Bz);replace HX1:=zh (far _ _ _ zo (zxb HX1 Bz));replace HX0:=zh x;clear x kk far bel Bz;have Bz:=Below.refl V11.heap.size V11;have hF:=zAa (c:=V11) hB Bz;exact⟨_,_,_,_,_,_,_,_,rfl,by rw[←HEND.out];exact RN.below hs (by go_grown),zAa hF (by go_grown)⟩
open Go.RowKit Tw
theorem elt_frs:Elt Fr.cs 4 25 50:=Elt.of (.agg #[.bool false,.slice none 0 0,.bool false,.slice none 0 0]) 64 Tryz.underlying25 (by kernel_rfl) zo (by kernel_rfl) (nou_list (by kernel_rfl)) Fr.cs_len
 (fun x u hu=>by simp[Fr.cs] at hu;rcases hu with rfl | rfl | rfl | rfl<;>rfl) (fun x u hu n=>by simp[Fr.cs] at hu;rcases hu with rfl | rfl | rfl | rfl<;>simp)
theorem fr_zero {i:TypeInfo} {z:Value} (h:Tryz.prog.info? 50=some i) (hz:i.zero=some z):z.cells.toList=Fr.cs zFr:=by
 have h1:(Tryz.prog.info? 50).map (fun i=>i.zero)=some (some (.agg #[.bool false,.slice none 0 0,.bool false,.slice none 0 0])):=by kernel_rfl
 rw[h,Option.map_some,hz] at h1;obtain rfl:z=.agg #[.bool false,.slice none 0 0,.bool false,.slice none 0 0]:=by simpa using h1
 rfl
theorem fr_store {w:World} {B g n cap i:Nat} {L:List Fr} (h:OwnR w B 50 4 (.slice (some ⟨g,0,none⟩) n cap) n (flat Fr.cs L)) {y:Fr} (hy:L[i]?=some y) (x:Fr) :
  ∃V,V=(((w.setCell ⟨g,i*4,none⟩ (.bool x.s)).setCell ⟨g,i*4+1,none⟩ (.slice x.A x.l x.c)).setCell ⟨g,i*4+2,none⟩ (.bool x.s')).setCell ⟨g,i*4+3,none⟩ (.slice x.A' x.l' x.c')∧
   OwnR V B 50 4 (.slice (some ⟨g,0,none⟩) n cap) n (flat Fr.cs (L.set i x))∧Grew w V (.slice (some ⟨g,0,none⟩) n cap) (.slice (some ⟨g,0,none⟩) n cap):=by
 have:=elt_frs.sets h hy (y:=x) [(0,.bool x.s),(1,.slice x.A x.l x.c),(2,.bool x.s'),(3,.slice x.A' x.l' x.c')] (fun p hp=>by simp at hp;rcases hp with rfl | rfl | rfl | rfl<;>exact⟨by simp,by simp⟩) rfl;exact⟨_,rfl,this⟩
theorem fr_0 {w:World} {B g n cap i:Nat} {L:List Fr} (h:OwnR w B 50 4 (.slice (some ⟨g,0,none⟩) n cap) n (flat Fr.cs L)) {y:Fr} (hy:L[i]?=some y):w.cell? ⟨g,i*4,none⟩=some (.bool y.s) :=
 elt_frs.cell h hy (j:=0) (u:=.bool y.s) zo rfl
def AllFr (w:World) (K:Nat) (L:List Fr):Prop:=∀x∈L,FrOk w K x
theorem AllFr.below {w w':World} {K:Nat} {L:List Fr} (h:AllFr w K L) (hb:Below w.heap.size w w'):AllFr w' K L:=fun x hx=>(h x hx).below hb
theorem AllFr.k {w w':World} {K:Nat} {L:List Fr} (h:AllFr w K L) (hb:K64 w w'):AllFr w' K L:=fun x hx=>(h x hx).k hb
theorem AllFr.set {w:World} {K:Nat} {L:List Fr} (h:AllFr w K L) (i:Nat) {x:Fr} (hx:FrOk w K x):AllFr w K (L.set i x):=fun y hy=>by
 rcases List.mem_or_eq_of_mem_set hy with hy | rfl
 ·exact h y hy
 ·exact hx
theorem dotG {w:World} {X Y:Option Addr} {n cx m cy M M' K:Nat} {P Q:List (Int×Rat)} (h:GV w X n cx P M) (h':GV w Y m cy Q M') (hM0:n*(M+M'+3)≤15000) (hM:M≤15000) (hM':M'≤15000) (hn:n≤1000000) (hm:m≤1000000) (hs:sz (pdot P Q)≤K) (hT:Hid (Tab w)) :
  Calls Tryz.prog 35 #[.slice X n cx,.slice Y m cy] w (TellsNum w (pdot P Q) K):=(dotV_q h h' hM0 hM hM' hn hm hT).mono fun _ _ k=>k.num hs
def LF1 (w W:World) (g n K:Nat) (P:List (Int×Rat)) (CL:List Vc) (gk:Nat) (s:Value) (wr:World):Prop:=∃(i:Nat) (D:List Fr),i≤n∧n-i=gk∧s=.int .i64 (i:Int)∧OwnR wr W.heap.size 50 4 (.slice (some ⟨g,0,none⟩) n n) n (flat Fr.cs D)∧AllFr wr K D∧
 (D.take i).map (fun x=>x.q)=(CL.take i).map (fun v=>pdot P (prs v.L))∧Below w.heap.size w wr∧Below W.heap.size W wr
theorem leftW {w:World} {X A:Option Addr} {nx cx n c:Nat} {P:List (Int×Rat)} {CL:List Vc} (M MC N K:Nat) (hx:GV w X nx cx P M) (hnx:nx≤N) (h:Sl Vc.cs 1 w A n c CL) (hcl:Hid (∀v∈CL,GV w v.A v.n v.c (prs v.L) MC∧v.n≤1000)) (hn:n≤1000000)
  (hK:Hid (∀v∈CL,sz (pdot (nrm P) (prs v.L))≤K)) (hK0:1≤K) (hK1:N*(M+1+MC+3)≤15000) (hK2:K≤15000) (hM:M≤14000) (hMC:MC≤14000) (hN:N≤1000) (hT:Hid (Tab w)) :
  Calls Tryz.prog 59 #[.slice X nx cx,.slice A n c] w (TellsV w (nrm (idxP (CL.map fun v=>pdot P (prs v.L)))) (K+2)):=by
 have H:=zh h;have HLN:=zh h.1;have hnq:=normW M N hx hnx zo hN hT;clear h hx;go_enter Tryz.func59,Tryz.ntmps59
 go_wp2_with fail
 with_reducible refine hnq.mono ?_
 rintro e w1 ⟨A1,n1,c1,rfl,h1,hn1,b1⟩;have H1:=zh h1;clear hnq h1;go_wp2_with (at_make;refine And.left (b:=True) ?_)
 refine⟨?_,trivial⟩;refine Elt.makeN elt_frs zFr (fun i z h1 h2=>fr_zero h1 h2) rfl _ _ rfl .i64 .i64 n rfl rfl zo w1.heap.size (Nat.le_refl _) ?_;intro g w2 ho2 b2;have HO2:=zh ho2;have HBW:=zh b2;have HB2:=zh (zAa b1 b2);have hWs:=b1.size;clear ho2 b1 b2;go_wp2_with fail
 go_loopg [15] n (fun gk s wr=>LF1 w w1 g n K (nrm P) CL gk s wr)
 case atStart=>exact⟨0,_,Nat.zero_le _,rfl,rfl,HO2.out.below (by go_grown),fun x hx=>by rw[List.eq_of_mem_replicate hx];exact zFr_ok _ zo,by simp,zAa HB2.out (by go_grown),zAa HBW.out (by go_grown)⟩
 case round =>
  clear HO2 HBW HB2;obtain⟨i,D,hi,hgk,rfl,ho,hfr,hdq,hB,hBW⟩:=hrel;have HGK:=zh hgk;have HDL:=zh (ho.eltn elt_frs zo);clear hgk;by_cases hlt:i<n
  ·obtain⟨b,off,rfl,hel⟩:=H.out.at Vc.cs_len zo zo;obtain⟨v,hv⟩:∃v,CL[i]?=some v:=⟨CL[i]'(by rw[HLN.out];exact hlt),List.getElem?_eq_getElem _⟩;have hnd:ElA w b (off+i) v.cs:=by have:=hel i v hv;rwa [Nat.mul_one] at this
   have hcv:=hcl.out v (List.mem_of_getElem? hv);have HV:=zh hcv.1;have hvn:=hcv.2;have HKV:=zh (hK.out v (List.mem_of_getElem? hv));have hm1:n1*(M+1+MC+3)≤15000:=Nat.le_trans (Nat.mul_le_mul_right _ hn1) hK1;obtain⟨y,hy⟩:∃y,D[i]?=some y:=⟨D[i]'(by rw[HDL.out];exact hlt),List.getElem?_eq_getElem _⟩;have HY:=zh hy;have HDQ:Hid (∀r:Fr,r.q=pdot (nrm P) (prs v.L)→((D.set i r).take (i+1)).map (fun x=>x.q)=(CL.take (i+1)).map (fun v=>pdot (nrm P) (prs v.L))):=zh (fun r hr=>by
    rw[zAk (x:=r) (by rw[List.getElem?_set_self (by rw[HDL.out];omega)]),List.take_set_of_le (Nat.le_refl i),zAk hv,List.map_append,List.map_append,hdq];simp[hr])
   have i1:(i:Int)<(n:Int):=zo;have i2:(0:Int)≤(i:Int):=zo;clear hel hv hy hcv hdq;have Bz:=Below.refl wr.heap.size wr;have pA0:=(hnd.below (zAa hB Bz)).c0 (u:=.slice v.A v.n v.c) rfl;go_wp2_with fail
   with_reducible refine(dotG (K:=K) ((H1.out.below (zAa hBW (zAa (b:=wr) Bz (by go_grown)))).gv (nrm_nrm _).rise) (HV.out.below (zAa hB (zAa (b:=wr) Bz (by go_grown)))) hm1 zo zo zo zo HKV.out (zh (Tab.below hT.out (zAa hB (zAa (b:=wr) Bz (by go_grown)))))).mono ?_
   rintro e w11 ⟨s11,A11,c11,l11,s11r,A11r,c11r,l11r,rfl,h11,z11,b11⟩;replace b11:=zAa (a:=wr) (by go_grown) b11;replace hfr:=hfr.below b11;replace ho:=ho.below b11;replace Bz:=zAa Bz b11;clear b11;clear pA0;have pB0:=fr_0 ho HY.out;have pB1:=elt_frs.cell ho HY.out (j:=1) (u:=.slice y.A y.l y.c) zo rfl;have pB2:=elt_frs.cell ho HY.out (j:=2) (u:=.bool y.s') zo rfl;have pB3:=elt_frs.cell ho HY.out (j:=3) (u:=.slice y.A' y.l' y.c') zo rfl;have fB0:=ho.frozen (i*4);have fB1:=ho.frozen (i*4+1);have fB2:=ho.frozen (i*4+2);have fB3:=ho.frozen (i*4+3);have y51:=ho.blk.1;go_upto_region 7 with(fail)
   obtain⟨V11,hV,ho2,hg2⟩:=fr_store ho HY.out ⟨s11,A11,c11,l11,s11r,A11r,c11r,l11r,pdot (nrm P) (prs v.L),true⟩;rw[←hV];clear hV;replace hB:=(zAa hB Bz).trans (hg2.below (zia (zw hB Bz)) (fun g' hg'=>by have:=ho.base g' hg';omega));replace hBW:=(zAa hBW Bz).trans (hg2.below (zj hBW.size Bz.size) (fun g' hg'=>ho.base g' hg'));replace hfr:=hfr.k hg2.k;replace h11:=h11.k hg2.k;clear ho;have ho:=ho2;clear ho2 hg2 Bz;have Bz:=Below.refl V11.heap.size V11;clear pB0 pB1 pB2 pB3 fB0 fB1 fB2 fB3 y51;go_wp2_with fail
   go_roundg (n-(i+1))
   case measure=>have:=HGK.out;omega
   case rel=>exact⟨i+1,_,zo,rfl,by go_num,OwnR.below ho (by go_grown),(AllFr.below hfr (by go_grown)).set i ((RN.below h11 (by go_grown)).fr z11),HDQ.out _ rfl,zAa (zAa hB Bz) (by go_grown),zAa (zAa hBW Bz) (by go_grown)⟩
  ·obtain rfl:i=n:=zo;have i1:¬(i:Int)<(i:Int):=zo;have hoq:=ofV_q (ho.sl' elt_frs HDL.out) (zh hfr) zo hn (zh (hT.out.below hB));have HDE:Hid (D.map (fun x=>x.q)=CL.map fun v=>pdot P (prs v.L)):=zh (by
    rw[List.take_of_length_le (by rw[HDL.out];exact Nat.le_refl _),List.take_of_length_le (by rw[HLN.out];exact Nat.le_refl _)] at hdq;rw[hdq];exact List.map_congr_left fun v _=>pdot_nrm _ _)
   rw[HDE.out] at hoq;clear ho hfr hdq;go_wp2_with fail
   with_reducible refine hoq.mono ?_
   rintro e w3 ⟨A3,n3,c3,rfl,h3,b3⟩;have H3:=zh h3;clear h3 hoq;go_wp2_with fail
   go_ret
   exact⟨A3,n3,c3,rfl,H3.out,zAa hB b3⟩
open Go.RowKit Tw
def AllRn (w:World) (K:Nat) (L:List Fr):Prop:=∀x∈L,RN w x.s x.A x.c x.l x.s' x.A' x.c' x.l' x.q∧x.ex=true∧sz x.q+1≤K
theorem AllRn.below {w w':World} {K:Nat} {L:List Fr} (h:AllRn w K L) (hb:Below w.heap.size w w'):AllRn w' K L:=fun x hx=>⟨(h x hx).1.below hb,(h x hx).2⟩
theorem AllRn.k {w w':World} {K:Nat} {L:List Fr} (h:AllRn w K L) (hb:K64 w w'):AllRn w' K L:=fun x hx=>⟨(h x hx).1.k hb,(h x hx).2⟩
theorem AllRn.set {w:World} {K:Nat} {L:List Fr} (h:AllRn w K L) (i:Nat) {x:Fr} (hx:RN w x.s x.A x.c x.l x.s' x.A' x.c' x.l' x.q∧x.ex=true∧sz x.q+1≤K):AllRn w K (L.set i x):=fun y hy=>by
 rcases List.mem_or_eq_of_mem_set hy with hy | rfl
 ·exact h y hy
 ·exact hx
theorem AllRn.put {w:World} {K:Nat} {s s':Bool} {A A':Option Addr} {c l c' l':Nat} {q:Rat} (h:RN w s A c l s' A' c' l' q) (hs:sz q+1≤K):RN w s A c l s' A' c' l' q∧true=true∧sz q+1≤K:=⟨h,rfl,hs⟩
theorem AllRn.zeros (w:World) (m:Nat) {K:Nat} (hK:2≤K):AllRn w K (List.replicate m zFr):=fun x hx=>by
 rw[List.eq_of_mem_replicate hx];refine⟨(zFr_ok w (m:=1) zo).rn.1 rfl,rfl,?_⟩;have:=sz_zero;show sz 0+1≤K
 omega
def denseF (P:List (Int×Rat)) (m:Nat):List Rat:=(List.range m).map fun(i:Nat)=>pget P (i:Int)
def DnsE (D:List Fr) (T:List Tm):Prop:=∀(i:Nat) y,D[i]?=some y→y.q=pget (prs T) (i:Int)
theorem dns_get {T:List Tm} {j:Nat} {x:Tm} (hx:T[j]?=some x) (a:Int):pget (prs (T.take (j+1))) a=pget (prs (T.take j)) a+if x.at_=a then x.x.q else 0:=by
 rw[zAk hx,prs_append,pget_append];congr 1
 exact pget_one (x.at_,x.x.q) a
theorem DnsE.skip {D:List Fr} {T:List Tm} {j:Nat} {x:Tm} (h:DnsE D (T.take j)) (hx:T[j]?=some x) (ho:x.at_<0∨(D.length:Int)≤x.at_):DnsE D (T.take (j+1)):=fun i y hy=>by
 have hi:=(List.getElem?_eq_some_iff.1 hy).1;rw[dns_get hx,if_neg zo,Rat.add_zero];exact h i y hy
theorem DnsE.step {D:List Fr} {T:List Tm} {j a:Nat} {x:Tm} {y:Fr} (h:DnsE D (T.take j)) (hr:Rise (prs T)) (hx:T[j]?=some x) (ha:x.at_=(a:Int)) (hy:D[a]?=some y) (r:Fr) (hq:r.q=x.x.q):DnsE (D.set a r) (T.take (j+1)):=fun i z hz=>by
 have hal:=(List.getElem?_eq_some_iff.1 hy).1;by_cases e:i=a
 ·subst e;rw[List.getElem?_set_self hal,Option.some.injEq] at hz;subst hz;have h2:Rise (prs (T.take (j+1))):=by rw[←prs_take];exact List.Pairwise.sublist (List.take_sublist _ _) hr
  have h3:(x.at_,x.x.q)∈prs (T.take (j+1)):=by rw[zAk hx,prs_append];exact List.mem_append_right _ (List.mem_singleton.2 rfl)
  rw[←ha,h2.get h3,hq]
 ·rw[List.getElem?_set_ne (fun e2=>e e2.symm)] at hz;rw[dns_get hx,if_neg zo,Rat.add_zero];exact h i z hz
theorem DnsE.done {D:List Fr} {T:List Tm} {m:Nat} (h:DnsE D T) (hl:D.length=m):D.map (fun x=>x.q)=denseF (prs T) m:=by
 apply List.ext_getElem?
 intro i;unfold denseF
 rw[List.getElem?_map,List.getElem?_map];by_cases hi:i<m
 ·rw[List.getElem?_range hi,List.getElem?_eq_getElem zo];simp only[Option.map_some]
  rw[h i _ (List.getElem?_eq_getElem zo)]
 ·rw[List.getElem?_eq_none zo,List.getElem?_eq_none (by rw[List.length_range];omega)];rfl
def TellsFs (w:World) (l:List Rat) (K:Nat) (e:Ending) (w':World):Prop:=∃A n c L,e=.returned (.slice A n c)∧Sl Fr.cs 4 w' A n c L∧AllRn w' K L∧L.map (fun x=>x.q)=l∧Below w.heap.size w w'
theorem pget_dot (L:List (Int×Rat)) (a:Int):pdot [(a,1)] L=pget L a:=by
 rw[pdot_cons,pdot_nil,Rat.add_zero,Rat.one_mul]
theorem pdot_by (Y:List (Int×Rat)) (q:Rat):∀L:List (Int×Rat),pdot Y (L.map fun c=>(c.1,c.2*q))=pdot Y L*q
 | []=>by rw[List.map_nil,pdot_nil_right,Rat.zero_mul]
 | c :: L=>by rw[List.map_cons,pdot_cons_right,pdot_cons_right,pdot_by Y q L,Rat.add_mul,Rat.mul_assoc]
theorem pdot_append_right (Y A B:List (Int×Rat)):pdot Y (A++B)=pdot Y A+pdot Y B:=by rw[pdot_comm,pdot_append,pdot_comm A,pdot_comm B]
theorem idxP_get:∀(l:List Rat) (a:Int),pget (idxP l) a=if 0≤a∧a<(l.length:Int) then l.getD a.toNat 0 else 0:=by
 have key:∀(l:List Rat) (s:Nat) (a:Int),pget (l.mapIdx fun i q=>(((s+i:Nat):Int),q)) a=if(s:Int)≤a∧a<((s+l.length:Nat):Int) then l.getD (a.toNat-s) 0 else 0:=by
  intro l;induction l with
  | nil=>intro s a;rw[List.mapIdx_nil,pget_nil,if_neg (by rw[List.length_nil];omega)]
  | cons q l ih =>
   intro s a;rw[List.mapIdx_cons,zAi];have e:(l.mapIdx fun i q=>(((s+(i+1):Nat):Int),q))=l.mapIdx fun i q=>(((s+1+i:Nat):Int),q):=by
    congr 1
    funext i q
    congr 1
    omega
   rw[e,ih,List.length_cons];simp only[Nat.add_zero]
   by_cases h:(s:Int)=a
   ·rw[if_pos h,if_neg zo,if_pos zo,Rat.add_zero,show a.toNat-s=0 by omega];rfl
   ·rw[if_neg h];by_cases h2:(s:Int)≤a∧a<((s+(l.length+1):Nat):Int)
    ·rw[if_pos zo,if_pos h2,show a.toNat-s=(a.toNat-(s+1))+1 by omega,List.getD_cons_succ]
    ·rw[if_neg zo,if_neg h2]
 intro l a;have h:=key l 0 a;simp only[Nat.zero_add,Nat.sub_zero] at h
 unfold idxP
 simpa using h
theorem idxP_map_get {α:Type} (C:List α) (f:α→Rat) (a:Int) (d:α) (_hd:f d=0):pget (idxP (C.map f)) a=if 0≤a∧a<(C.length:Int) then f (C.getD a.toNat d) else 0:=by
 rw[idxP_get,List.length_map];split
 case isTrue h =>
  have hi:a.toNat<C.length:=zo;rw[List.getD_eq_getElem?_getD,List.getElem?_map,List.getD_eq_getElem?_getD,List.getElem?_eq_getElem hi];rfl
 case isFalse=>rfl
theorem times_dot (Y:List (Int×Rat)) (C:List (List (Int×Rat))):∀X:List (Int×Rat),pdot Y (timesP C X)=pdot X (idxP (C.map fun c=>pdot Y c))
 | []=>by show pdot Y []=_;rw[pdot_nil_right,pdot_nil]
 | t :: X=>by
  rw[timesP_cons,pdot_append_right,times_dot Y C X,pdot_cons];congr 1
  rw[idxP_map_get C (fun c=>pdot Y c) t.1 [] (pdot_nil_right Y)];split
  ·rw[pdot_by,Rat.mul_comm]
  ·rw[pdot_nil_right,Rat.mul_zero]
theorem times_get (C:List (List (Int×Rat))) (X:List (Int×Rat)) (a:Int):pget (timesP C X) a=pdot X (idxP (C.map fun c=>pget c a)):=by
 rw[←pget_dot,times_dot];congr 2
 exact List.map_congr_left fun c _=>pget_dot c a
def trnE (C:List (List (Int×Rat))):Nat→List (Int×Int×Rat)
 | 0=>[]
 | k+1=>trnE C k++(nrm (C.getD k [])).map fun x=>((k:Int),x.1,x.2)
def rowE (E:List (Int×Int×Rat)) (i:Int):List (Int×Rat):=(E.filter fun e=>decide (e.2.1=i)).map fun e=>(e.1,e.2.2)
def turnF (C:List (List (Int×Rat))) (i:Int):List (Int×Rat):=rowE (trnE C C.length) i
theorem rowE_append (E F:List (Int×Int×Rat)) (i:Int):rowE (E++F) i=rowE E i++rowE F i:=by unfold rowE;rw[List.filter_append,List.map_append]
theorem rowE_one (e:Int×Int×Rat) (i:Int):rowE [e] i=if e.2.1=i then [(e.1,e.2.2)] else []:=by
 unfold rowE
 rw[List.filter_cons,List.filter_nil];by_cases h:e.2.1=i
 ·rw[if_pos h,if_pos (by simpa using h)];rfl
 ·rw[if_neg h,if_neg (by simpa using h)];rfl
theorem rowE_col (k i:Int):∀{L:List (Int×Rat)},Nrm L→rowE (L.map fun x=>(k,x.1,x.2)) i=if pget L i=0 then [] else [(k,pget L i)]
 | [],_=>by rw[pget_nil,if_pos rfl];rfl
 | x :: L,h=>by
  have hr:=Rise.cons.1 h.rise;have e:rowE ((x :: L).map fun x=>(k,x.1,x.2)) i=rowE [(k,x.1,x.2)] i++rowE (L.map fun x=>(k,x.1,x.2)) i:=by rw[←rowE_append];rfl
  rw[e,rowE_one,rowE_col k i h.tail,zAi];by_cases hx:x.1=i
  ·have h0:pget L i=0:=pget_none fun y hy=>by have:=hr.1 y hy;omega
   have hz:=h.nz x List.mem_cons_self;simp only
   rw[if_pos hx,if_pos h0,if_pos hx,h0,Rat.add_zero,if_neg hz];rfl
  ·simp only
   rw[if_neg hx,if_neg hx];rfl
theorem trn_step (C:List (List (Int×Rat))) (k:Nat) (i:Int):rowE (trnE C (k+1)) i=rowE (trnE C k) i++(if pget (C.getD k []) i=0 then [] else [((k:Int),pget (C.getD k []) i)]):=by
 show rowE (trnE C k++_) i=_
 rw[rowE_append,rowE_col _ _ (nrm_nrm _),nrm_get]
theorem trn_low (C:List (List (Int×Rat))) (i:Int):∀k,∀x∈rowE (trnE C k) i,0≤x.1∧x.1<(k:Int)
 | 0,x,h=>by cases h
 | k+1,x,h=>by
  rw[trn_step] at h;rcases List.mem_append.1 h with h | h
  ·have:=trn_low C i k x h;omega
  ·split at h
   ·cases h
   ·obtain rfl:=List.mem_singleton.1 h;simp only
    omega
theorem trn_nrm (C:List (List (Int×Rat))) (i:Int):∀k,Nrm (rowE (trnE C k) i)
 | 0=>⟨List.Pairwise.nil,fun x hx=>by cases hx⟩
 | k+1=>by
  rw[trn_step];split
  ·rw[List.append_nil];exact trn_nrm C i k
  ·exact(trn_nrm C i k).snoc (fun o ho=>(trn_low C i k o ho).2) (by assumption)
theorem trn_get (C:List (List (Int×Rat))) (i:Int):∀(k:Nat) (a:Int),pget (rowE (trnE C k) i) a=if 0≤a∧a<(k:Int) then pget (C.getD a.toNat []) i else 0
 | 0,a=>by rw[if_neg zo];rfl
 | k+1,a=>by
  rw[trn_step,pget_append,trn_get C i k a];have e:pget (if pget (C.getD k []) i=0 then [] else [((k:Int),pget (C.getD k []) i)]) a=if(k:Int)=a then pget (C.getD k []) i else 0:=by
   by_cases h:pget (C.getD k []) i=0
   ·rw[if_pos h,pget_nil,h];split<;>rfl
   ·rw[if_neg h,pget_one]
  rw[e];by_cases h:(k:Int)=a
  ·rw[if_neg zo,if_pos h,if_pos zo,Rat.zero_add,show a.toNat=k by omega]
  ·rw[if_neg h,Rat.add_zero];by_cases h2:0≤a∧a<(k:Int)
   ·rw[if_pos h2,if_pos zo]
   ·rw[if_neg h2,if_neg zo]
theorem turn_nrm (C:List (List (Int×Rat))) (i:Int):Nrm (turnF C i):=trn_nrm C i _
theorem turn_get (C:List (List (Int×Rat))) (i a:Int):pget (turnF C i) a=if 0≤a∧a<(C.length:Int) then pget (C.getD a.toNat []) i else 0:=trn_get C i _ a
theorem turn_idx (C:List (List (Int×Rat))) (i a:Int):pget (turnF C i) a=pget (idxP (C.map fun c=>pget c i)) a:=by
 rw[turn_get,idxP_map_get C (fun c=>pget c i) a [] (pget_nil i)]
def turnT (C:List (List (Int×Rat))) (n:Nat):List (List (Int×Rat)):=(List.range n).map fun(i:Nat)=>turnF C (i:Int)
theorem turnT_len (C:List (List (Int×Rat))) (n:Nat):(turnT C n).length=n:=by unfold turnT;rw[List.length_map,List.length_range]
theorem pdot_tot {Q:List (Int×Rat)} {K:Nat} (hQ:∀a,sz (pget Q a)≤K):∀P:List (Int×Rat),sz (pdot P Q)≤1+wtot P+P.length*K
 | []=>Nat.le_trans sz_zero zo
 | x :: P=>by
  have h1:=pdot_tot hQ P;have h2:=sz_add (sz_mul (Nat.le_refl (sz x.2)) (hQ x.1)) (Nat.le_refl (sz (pdot P Q)));rw[pdot_cons,List.length_cons,Nat.add_mul,Nat.one_mul];show _≤1+(sz x.2+1+wtot P)+_
  omega
open Go.RowKit Tw
def CW (w:World) (A:Option Addr) (n c:Nat) (C:List (List (Int×Rat))) (M:Nat):Prop :=
 ∃CL:List Vc,Sl Vc.cs 1 w A n c CL∧(∀v∈CL,GV w v.A v.n v.c (prs v.L) M)∧CL.map (fun v=>prs v.L)=C
def CM (w:World) (A:Option Addr) (n c:Nat) (C:List (List (Int×Rat))) (M:Nat):Prop :=
 ∃CL:List Vc,Sl Vc.cs 1 w A n c CL∧(∀v∈CL,CN w v M)∧CL.map (fun v=>prs v.L)=C
theorem CW.below {w w':World} {A:Option Addr} {n c M:Nat} {C:List (List (Int×Rat))} (h:CW w A n c C M) (hb:Below w.heap.size w w'):CW w' A n c C M:=by
 obtain⟨CL,h1,h2,h3⟩:=h;exact⟨CL,h1.below hb,fun v hv=>(h2 v hv).below hb,h3⟩
theorem CM.below {w w':World} {A:Option Addr} {n c M:Nat} {C:List (List (Int×Rat))} (h:CM w A n c C M) (hb:Below w.heap.size w w'):CM w' A n c C M:=by
 obtain⟨CL,h1,h2,h3⟩:=h;exact⟨CL,h1.below hb,fun v hv=>(h2 v hv).below hb,h3⟩
theorem CW.len {w:World} {A:Option Addr} {n c M:Nat} {C:List (List (Int×Rat))} (h:CW w A n c C M):C.length=n:=by
 obtain⟨CL,h1,_,rfl⟩:=h;rw[List.length_map,h1.1]
theorem CM.len {w:World} {A:Option Addr} {n c M:Nat} {C:List (List (Int×Rat))} (h:CM w A n c C M):C.length=n:=by
 obtain⟨CL,h1,_,rfl⟩:=h;rw[List.length_map,h1.1]
theorem CM.cw {w:World} {A:Option Addr} {n c M:Nat} {C:List (List (Int×Rat))} (h:CM w A n c C M) (hr:∀x∈C,Rise x):CW w A n c C (M+1):=by
 obtain⟨CL,h1,h2,rfl⟩:=h;exact⟨CL,h1,fun v hv=>(h2 v hv).nv.gv (hr _ (List.mem_map_of_mem (f:=fun v:Vc=>prs v.L) hv)),rfl⟩
theorem times_len {C:List (List (Int×Rat))} {P:List (Int×Rat)} {k N:Nat} (hC:∀c∈C,c.length≤k) (hP:P.length≤N):(nrm (timesP C (nrm P))).length≤N*k :=
 Nat.le_trans (nrm_len _) (Nat.le_trans (timesP_len hC _) (Nat.mul_le_mul_right _ (Nat.le_trans (nrm_len _) hP)))
theorem timesW {w:World} {X A:Option Addr} {nx cx n c:Nat} {P:List (Int×Rat)} {C:List (List (Int×Rat))} (M MC kc mc N WT D K:Nat) (h:CW w A n c C MC) (hx:GV w X nx cx P M) (hC:∀x∈C,x.length≤kc∧wtot x≤mc) (hnx:nx≤N) (hW:wtot P≤WT)
  (hM:M≤9000) (hMC:MC≤9000) (hN:N≤1000) (hkc:kc≤1000) (hn:n≤1000000) (hD:N*mc+kc*WT≤D) (hD2:D≤18000) (hK:N*kc≤K) (hT:Hid (Tab w)) :
  Calls Tryz.prog 57 #[.slice A n c,.slice X nx cx] w (TellsW w (nrm (timesP C (nrm P))) D K):=by
 obtain⟨CL,h1,h2,rfl⟩:=h;have hl:=hx.len;have a1:=Nat.mul_le_mul_right mc hnx;have a2:=Nat.mul_le_mul_left kc hW;refine(timesV_q M MC kc mc h1 (zh fun v hv=>?_) hx hM hMC zo hkc hn D zo hD2 hT).mono fun _ _ k=>k.w (Nat.le_refl _) (Nat.le_trans (times_len (fun c hc=>(hC c hc).1) zo) hK);have h3:=hC _ (List.mem_map_of_mem (f:=fun v:Vc=>prs v.L) hv);have h4:=(h2 v hv).len;exact⟨h2 v hv,zo,h3.2⟩
theorem idx_len (l:List Rat):(idxP l).length=l.length:=List.length_mapIdx
theorem leftC {w:World} {X A:Option Addr} {nx cx n c:Nat} {P:List (Int×Rat)} {C:List (List (Int×Rat))} (M MC N K NN:Nat) (hx:GV w X nx cx P M) (h:CW w A n c C MC) (hnx:nx≤N) (hC:∀x∈C,x.length≤1000) (hn:n≤NN) (hNN:NN≤1000000)
  (hK:∀x∈C,sz (pdot (nrm P) x)≤K) (hK0:1≤K) (hK1:N*(M+1+MC+3)≤15000) (hK2:K≤15000) (hM:M≤14000) (hMC:MC≤14000) (hN:N≤1000) (hT:Hid (Tab w)) :
  Calls Tryz.prog 59 #[.slice X nx cx,.slice A n c] w (TellsW w (nrm (idxP (C.map fun x=>pdot P x))) (K+2) NN):=by
 have hln:=h.len;obtain⟨CL,h1,h2,rfl⟩:=h;have e:(CL.map (fun v=>prs v.L)).map (fun x=>pdot P x)=CL.map fun v=>pdot P (prs v.L):=by rw[List.map_map];rfl
 rw[e];refine(leftW M MC N K hx hnx h1 (zh fun v hv=>?_) zo (zh fun v hv=>hK _ (List.mem_map_of_mem (f:=fun v:Vc=>prs v.L) hv)) hK0 hK1 hK2 hM hMC hN hT).mono fun _ _ k=>k.w (Nat.le_refl _) (Nat.le_trans (nrm_len _) (by rw[idx_len,List.length_map];rw[List.length_map] at hln;omega));have h3:=hC _ (List.mem_map_of_mem (f:=fun v:Vc=>prs v.L) hv);have h4:=(h2 v hv).len;exact⟨h2 v hv,zo⟩
open Go.RowKit Tw
def RowsE (V:List Vc) (E:List (Int×Int×Rat)):Prop:=∀(a:Nat) (v:Vc),V[a]?=some v→prs v.L=rowE E (a:Int)
def colE (k:Nat) (L:List (Int×Rat)):List (Int×Int×Rat):=L.map fun x=>((k:Int),x.1,x.2)
theorem colE_snoc (k:Nat) {T:List Tm} {j:Nat} {x:Tm} (h:T[j]?=some x):colE k (prs (T.take (j+1)))=colE k (prs (T.take j))++[((k:Int),x.at_,x.x.q)]:=by
 rw[zAk h,prs_append];exact List.map_append
theorem RowsE.start (n:Nat):RowsE (List.replicate n zVc) []:=fun a v hv=>by rw[List.eq_of_mem_replicate (List.mem_of_getElem? hv)];rfl
theorem RowsE.skip {V:List Vc} {E:List (Int×Int×Rat)} (h:RowsE V E) {k at_:Int} {q:Rat} (ho:at_<0∨(V.length:Int)≤at_):RowsE V (E++[(k,at_,q)]):=fun a v hv=>by
 have ha:=(List.getElem?_eq_some_iff.1 hv).1;rw[rowE_append,rowE_one,if_neg (by simp only;omega),List.append_nil];exact h a v hv
theorem RowsE.step {V:List Vc} {E:List (Int×Int×Rat)} (h:RowsE V E) {a:Nat} {u:Vc} (hu:V[a]?=some u) (H:Option Addr) (m c:Nat) (t:Tm) (k:Int):RowsE (V.set a ⟨H,m,c,u.L++[⟨k,t.x⟩]⟩) (E++[(k,(a:Int),t.x.q)]):=fun b v hv=>by
 have ha:=(List.getElem?_eq_some_iff.1 hu).1;rw[rowE_append,rowE_one];by_cases e:b=a
 ·subst e;rw[List.getElem?_set_self ha,Option.some.injEq] at hv;subst hv;rw[if_pos rfl,prs_append,h b u hu];rfl
 ·rw[List.getElem?_set_ne (fun e2=>e e2.symm)] at hv;rw[if_neg (by simp only;omega),List.append_nil];exact h b v hv
theorem RowsE.done {V:List Vc} {C:List (List (Int×Rat))} {n:Nat} (h:RowsE V (trnE C C.length)) (hl:V.length=n):V.map (fun v=>prs v.L)=turnT C n:=by
 apply List.ext_getElem?
 intro a;unfold turnT
 rw[List.getElem?_map,List.getElem?_map];by_cases ha:a<n
 ·rw[List.getElem?_range ha,List.getElem?_eq_getElem zo];simp only[Option.map_some]
  rw[h a _ (List.getElem?_eq_getElem zo)];rfl
 ·rw[List.getElem?_eq_none zo,List.getElem?_eq_none (by rw[List.length_range];omega)];rfl
theorem trnE_col {C:List (List (Int×Rat))} {k:Nat} {c:List (Int×Rat)} (h:C[k]?=some c):trnE C (k+1)=trnE C k++colE k (nrm c):=by
 show trnE C k++_=_
 rw[List.getD_eq_getElem?_getD,h];rfl
theorem trn_len (C:List (List (Int×Rat))) (i:Int):∀k,(rowE (trnE C k) i).length≤k
 | 0=>Nat.le_refl _
 | k+1=>by
  have:=trn_len C i k;rw[trn_step,List.length_append];split
  ·simp only[List.length_nil];omega
  ·simp only[List.length_cons,List.length_nil];omega
theorem RowsE.small {V:List Vc} {C:List (List (Int×Rat))} {k a:Nat} {L:List (Int×Rat)} {u:Vc} (h:RowsE V (trnE C k++colE k L)) (hu:V[a]?=some u):u.L.length≤k+L.length:=by
 have h1:=congrArg List.length (h a u hu);have h2:=trn_len C (a:Int) k;have h3:(rowE (colE k L) (a:Int)).length≤L.length:=by
  unfold rowE colE
  rw[List.length_map];refine Nat.le_trans (List.length_filter_le _ _) ?_;rw[List.length_map];exact Nat.le_refl _
 rw[prs_len,rowE_append,List.length_append] at h1;omega
theorem OnT.one {w:World} {M:Nat} {s s':Bool} {A A':Option Addr} {c l c' l':Nat} {q:Rat} (at_:Int) (h:RN w s A c l s' A' c' l' q) (hs:sz q+1≤M):OnT w [⟨at_,⟨s,A,c,l,s',A',c',l',q,true⟩⟩] (fun _=>M):=fun t ht=>by
 obtain rfl:=List.mem_singleton.1 ht;exact⟨h,rfl,hs⟩
open Go.RowKit Tw
def TellsTu (w:World) (C:List (List (Int×Rat))) (m M:Nat) (e:Ending) (w':World):Prop :=
 ∃(g:Nat) (V:List Vc),e=.returned (.tuple #[.slice (some ⟨g,0,none⟩) m m,.int .i64 0])∧Sl Vc.cs 1 w' (some ⟨g,0,none⟩) m m V∧(∀v∈V,CN w' v M)∧V.map (fun v=>prs v.L)=turnT C m∧Below w.heap.size w w'
def TU1 (w:World) (g m M n:Nat) (C:List (List (Int×Rat))) (gk:Nat) (s:Value) (wr:World):Prop :=
 ∃(i:Nat) (V:List Vc),i≤n∧n-i=gk∧s=.int .i64 (i:Int)∧TS wr w.heap.size g m (.slice none 0 0) 0 [] V M∧RowsE V (trnE C i)∧Below w.heap.size w wr
def TU2 (w:World) (g m M nm:Nat) (X:Value) (T:List Tm) (E:List (Int×Int×Rat)) (i gk:Nat) (s:Value) (wr:World):Prop :=
 ∃(j:Nat) (V:List Vc),j≤nm∧nm-j=gk∧s=.int .i64 (j:Int)∧TS wr w.heap.size g m X nm (flat Tm.cs T) V M∧RowsE V (E++colE i (prs (T.take j)))∧OnT wr T (fun _=>M)∧Below w.heap.size w wr
theorem turn_no {w:World} {A:Option Addr} {n c:Nat} (k:Int) (hk:k<0∨65536<k) :
  Calls Tryz.prog 50 #[.slice A n c,.int .i64 k] w fun e w'=>e=.returned (.tuple #[.slice none 0 0,.int .i64 2])∧w=w':=by
 by_cases g1:k<0
 ·clear hk;go_enter Tryz.func50,Tryz.ntmps50
  go_wp2_with fail
  go_ret2
  exact⟨rfl,rfl⟩
 ·have g2:65536<k:=zo;clear hk;go_enter Tryz.func50,Tryz.ntmps50
  go_wp2_with fail
  go_ret2
  exact⟨rfl,rfl⟩
theorem turnV_q {w:World} {A:Option Addr} {n c m M:Nat} {CL:List Vc} (h:Sl Vc.cs 1 w A n c CL) (hcl:Hid (∀v∈CL,GV w v.A v.n v.c (prs v.L) M∧v.n≤1000000)) (hM:M≤18000) (hn:n≤1000000) (hm:m≤65536) (hT:Hid (Tab w)) :
  Calls Tryz.prog 50 #[.slice A n c,.int .i64 (m:Int)] w (TellsTu w (CL.map fun v=>prs v.L) m M):=by
 have H:=zh h;have HLN:=zh h.1;have g1:¬(m:Int)<0:=zo;have g2:¬65536<(m:Int):=zo;clear h;go_enter Tryz.func50,Tryz.ntmps50
 go_wp2_with (at_make;refine And.left (b:=True) ?_)
 refine⟨?_,trivial⟩;refine Elt.makeN elt_vcs zVc (fun i z h1 h2=>vc_zero h1 h2) rfl _ _ rfl .i64 .i64 m rfl rfl zo w.heap.size (Nat.le_refl _) ?_;intro g w1 ho1 b1;have HTS:=zh (TS.start (M:=M) ho1);have HB1:=zh b1;clear ho1 b1;go_wp2_with fail
 go_loopg [21] n (fun gk s wr=>TU1 w g m M n (CL.map fun v=>prs v.L) gk s wr)
 case atStart=>exact⟨0,_,Nat.zero_le _,rfl,rfl,HTS.out,RowsE.start _,HB1.out⟩
 case round =>
  clear HTS HB1;obtain⟨i,V,hi,hgk,rfl,hts,hrw,hB⟩:=hrel;have HGK:=zh hgk;have HRW:=zh hrw;have HTS:=zh hts;clear hgk hrw hts;by_cases hlt:i<n
  ·obtain⟨b,off,rfl,hel⟩:=H.out.at Vc.cs_len zo zo;obtain⟨v,hv⟩:∃v,CL[i]?=some v:=⟨CL[i]'(by rw[HLN.out];exact hlt),List.getElem?_eq_getElem _⟩;have hnd:ElA w b (off+i) v.cs:=by have:=hel i v hv;rwa [Nat.mul_one] at this
   have hcv:=hcl.out v (List.mem_of_getElem? hv);have HTC:=zh (trnE_col (C:=CL.map fun v=>prs v.L) (k:=i) (c:=prs v.L) (by rw[List.getElem?_map,hv];rfl));have hnq:=normO_q (hcv.1.below hB) zo hcv.2 (zh (hT.out.below hB));have HPL:=zh hcv.1.len;have hvn:=hcv.2;have p0:=(hnd.below hB).c0 (u:=.slice v.A v.n v.c) rfl;have i1:(i:Int)<(n:Int):=zo;have i2:(0:Int)≤(i:Int):=zo;clear hel hv hcv hnd;go_wp2_with fail
   with_reducible refine hnq.mono ?_
   rintro e w2 ⟨Am,nm,cm,T,rfl,ho2,on2,ep,b2⟩;have HTS2:=zh (HTS.out.beside b2 hB.size ho2);have HN2:=zh on2;have HEP:=zh ep;have HTL:=zh (ho2.eltn elt_vec zo);have HB2:=zh (zAa hB b2);have hnm:nm≤1000000:=by
    have h1:=nrm_len (prs v.L);rw[←ep,prs_len,ho2.eltn elt_vec zo] at h1;have:=HPL.out;omega
   clear hnq ho2 on2 ep b2 p0 hB;go_wp2_with fail
   go_loopg [29] nm (fun gk s wr=>TU2 w g m M nm (.slice Am nm cm) T (trnE (CL.map fun v=>prs v.L) i) i gk s wr)
   case atStart=>exact⟨0,V,Nat.zero_le _,rfl,rfl,HTS2.out,by rw[List.take_zero];show RowsE V (trnE (CL.map fun v=>prs v.L) i++[]);rw[List.append_nil];exact HRW.out,HN2.out,HB2.out⟩
   case round =>
    clear HTS HTS2 HN2 HB2 HRW;obtain⟨j,V,hj,hgj,rfl,hts,hrw,hon,hB⟩:=hrel;have HGJ:=zh hgj;have HRW:=zh hrw;clear hgj hrw;by_cases hlj:j<nm
    ·obtain⟨eb,offe,rfl,hel⟩:=(hts.xo.sl' elt_vec HTL.out).at Tm.cs_len zo zo;obtain⟨x,hx⟩:∃x,T[j]?=some x:=⟨T[j]'(by rw[HTL.out];exact hlj),List.getElem?_eq_getElem _⟩;have hnd:=hel j x hx;have HCS:=zh (colE_snoc i hx);have HXN:=zh (hon x (List.mem_of_getElem? hx));have HVL:=zh hts.len;have j1:(j:Int)<(nm:Int):=zo;have j2:(0:Int)≤(j:Int):=zo;clear hel hx;by_cases k1:x.at_<0
     ·have HR2:Hid (RowsE V (trnE (CL.map fun v=>prs v.L) i++colE i (prs (T.take (j+1))))):=zh (by rw[HCS.out,←List.append_assoc];exact HRW.out.skip (.inl k1));have g3:¬0≤x.at_:=zo;have Bz:=Below.refl wr.heap.size wr;obtain⟨pA0,pA1,pA2,pA3,pA4,-⟩:=(hnd.below Bz).ez;go_upto_region 10 with(fail)
      obtain⟨V11,hW,x0,hN⟩:=zAf wr #[.int .i64 x.at_,.bool x.x.s,.slice x.x.A x.x.l x.x.c,.bool x.x.s',.slice x.x.A' x.x.l' x.x.c'] 114;rw[←hW];clear hW;obtain⟨v0,hb0⟩:∃b,b=wr.heap.size:=⟨_,rfl⟩;rw[←hb0] at x0 ⊢;have ow_0:w.heap.size≤v0:=zia (zw hB Bz);replace hon:=hon.below hN;replace hts:=hts.below hN;replace hB:=zAa (zAa hB Bz) hN;have HX0:=zh x0;clear x0 hN Bz hb0;have Bz:=Below.refl V11.heap.size V11;clear pA0 pA1 pA2 pA3 pA4;have pa0:=(zxb HX0 Bz).cell 0 (.int .i64 x.at_) rfl;go_wp2_with fail
      go_roundg (nm-(j+1))
      case measure=>have:=HGJ.out;omega
      case rel=>exact⟨j+1,_,zo,rfl,by go_num,TS.below hts (by go_grown),HR2.out,OnT.below hon (by go_grown),zAa (zAa hB Bz) (by go_grown)⟩
     ·by_cases k2:(m:Int)≤x.at_
      ·have HR2:Hid (RowsE V (trnE (CL.map fun v=>prs v.L) i++colE i (prs (T.take (j+1))))):=zh (by rw[HCS.out,←List.append_assoc];exact HRW.out.skip (.inr (by rw[HVL.out];exact k2)));have g3:0≤x.at_:=zo;have g4:¬x.at_<(m:Int):=zo;have Bz:=Below.refl wr.heap.size wr;obtain⟨pA0,pA1,pA2,pA3,pA4,-⟩:=(hnd.below Bz).ez;go_upto_region 10 with(fail)
       obtain⟨V11,hW,x0,hN⟩:=zAf wr #[.int .i64 x.at_,.bool x.x.s,.slice x.x.A x.x.l x.x.c,.bool x.x.s',.slice x.x.A' x.x.l' x.x.c'] 114;rw[←hW];clear hW;obtain⟨v0,hb0⟩:∃b,b=wr.heap.size:=⟨_,rfl⟩;rw[←hb0] at x0 ⊢;have ow_0:w.heap.size≤v0:=zia (zw hB Bz);replace hon:=hon.below hN;replace hts:=hts.below hN;replace hB:=zAa (zAa hB Bz) hN;have HX0:=zh x0;clear x0 hN Bz hb0;have Bz:=Below.refl V11.heap.size V11;clear pA0 pA1 pA2 pA3 pA4;have pa0:=(zxb HX0 Bz).cell 0 (.int .i64 x.at_) rfl;go_wp2_with fail
       go_roundg (nm-(j+1))
       case measure=>have:=HGJ.out;omega
       case rel=>exact⟨j+1,_,zo,rfl,by go_num,TS.below hts (by go_grown),HR2.out,OnT.below hon (by go_grown),zAa (zAa hB Bz) (by go_grown)⟩
      ·have g3:0≤x.at_:=zo;have g4:x.at_<(m:Int):=zo;obtain⟨u,hu⟩:∃u,V[x.at_.toNat]?=some u:=⟨V[x.at_.toNat]'(by rw[HVL.out];omega),List.getElem?_eq_getElem _⟩;have HVU:=zh hu;have hou:OwnR wr w.heap.size 114 5 (.slice u.A u.n u.c) u.n (flat Tm.cs u.L):=(hts.row u (List.mem_of_getElem? hu)).1;have hout:=hts.out;have apGU:Ap (.slice (some ⟨g,0,none⟩) m m) (.slice u.A u.n u.c):=(hts.og u (List.mem_of_getElem? hu)).1;have apUG:=apGU.symm;have hun:u.n≤i+nm:=by
        have h1:=HRW.out.small hu;rw[hou.eltn elt_vec zo,prs_len,List.length_take] at h1;omega
       have hrx:=HXN.out.1;have HSX:=zh HXN.out.2.2;have HR2:Hid (∀(H:Option Addr) (k c:Nat),RowsE (V.set x.at_.toNat ⟨H,k,c,u.L++[⟨(i:Int),⟨x.x.s,x.x.A,x.x.c,x.x.l,x.x.s',x.x.A',x.x.c',x.x.l',x.x.q,true⟩⟩]⟩) (trnE (CL.map fun v=>prs v.L) i++colE i (prs (T.take (j+1))))):=zh (fun H k c=>by
        have h9:=HRW.out.step hu H k c ⟨0,⟨x.x.s,x.x.A,x.x.c,x.x.l,x.x.s',x.x.A',x.x.c',x.x.l',x.x.q,true⟩⟩ (i:Int);rw[HCS.out,←List.append_assoc];rw[Int.toNat_of_nonneg g3] at h9;exact h9)
       clear hu;have Bz:=Below.refl wr.heap.size wr;obtain⟨pA0,pA1,pA2,pA3,pA4,-⟩:=(hnd.below Bz).ez;go_upto_region 10 with(fail)
       obtain⟨V11,hW,x0,hN⟩:=zAf wr #[.int .i64 x.at_,.bool x.x.s,.slice x.x.A x.x.l x.x.c,.bool x.x.s',.slice x.x.A' x.x.l' x.x.c'] 114;rw[←hW];clear hW;obtain⟨v0,hb0⟩:∃b,b=wr.heap.size:=⟨_,rfl⟩;rw[←hb0] at x0 ⊢;have ow_0:w.heap.size≤v0:=zia (zw hB Bz);have nv0_own:=OwnR.off' (b:=v0) hou zo;have nv0_out:=OwnR.off' (b:=v0) hout zo;replace hon:=hon.below hN;replace hout:=hout.below hN;replace hou:=hou.below hN;replace hrx:=hrx.below hN;replace hts:=hts.below hN;replace hB:=zAa (zAa hB Bz) hN;have HX0:=zh x0;clear x0 hN Bz hb0;have Bz:=Below.refl V11.heap.size V11;clear pA0 pA1 pA2 pA3 pA4;obtain⟨pa0,pa1,pa2,pa3,pa4,-⟩:=(zxb HX0 Bz).cz;have pB0:=vc_cell hout HVU.out;have fB0:=hout.frozen x.at_.toNat;have y51:=hout.blk.1;go_wp2_with fail
       (try simp only[List.append_eq,List.cons_append,List.nil_append])
       refine zAb (.pure 0 (.pure 1 (.take 2 (.pure 3 (.pure 4 (.take 5 (.pure 6 (.take 7 (.pure 8 (.pure 9 (.take 10 (.pure 11 (.only 12 (.only 13 (.pure 14 (.only 15 .done)))))))))))))))) [15] (fun w'=>w'.cell? ⟨v0,0,none⟩=some (.int .i64 x.at_)∧w'.cell? ⟨v0,1,none⟩=some (.bool x.x.s)∧w'.cell? ⟨v0,2,none⟩=some (.slice x.x.A x.x.l x.x.c)∧w'.cell? ⟨v0,3,none⟩=some (.bool x.x.s')∧w'.cell? ⟨v0,4,none⟩=some (.slice x.x.A' x.x.l' x.x.c')∧w'.cell? ⟨g,x.at_.toNat,none⟩=some (.slice u.A u.n u.c)) (by kernel_rfl) (by kernel_rfl) ⟨pa0,pa1,pa2,pa3,pa4,pB0⟩ ?_;iterate 2 (refine zP rfl rfl (fun w'=>by go_simp<;>with_reducible rfl) ?_;try simp only[uW,uX,uY,uZ])
       refine zT rfl rfl (fun w' ⟨pa0,pa1,pa2,pa3,pa4,pB0⟩=>by go_simp<;>with_reducible rfl) ?_;try simp only[uW,uX,uY,uZ]
       iterate 2 (refine zP rfl rfl (fun w'=>by go_simp<;>with_reducible rfl) ?_;try simp only[uW,uX,uY,uZ])
       refine zT rfl rfl (fun w' ⟨pa0,pa1,pa2,pa3,pa4,pB0⟩=>by go_simp<;>with_reducible rfl) ?_;try simp only[uW,uX,uY,uZ]
       refine zP rfl rfl (fun w'=>by go_simp<;>with_reducible rfl) ?_;try simp only[uW,uX,uY,uZ]
       refine zT rfl rfl (fun w' ⟨pa0,pa1,pa2,pa3,pa4,pB0⟩=>by go_simp<;>with_reducible rfl) ?_;try simp only[uW,uX,uY,uZ]
       iterate 2 (refine zP rfl rfl (fun w'=>by go_simp<;>with_reducible rfl) ?_;try simp only[uW,uX,uY,uZ])
       refine zT rfl rfl (fun w' ⟨pa0,pa1,pa2,pa3,pa4,pB0⟩=>by go_simp<;>with_reducible rfl) ?_;try simp only[uW,uX,uY,uZ]
       refine zP rfl rfl (fun w'=>by go_simp<;>with_reducible rfl) ?_;try simp only[uW,uX,uY,uZ]
       refine zC 54 rfl rfl (fun K hK=>?_);go_simp
       refine hK.out _ _ ⟨(zAd pa0),(zAd pa1),(zAd pa2),(zAd pa3),(zAd pa4),(zAd pB0)⟩ (fun _=>?_);try simp only[uW,uX,uY,uZ]
       clear hK K;refine zC 55 rfl rfl (fun K hK=>?_);obtain⟨V12,hW,x1,hN⟩:=zAf V11 #[.int .i64 (i:Int),.bool x.x.s,.slice x.x.A x.x.l x.x.c,.bool x.x.s',.slice x.x.A' x.x.l' x.x.c'] 114;rw[←hW];clear hW;obtain⟨v1,hb1⟩:∃b,b=V11.heap.size:=⟨_,rfl⟩;rw[←hb1] at x1 ⊢;have o0_1:v0<v1:=zia (zxb HX0 Bz).lt;have ow_1:w.heap.size≤v1:=zia (zw hB Bz);have nv1_own:=OwnR.off' (b:=v1) hou zo;have nv1_out:=OwnR.off' (b:=v1) hout zo;replace hon:=hon.below hN;replace hout:=hout.below hN;replace hou:=hou.below hN;replace hrx:=hrx.below hN;replace hts:=hts.below hN;replace hB:=zAa (zAa hB Bz) hN;replace HX0:=zh ((zxb HX0 Bz).below hN);have HX1:=zh x1;clear x1 hN Bz hb1;have Bz:=Below.refl V12.heap.size V12;clear pa0 pa1 pa2 pa3 pa4 pB0 fB0 y51;have HTS1:=zh (TS.below hts (zAa Bz (by go_grown)));have hdr:V12.drew.heap.size=V12.heap.size:=rfl;have hdr2:V12.drew.drew.heap.size=V12.heap.size:=rfl;refine Elt.wp elt_vec _ _ rfl (w.heap.size) (.slice u.A u.n u.c) (u.n) (u.L) rfl hou (.slice (some ⟨v1,0,none⟩) 1 1) (1) ([⟨(i:Int),⟨x.x.s,x.x.A,x.x.c,x.x.l,x.x.s',x.x.A',x.x.c',x.x.l',x.x.q,true⟩⟩]) rfl (From.one (HX1.out.below (zAa Bz (by go_grown))) (⟨(i:Int),⟨x.x.s,x.x.A,x.x.c,x.x.l,x.x.s',x.x.A',x.x.c',x.x.l',x.x.q,true⟩⟩) rfl (elt_vec.len _)) zo (zia (zw hB Bz)) ?_;intro H11 c11 w11 ho11 hg11;replace hB:=(zAa (zAa hB Bz) (by go_grown)).trans (hg11.below (zia (zw hB Bz)) (fun g hg=>by have:=hou.base g hg;omega));replace HX0:=zh (hg11.bx (HX0.out.below (zAa Bz (by go_grown))) nv0_own);clear HX1;have apGU':=hg11.ap hout apGU;have apUG':=apGU'.symm;replace hout:=(OwnR.below hout (by go_grown)).grown hg11 apGU;clear apGU apUG;have apGU:=apGU';have apUG:=apUG';clear apGU' apUG';clear hdr hdr2;replace hon:=hon.k hg11.k;replace hrx:=hrx.k hg11.k;clear Bz;have Bz:=Below.refl w11.heap.size w11;obtain⟨pa0,pa1,pa2,pa3,pa4,-⟩:=(zxb HX0 Bz).cz;have pB0:=vc_cell hout HVU.out;have fB0:=hout.frozen x.at_.toNat;have y51:=hout.blk.1;refine hK.out _ _ ⟨pa0,pa1,pa2,pa3,pa4,pB0⟩ (fun _=>?_);try simp only[uW,uX,uY,uZ]
       clear hK K;refine zP rfl rfl (fun w'=>by go_simp<;>with_reducible rfl) ?_;try simp only[uW,uX,uY,uZ]
       refine zAe (o:=⟨none,_,_,_,_,_⟩) rfl rfl zd (fun K hK=>?_);go_simp
       refine hK.out _ _ ?_;try simp only[Act.put,uX,uY,uZ]
       clear hK K;obtain⟨V13,hV,hts2,hg2⟩:=(TS.below HTS1.out (by go_grown)).step HVU.out ho11 hg11 (OnT.one (i:Int) (RN.below hrx (by go_grown)) HSX.out);rw[←hV];clear hV;replace hB:=(zAa hB Bz).trans (hg2.below (zia (zw hB Bz)) (fun g' hg'=>(TS.out hts2).base g' hg'));replace hon:=hon.k hg2.k;clear hg2 hg11 Bz hout;have Bz:=Below.refl V13.heap.size V13;clear HX0;clear pa0 pa1 pa2 pa3 pa4 pB0 fB0 y51;refine zAc ?_;go_wp2_with fail
       go_roundg (nm-(j+1))
       case measure=>have:=HGJ.out;omega
       case rel=>exact⟨j+1,_,zo,rfl,by go_num,TS.below hts2 (by go_grown),HR2.out _ _ _,OnT.below hon (by go_grown),zAa (zAa hB Bz) (by go_grown)⟩
    ·obtain rfl:j=nm:=zo;have j1:¬(j:Int)<(j:Int):=zo;have HRE:Hid (RowsE V (trnE (CL.map fun v=>prs v.L) (i+1))):=zh (by
      rw[HTC.out,←HEP.out];have h9:=HRW.out;rwa [List.take_of_length_le (by rw[HTL.out];exact Nat.le_refl _)] at h9)
     have HTA:=zh hts.alone;clear hts hon;go_wp2_with fail
     go_roundg (n-(i+1))
     case measure=>have:=HGK.out;omega
     case rel=>exact⟨i+1,V,zo,rfl,by go_num,HTA.out.below (by go_grown),HRE.out,zAa hB (by go_grown)⟩
  ·obtain rfl:i=n:=zo;have i1:¬(i:Int)<(i:Int):=zo;have hcn:=HTS.out.cn;have HC1:=zh hcn.1;have HC2:=zh hcn.2;have HDN:=zh (RowsE.done (C:=CL.map fun v=>prs v.L) (by rw[List.length_map,HLN.out];exact HRW.out) HTS.out.len);clear hcn;go_wp2_with fail
   go_ret2
   exact⟨g,V,rfl,HC1.out,HC2.out,HDN.out,hB⟩
open Go.RowKit Tw
theorem mright_no {w:World} {A:Option Addr} {n c:Nat} (k:Int) (g1:k<0):Calls Tryz.prog 61 #[.slice A n c,.int .i64 k] w fun e w'=>e=.returned (.bool false)∧w=w':=by
 go_enter Tryz.func61,Tryz.ntmps61
 go_wp2_with fail
 go_ret
 exact⟨rfl,rfl⟩
theorem mright_q {w:World} {A:Option Addr} {n c m:Nat} {CL:List Vc} {k:Int} (h:Sl Vc.cs 1 w A n c CL) (hcl:Hid (∀v∈CL,Sl Tm.cs 5 w v.A v.n v.c v.L∧(∀t∈v.L,FrOk w m t.x)∧v.n≤1000000000)) (hm:m≤20000) (hn:n≤1000000000) (g1:¬k<0) (r:Bool) (hr:Hid ((CL.all fun v=>rightB v.L k)=r)) (hT:Hid (Tab w)) :
  Calls Tryz.prog 61 #[.slice A n c,.int .i64 k] w fun e w'=>e=.returned (.bool r)∧Below w.heap.size w w':=by
 have H:=zh h;have HLN:=zh h.1;have hra:=hr;have hst:AL1 w CL (fun v=>rightB v.L k) n n (.int .i64 ((0:Nat):Int)) w:=⟨0,Nat.zero_le _,rfl,rfl,Below.refl _ _,by simp⟩;have HST:=zh hst;clear h hr hst;go_enter Tryz.func61,Tryz.ntmps61
 go_wp2_with fail
 go_loopg [11] n (fun gk s wr=>AL1 w CL (fun v=>rightB v.L k) n gk s wr)
 case atStart=>exact HST.out
 case round =>
  clear HST;obtain⟨i,hi,hgk,rfl,hB,hd⟩:=hrel;have HGK:=zh hgk;have HD:=zh hd;clear hgk hd;by_cases hlt:i<n
  ·obtain⟨b,off,rfl,hel⟩:=H.out.at Vc.cs_len zo zo;obtain⟨x,hx⟩:∃x,CL[i]?=some x:=⟨CL[i]'(by rw[HLN.out];exact hlt),List.getElem?_eq_getElem _⟩;have hnd:ElA w b (off+i) (Vc.cs x):=by have:=hel i x hx;rwa [Nat.mul_one] at this
   have HTI:=zh hx;have HV:=zh (hcl.out x (List.mem_of_getElem? HTI.out));have i1:(i:Int)<(n:Int):=zo;have i2:(0:Int)≤(i:Int):=zo;clear hx hel;cases hp:rightB x.L k
   ·have HP:=zh hp;clear hp;have Bz:=Below.refl wr.heap.size wr;have pA0:=(hnd.below (zAa hB Bz)).c0 (u:=.slice x.A x.n x.c) rfl;go_wp2_with fail
    with_reducible refine(right_q (HV.out.1.below (zAa hB (zAa (b:=wr) Bz (by go_grown)))) (fun t ht=>(HV.out.2.1 t ht).below (zAa hB (zAa (b:=wr) Bz (by go_grown)))) hm HV.out.2.2 false HP (zh (Tab.below hT.out (zAa hB (zAa (b:=wr) Bz (by go_grown)))))).mono ?_
    rintro e w1 ⟨rfl,b1⟩;replace b1:=zAa (a:=wr) (by go_grown) b1;replace Bz:=zAa Bz b1;clear b1;clear pA0;go_wp2_with fail
    go_ret
    have hF:=zAa (c:=w1) hB Bz;obtain rfl:r=false:=by rw[←hra.out];exact all_no HTI.out HP.out
    exact⟨rfl,zAa (zAa hB Bz) (by go_grown)⟩
   ·have HP:=zh hp;clear hp;have Bz:=Below.refl wr.heap.size wr;have pA0:=(hnd.below (zAa hB Bz)).c0 (u:=.slice x.A x.n x.c) rfl;go_wp2_with fail
    with_reducible refine(right_q (HV.out.1.below (zAa hB (zAa (b:=wr) Bz (by go_grown)))) (fun t ht=>(HV.out.2.1 t ht).below (zAa hB (zAa (b:=wr) Bz (by go_grown)))) hm HV.out.2.2 true HP (zh (Tab.below hT.out (zAa hB (zAa (b:=wr) Bz (by go_grown)))))).mono ?_
    rintro e w1 ⟨rfl,b1⟩;replace b1:=zAa (a:=wr) (by go_grown) b1;replace Bz:=zAa Bz b1;clear b1;clear pA0;go_wp2_with fail
    go_roundg (n-(i+1))
    case measure=>have:=HGK.out;omega
    case rel=>exact⟨i+1,zo,rfl,by go_num,zAa (zAa hB Bz) (by go_grown),take_all HD.out HTI.out HP.out⟩
  ·obtain rfl:i=n:=zo;have i1:¬(i:Int)<(i:Int):=zo;obtain rfl:r=true:=by rw[←hra.out];exact all_yes HLN.out HD.out
   go_wp2_with fail
   go_ret
   exact⟨rfl,hB⟩
def sameC (p:Vc×Vc):Bool:=decide (prs p.1.L=prs p.2.L)
theorem zip_prs:∀{L K:List Vc},L.length=K.length→decide (L.map (fun v=>prs v.L)=K.map fun v=>prs v.L)=(L.zip K).all sameC
 | [],[],_=>rfl
 | [],_ :: _,h=>by cases h
 | _ :: _,[],h=>by cases h
 | x :: L,y :: K,h=>by
  have ih:=zip_prs (L:=L) (K:=K) (by simpa using h);rw[List.zip_cons_cons,List.all_cons,←ih];unfold sameC
  simp only[List.map_cons,List.cons.injEq,Bool.decide_and]
def SV2 (w:World) (Z:List (Vc×Vc)) (n gk:Nat) (s:Value) (wr:World):Prop:=∃i:Nat,i≤n∧n-i=gk∧s=.int .i64 (i:Int)∧Below w.heap.size w wr∧(Z.take i).all sameC=true
theorem sameVecs_q {w:World} {A A':Option Addr} {n n' c c' M M':Nat} {C D:List (List (Int×Rat))} (h:CM w A n c C M) (h':CM w A' n' c' D M') (hC:∀x∈C,x.length≤1000000) (hD:∀x∈D,x.length≤1000000) (hM:M≤40000) (hM':M'≤40000) (hn:n≤1000000000) (hn':n'≤1000000000) (r:Bool) (hr:Hid (decide (C=D)=r)) :
  Calls Tryz.prog 56 #[.slice A n c,.slice A' n' c'] w fun e w'=>e=.returned (.bool r)∧Below w.heap.size w w':=by
 obtain⟨L,x1,x2,rfl⟩:=h;obtain⟨K,y1,y2,rfl⟩:=h';have H:=zh x1;have H':=zh y1;have HLN:=zh x1.1;have HMN:=zh y1.1;have HOX:=zh x2;have HOY:=zh y2;have HCX:=zh hC;have HCY:=zh hD;clear x1 x2 y1 y2 hC hD;by_cases hnn:n=n'
 ·subst hnn;have g0:((n:Int) !=(n:Int))=false:=by simp
  have hra:Hid ((L.zip K).all sameC=r):=zh (by rw[←hr.out,zip_prs (HLN.out.trans HMN.out.symm)]);have HZL:Hid ((L.zip K).length=n):=zh (by rw[List.length_zip,HLN.out,HMN.out];exact Nat.min_self _);have hst:SV2 w (L.zip K) n n (.int .i64 ((0:Nat):Int)) w:=⟨0,Nat.zero_le _,rfl,rfl,Below.refl _ _,by simp⟩;have HST:=zh hst;clear hst hr;go_enter Tryz.func56,Tryz.ntmps56
  go_wp2_with fail
  go_loopg [5] n (fun gk s wr=>SV2 w (L.zip K) n gk s wr)
  case atStart=>exact HST.out
  case round =>
   clear HST;obtain⟨i,hi,hgk,rfl,hB,hd⟩:=hrel;have HGK:=zh hgk;have HD:=zh hd;clear hgk hd;by_cases hlt:i<n
   ·obtain⟨b,off,rfl,hel⟩:=H.out.at Vc.cs_len zo zo;obtain⟨b',off',rfl,hel'⟩:=H'.out.at Vc.cs_len zo zo;obtain⟨x,ex⟩:∃x,L[i]?=some x:=⟨L[i]'(by rw[HLN.out];exact hlt),List.getElem?_eq_getElem _⟩;obtain⟨y,ey⟩:∃y,K[i]?=some y:=⟨K[i]'(by rw[HMN.out];exact hlt),List.getElem?_eq_getElem _⟩;have hnd:ElA w b (off+i) (Vc.cs x):=by have:=hel i x ex;rwa [Nat.mul_one] at this
    have hnd':ElA w b' (off'+i) (Vc.cs y):=by have:=hel' i y ey;rwa [Nat.mul_one] at this
    have HZI:Hid ((L.zip K)[i]?=some (x,y)):=zh (by rw[List.getElem?_zip_eq_some];exact⟨ex,ey⟩);have HVX:=zh (HOX.out x (List.mem_of_getElem? ex));have HVY:=zh (HOY.out y (List.mem_of_getElem? ey));have hxn:x.n≤1000000:=by have h3:=HCX.out _ (List.mem_map_of_mem (f:=fun v:Vc=>prs v.L) (List.mem_of_getElem? ex));have h4:=HVX.out.nv.len;omega
    have hyn:y.n≤1000000:=by have h3:=HCY.out _ (List.mem_map_of_mem (f:=fun v:Vc=>prs v.L) (List.mem_of_getElem? ey));have h4:=HVY.out.nv.len;omega
    have i1:(i:Int)<(n:Int):=zo;have i2:(0:Int)≤(i:Int):=zo;clear ex hel ey hel';cases hp:decide (prs x.L=prs y.L)
    ·have HP:=zh hp;clear hp;have Bz:=Below.refl wr.heap.size wr;have pA0:=(hnd.below (zAa hB Bz)).c0 (u:=.slice x.A x.n x.c) rfl;have pB0:=(hnd'.below (zAa hB Bz)).c0 (u:=.slice y.A y.n y.c) rfl;go_wp2_with fail
     (try simp only[List.append_eq,List.cons_append,List.nil_append])
     refine zAb (.take 0 (.take 1 (.take 2 (.take 3 (.take 4 (.take 5 (.take 6 (.take 7 (.only 8 (.take 9 .done)))))))))) [] (fun w'=>w'.cell? ⟨b,off+i,none⟩=some (.slice x.A x.n x.c)∧w'.cell? ⟨b',off'+i,none⟩=some (.slice y.A y.n y.c)) (by kernel_rfl) (by kernel_rfl) ⟨pA0,pB0⟩ ?_;iterate 8 (refine zT rfl rfl (fun w' ⟨pA0,pB0⟩=>by go_simp<;>with_reducible rfl) ?_;try simp only[uW,uX,uY,uZ])
     refine zC 25 rfl rfl (fun K hK=>?_);go_simp
     with_reducible refine(sameVec_q ((HVX.out.nv).below (zAa hB (zAa (b:=wr) Bz (by go_grown)))) ((HVY.out.nv).below (zAa hB (zAa (b:=wr) Bz (by go_grown)))) hM hM' hxn hyn false HP).mono ?_
     rintro e w1 ⟨rfl,b1⟩;replace b1:=zAa (a:=wr) (by go_grown) b1;replace Bz:=zAa Bz b1;clear b1;clear pA0 pB0;have pA0:=(hnd.below (zAa hB Bz)).c0 (u:=.slice x.A x.n x.c) rfl;have pB0:=(hnd'.below (zAa hB Bz)).c0 (u:=.slice y.A y.n y.c) rfl;refine hK.out _ _ ⟨pA0,pB0⟩ (fun _=>?_);try simp only[uW,uX,uY,uZ]
     clear hK K;refine zT rfl rfl (fun w' ⟨pA0,pB0⟩=>by go_simp<;>with_reducible rfl) ?_;try simp only[uW,uX,uY,uZ]
     refine zAc ?_;go_wp2_with fail
     go_ret
     have hF:=zAa (c:=w1) hB Bz;obtain rfl:r=false:=by rw[←hra.out];exact all_no HZI.out HP.out
     exact⟨rfl,zAa (zAa hB Bz) (by go_grown)⟩
    ·have HP:=zh hp;clear hp;have Bz:=Below.refl wr.heap.size wr;have pA0:=(hnd.below (zAa hB Bz)).c0 (u:=.slice x.A x.n x.c) rfl;have pB0:=(hnd'.below (zAa hB Bz)).c0 (u:=.slice y.A y.n y.c) rfl;go_wp2_with fail
     (try simp only[List.append_eq,List.cons_append,List.nil_append])
     refine zAb (.take 0 (.take 1 (.take 2 (.take 3 (.take 4 (.take 5 (.take 6 (.take 7 (.only 8 (.take 9 .done)))))))))) [] (fun w'=>w'.cell? ⟨b,off+i,none⟩=some (.slice x.A x.n x.c)∧w'.cell? ⟨b',off'+i,none⟩=some (.slice y.A y.n y.c)) (by kernel_rfl) (by kernel_rfl) ⟨pA0,pB0⟩ ?_;iterate 8 (refine zT rfl rfl (fun w' ⟨pA0,pB0⟩=>by go_simp<;>with_reducible rfl) ?_;try simp only[uW,uX,uY,uZ])
     refine zC 25 rfl rfl (fun K hK=>?_);go_simp
     with_reducible refine(sameVec_q ((HVX.out.nv).below (zAa hB (zAa (b:=wr) Bz (by go_grown)))) ((HVY.out.nv).below (zAa hB (zAa (b:=wr) Bz (by go_grown)))) hM hM' hxn hyn true HP).mono ?_
     rintro e w1 ⟨rfl,b1⟩;replace b1:=zAa (a:=wr) (by go_grown) b1;replace Bz:=zAa Bz b1;clear b1;clear pA0 pB0;have pA0:=(hnd.below (zAa hB Bz)).c0 (u:=.slice x.A x.n x.c) rfl;have pB0:=(hnd'.below (zAa hB Bz)).c0 (u:=.slice y.A y.n y.c) rfl;refine hK.out _ _ ⟨pA0,pB0⟩ (fun _=>?_);try simp only[uW,uX,uY,uZ]
     clear hK K;refine zT rfl rfl (fun w' ⟨pA0,pB0⟩=>by go_simp<;>with_reducible rfl) ?_;try simp only[uW,uX,uY,uZ]
     refine zAc ?_;go_wp2_with fail
     go_roundg (n-(i+1))
     case measure=>have:=HGK.out;omega
     case rel=>exact⟨i+1,zo,rfl,by go_num,zAa (zAa hB Bz) (by go_grown),take_all HD.out HZI.out HP.out⟩
   ·obtain rfl:i=n:=zo;have i1:¬(i:Int)<(i:Int):=zo;obtain rfl:r=true:=by rw[←hra.out];exact all_yes HZL.out HD.out
    go_wp2_with fail
    go_ret
    exact⟨rfl,hB⟩
 ·have g0:((n:Int) !=(n':Int))=true:=by simp;omega
  obtain rfl:r=false:=by rw[←hr.out];exact decide_eq_false (fun e=>hnn (by have e2:=congrArg List.length e;rw[List.length_map,List.length_map,HLN.out,HMN.out] at e2;exact e2))
  clear hr;go_enter Tryz.func56,Tryz.ntmps56
  go_wp2_with fail
  go_ret
  exact⟨rfl,Below.refl _ _⟩
open Go.RowKit Tw
theorem sl_litG {α:Type} {f:α→List Value} {k:Nat} {w:World} {b n:Nat} {cs:Array Value} {te:TypeId} {L:List α} (hk:∀x,(f x).length=k) (h:Bx w b cs te) (hcs:cs.toList=flat f L) (hl:L.length=n):Sl f k w (some ⟨b,0,none⟩) n n L:=by
 subst hl;refine⟨rfl,by rw[flat_len hk],_,_,rfl,(fun h=>(by cases h)),fun a ha j u hu=>?_⟩;cases ha;rw[add_off,Nat.zero_add];refine h.cell j u ?_;rw[←hcs] at hu;simpa using hu
theorem i64_all {L:List Int} (h:(L.all fun x=>decide (-9223372036854775808≤x)&&decide (x≤9223372036854775807))=true):∀x∈L,I64 x:=fun x hx=>by
 have h1:=List.all_eq_true.1 h x hx;rw[Bool.and_eq_true,decide_eq_true_eq,decide_eq_true_eq] at h1;exact h1
theorem cn_mk {w:World} {A:Option Addr} {n c M:Nat} {L:List Tm} (h1:Sl Tm.cs 5 w A n c L) (h2:OnT w L (fun _=>M)) (h3:A=none→c=0):CN w ⟨A,n,c,L⟩ M:=⟨h1,h2,h3⟩
theorem cns_nil (w:World) (M:Nat):∀u∈([]:List Vc),CN w u M:=fun u hu=>by cases hu
theorem cns_cons {w:World} {v:Vc} {CL:List Vc} {M:Nat} (h:CN w v M) (hs:∀u∈CL,CN w u M):∀u∈v :: CL,CN w u M:=fun u hu=>by
 rcases List.mem_cons.1 hu with rfl | hu
 ·exact h
 ·exact hs u hu
theorem cm_lit {w:World} {b n M:Nat} {cs:Array Value} {te:TypeId} (CL:List Vc) (h:Bx w b cs te) (hcs:cs.toList=flat Vc.cs CL) (hl:CL.length=n) (hs:∀u∈CL,CN w u M) (C:List (List (Int×Rat))) (hC:CL.map (fun v=>prs v.L)=C):CM w (some ⟨b,0,none⟩) n n C M:=⟨CL,sl_litG Vc.cs_len h hcs hl,hs,hC⟩
theorem wtot_on {w:World} {L:List Tm} {M n:Nat} (h:OnT w L (fun _=>M)) (hn:L.length*M=n):wtot (prs L)≤n:=by
 have h1:=wtot_le (m:=M) (L:=prs L) fun x hx=>by
  obtain⟨t,ht,rfl⟩:=prs_mem hx;exact(h t ht).2.2
 rwa [prs_len,hn] at h1
theorem wtot_lit {w:World} {M n:Nat} (L:List Tm) (P:List (Int×Rat)) (hp:prs L=P) (h:OnT w L (fun _=>M)) (hn:L.length*M=n):wtot P≤n:=by rw[←hp];exact wtot_on h hn
theorem CM.dg {w:World} {A:Option Addr} {n c M k m:Nat} {C:List (List (Int×Rat))} (h:CM w A n c C M) (hk:(∀x∈C,x.length≤k)∧k*M=m):∀x∈C,x.length≤k∧wtot x≤m:=fun x hx=>by
 obtain⟨CL,h1,h2,rfl⟩:=h;refine⟨hk.1 x hx,?_⟩;obtain⟨v,hv,rfl⟩:=List.mem_map.1 hx;refine Nat.le_trans (wtot_on (h2 v hv).2.1 rfl) ?_;have h3:=hk.1 _ hx;rw[prs_len] at h3;rw[←hk.2];exact Nat.mul_le_mul_right _ h3
theorem CW.dotK {w:World} {A:Option Addr} {n c M WT N K:Nat} {C:List (List (Int×Rat))} {P:List (Int×Rat)} (h:CW w A n c C M) (hW:wtot P≤WT) (hN:P.length≤N) (hK:1+WT+N*(M+1)≤K):∀x∈C,sz (pdot (nrm P) x)≤K:=fun x hx=>by
 obtain⟨CL,h1,h2,rfl⟩:=h;obtain⟨v,hv,rfl⟩:=List.mem_map.1 hx;have h3:=pdot_tot (K:=M+1) (h2 v hv).getsz (nrm P);have h4:=wtot_nrm P;have h5:=Nat.mul_le_mul_right (M+1) (Nat.le_trans (nrm_len P) hN);omega
theorem turn_err {w:World} {A:Option Addr} {n c:Nat} (k:Int) (hk:k<0∨65536<k):Calls Tryz.prog 50 #[.slice A n c,.int .i64 k] w fun e w'=>e=.returned (.tuple #[.slice none 0 0,.int .i64 2])∧Below w.heap.size w w' :=
 (turn_no k hk).mono fun e w' h=>⟨h.1,by rw[←h.2];exact Below.refl _ _⟩
theorem turnC {w:World} {A:Option Addr} {n c m M:Nat} {C:List (List (Int×Rat))} (h:CW w A n c C M) (hC:∀x∈C,x.length≤1000) (hM:M≤18000) (hn:n≤1000000) (hm:m≤65536) (z:Int) (hz:z=(m:Int)) (hT:Hid (Tab w)) :
  Calls Tryz.prog 50 #[.slice A n c,.int .i64 z] w fun e w'=>∃g,e=.returned (.tuple #[.slice (some ⟨g,0,none⟩) m m,.int .i64 0])∧CM w' (some ⟨g,0,none⟩) m m (turnT C m) M∧Below w.heap.size w w':=by
 obtain⟨CL,h1,h2,rfl⟩:=h;subst hz;refine(turnV_q h1 (zh fun v hv=>⟨h2 v hv,?_⟩) hM hn hm hT).mono fun e w' k=>?_
 ·have h3:=hC _ (List.mem_map_of_mem (f:=fun v:Vc=>prs v.L) hv);have h4:=(h2 v hv).len;omega
 ·obtain⟨g,V,rfl,k1,k2,k3,k4⟩:=k;exact⟨g,rfl,⟨V,k1,k2,k3⟩,k4⟩
theorem inverseW {w:World} {A:Option Addr} {n c:Nat} {L:List Int} (h:Sl ics 1 w A n c L) (hw:Hid (∀x∈L,I64 x)) (hn:n≤1000000) (hp:permL L=true) :
  Calls Tryz.prog 52 #[.slice A n c] w fun e w'=>∃A' c',e=.returned (.tuple #[.slice A' n c',.int .i64 0])∧Sl ics 1 w' A' n c' (invL L)∧Below w.heap.size w w':=by
 have hl:=h.1;refine(inverse_q h hw hn).mono fun e w' k=>?_;rw[if_pos hp] at k;obtain⟨A',n',c',rfl,k1,_,k3⟩:=k;have h3:=k1.1;rw[show(invL L).length=L.length from invK_len L _] at h3;obtain rfl:n'=n:=zo;exact⟨A',c',rfl,k1,k3⟩
theorem moveW {w:World} {A X:Option Addr} {n c nx cx M N:Nat} {L:List Int} {P:List (Int×Rat)} (h:Sl ics 1 w A n c L) (hw:Hid (∀x∈L,I64 x)) (hn:n≤1000000) (hp:permL L=true) (hx:GV w X nx cx P M) (hok:okM n (nrm P)=true) (hM:M≤18000) (hnx:nx≤N∧N≤1000000) (hT:Hid (Tab w)) :
  Calls Tryz.prog 54 #[.slice A n c,.slice X nx cx] w fun e w'=>∃A' n' c',e=.returned (.tuple #[.slice A' n' c',.int .i64 0])∧NV w' A' n' c' (nrm (movF L (nrm P))) (M+1)∧n'≤N∧Below w.heap.size w w':=by
 have hl:=hx.len;refine(move_yes h hw hn hp hx hM zo hT).mono fun e w' k=>?_;unfold TellsMv at k
 rw[if_pos hok] at k;obtain⟨A',n',c',rfl,k1,k2⟩:=k;refine⟨A',n',c',rfl,k1,?_,k2⟩;have h1:=k1.len;have h2:=nrm_len (movF L (nrm P));have h3:=nrm_len P;have h4:(movF L (nrm P)).length=(nrm P).length:=List.length_map _;omega
def TellsT6 (w:World) (at_:Int) (q:Rat) (e:Ending) (w':World):Prop:=∃s A c l s' A' c' l',e=.returned (.agg #[.int .i64 at_,.bool s,.slice A l c,.bool s',.slice A' l' c'])∧RN w' s A c l s' A' c' l' q∧Below w.heap.size w w'
theorem term6_q {w:World} (at_ n:Int) (hn:Hid (-9223372036854775808≤n∧n≤9223372036854775807)) (hT:Hid (Tab w)) :
  Calls Tryz.prog 108 #[.int .i64 at_,.int .i64 n] w (TellsT6 w at_ (qof n 1)):=by
 obtain⟨W,hW,x0,hB⟩:=zAf w #[.int .i64 0,.bool false,.slice none 0 0,.bool false,.slice none 0 0] 114;have HX0:=zh x0;clear x0;have Bz:=Below.refl W.heap.size W;go_enter Tryz.func108,Tryz.ntmps108
 go_wp2_with fail
 rw[←hW];clear hW;go_wp2_with fail
 with_reducible refine(of_q n 1 hn (zh zo) (zh (Tab.below hT.out (zAa hB (zAa (b:=W) Bz (by go_grown)))))).mono ?_
 rintro e w1 ⟨s1,A1,c1,l1,s1r,A1r,c1r,l1r,rfl,h1,b1⟩;replace b1:=zAa (a:=W) (by go_grown) b1;replace Bz:=zAa Bz b1;clear b1;obtain⟨pa0,pa1,pa2,pa3,pa4,-⟩:=(zxb HX0 Bz).cz;have fa0:=(zxb HX0 Bz).frozen 0;have fa1:=(zxb HX0 Bz).frozen 1;have fa2:=(zxb HX0 Bz).frozen 2;have fa3:=(zxb HX0 Bz).frozen 3;have fa4:=(zxb HX0 Bz).frozen 4;have y0:=(zxb HX0 Bz).lt;go_wp2_with fail
 (try simp only[Exit.inBlock,Exit.then])
 refine bodyPost_ret (by simp[results,Tryz.results108,go_sem,pa0,pa1,pa2,pa3,pa4];try rfl) rfl ?_;obtain⟨V1,hW,x,kk,far,bel⟩:=store5 (.int .i64 at_) (.bool s1) (.slice A1 l1 c1) (.bool s1r) (.slice A1r l1r c1r) (zxb HX0 Bz) nofun nofun nofun nofun nofun;rw[←hW];clear hW;replace h1:=h1.k kk;replace hB:=bel w.heap.size w zo (zAa hB Bz);replace HX0:=zh x;clear x kk far bel Bz;have Bz:=Below.refl V1.heap.size V1;have hF:=zAa (c:=V1) hB Bz;exact⟨_,_,_,_,_,_,_,_,rfl,RN.below h1 (by go_grown),zAa hF (by go_grown)⟩
abbrev colsP:List (List (Int×Rat)):=[[(0,qof (1) 1),(1,qof (2) 1)],[(1,qof (3) 1)]]
theorem colsP_rise:∀x∈colsP,Rise x:=fun x hx=>by
 have h:(colsP.all fun c=>decide (c.Pairwise fun x y=>x.1<y.1))=true:=by decide +kernel
 exact(of_decide_eq_true (List.all_eq_true.1 h x hx):x.Pairwise fun x y=>x.1<y.1)
theorem cols_q {w:World} (hT:Hid (Tab w)):Calls Tryz.prog 107 #[] w fun e w'=>∃A c,e=.returned (.slice A 2 c)∧CM w' A 2 c colsP 2∧Below w.heap.size w w':=by
 have hB:=Below.refl w.heap.size w;have Bz:=Below.refl w.heap.size w;go_enter Tryz.func107,Tryz.ntmps107
 go_wp2_with fail
 with_reducible refine(term6_q (0) (1) (zh zo) (zh (Tab.below hT.out (zAa hB (zAa (b:=w) Bz (by go_grown)))))).mono ?_
 rintro e w1 ⟨s1,A1,c1,l1,s1r,A1r,c1r,l1r,rfl,h1,b1⟩;replace b1:=zAa (a:=w) (by go_grown) b1;replace Bz:=zAa Bz b1;clear b1;go_wp2_with fail
 with_reducible refine(term6_q (1) (2) (zh zo) (zh (Tab.below hT.out (zAa hB (zAa (b:=w1) Bz (by go_grown)))))).mono ?_
 rintro e w2 ⟨s2,A2,c2,l2,s2r,A2r,c2r,l2r,rfl,h2,b2⟩;replace b2:=zAa (a:=w1) (by go_grown) b2;replace h1:=h1.below b2;replace Bz:=zAa Bz b2;clear b2;go_wp2_with fail
 obtain⟨V1,hW,x0,hN⟩:=zAf w2 #[.int .i64 0,.bool s1,.slice A1 l1 c1,.bool s1r,.slice A1r l1r c1r,.int .i64 1,.bool s2,.slice A2 l2 c2,.bool s2r,.slice A2r l2r c2r] 114;rw[←hW];clear hW;obtain⟨v0,hb0⟩:∃b,b=w2.heap.size:=⟨_,rfl⟩;rw[←hb0] at x0 ⊢;have ow_0:w.heap.size≤v0:=zia (zw hB Bz);replace h1:=h1.below hN;replace h2:=h2.below hN;replace hB:=zAa (zAa hB Bz) hN;have HX0:=zh x0;clear x0 hN Bz hb0;have Bz:=Below.refl V1.heap.size V1;with_reducible refine(term6_q (1) (3) (zh zo) (zh (Tab.below hT.out (zAa hB (zAa (b:=V1) Bz (by go_grown)))))).mono ?_
 rintro e w3 ⟨s3,A3,c3,l3,s3r,A3r,c3r,l3r,rfl,h3,b3⟩;replace b3:=zAa (a:=V1) (by go_grown) b3;replace h1:=h1.below b3;replace h2:=h2.below b3;replace Bz:=zAa Bz b3;clear b3;go_wp2_with fail
 obtain⟨V2,hW,x1,hN⟩:=zAf w3 #[.int .i64 1,.bool s3,.slice A3 l3 c3,.bool s3r,.slice A3r l3r c3r] 114;have hs1:V2.heap.size=w3.heap.size+1:=by rw[hW];simp
 rw[←hW];clear hW;obtain⟨v1,hb1⟩:∃b,b=w3.heap.size:=⟨_,rfl⟩;rw[←hb1] at x1 hs1 ⊢;have o0_1:v0<v1:=zia (zxb HX0 Bz).lt;have ow_1:w.heap.size≤v1:=zia (zw hB Bz);replace h1:=h1.below hN;replace h2:=h2.below hN;replace h3:=h3.below hN;replace hB:=zAa (zAa hB Bz) hN;replace HX0:=zh ((zxb HX0 Bz).below hN);have HX1:=zh x1;clear x1 hN Bz hb1;have Bz:=Below.refl V2.heap.size V2;obtain⟨V3,hW,x2,hN⟩:=zAf V2 #[.slice (some ⟨v0,0,none⟩) 2 2,.slice (some ⟨v1,0,none⟩) 1 1] 55;have hs2:V3.heap.size=V2.heap.size+1:=by rw[hW];simp
 rw[←hW];clear hW;rw[hs1] at x2 hs2;obtain⟨v2,hb2⟩:∃b,b=v1+1:=⟨_,rfl⟩;rw[←hb2] at x2 hs2  ⊢;have o0_2:v0<v2:=zia (zxb HX0 Bz).lt;have o1_2:v1<v2:=zia (zxb HX1 Bz).lt;have ow_2:w.heap.size≤v2:=zia (zw hB Bz);replace h1:=h1.below hN;replace h2:=h2.below hN;replace h3:=h3.below hN;replace hB:=zAa (zAa hB Bz) hN;replace HX0:=zh ((zxb HX0 Bz).below hN);replace HX1:=zh ((zxb HX1 Bz).below hN);have HX2:=zh x2;clear x2 hN Bz hb2;have Bz:=Below.refl V3.heap.size V3;clear hs1;go_ret
 have hF:=zAa (c:=V3) hB Bz;exact⟨_,_,rfl,(cm_lit (n:=2) (M:=2) [⟨some ⟨v0,0,none⟩,2,2,[⟨0,⟨s1,A1,c1,l1,s1r,A1r,c1r,l1r,qof (1) 1,true⟩⟩,⟨1,⟨s2,A2,c2,l2,s2r,A2r,c2r,l2r,qof (2) 1,true⟩⟩]⟩,⟨some ⟨v1,0,none⟩,1,1,[⟨1,⟨s3,A3,c3,l3,s3r,A3r,c3r,l3r,qof (3) 1,true⟩⟩]⟩] (HX2.out.below (zAa Bz (by go_grown))) rfl rfl (cns_cons (v:=⟨some ⟨v0,0,none⟩,2,2,[⟨0,⟨s1,A1,c1,l1,s1r,A1r,c1r,l1r,qof (1) 1,true⟩⟩,⟨1,⟨s2,A2,c2,l2,s2r,A2r,c2r,l2r,qof (2) 1,true⟩⟩]⟩) (cn_mk (sl_lit (HX0.out.below (zAa Bz (by go_grown))) rfl rfl) (OnT.c 0 (RN.below h1 (by go_grown)) (sz_one zd zd zd) (OnT.c 1 (RN.below h2 (by go_grown)) (sz_one zd zd zd) (OnT.nil _ _))) (fun h=>(by cases h))) (cns_cons (v:=⟨some ⟨v1,0,none⟩,1,1,[⟨1,⟨s3,A3,c3,l3,s3r,A3r,c3r,l3r,qof (3) 1,true⟩⟩]⟩) (cn_mk (sl_lit (HX1.out.below (zAa Bz (by go_grown))) rfl rfl) (OnT.c 1 (RN.below h3 (by go_grown)) (sz_one zd zd zd) (OnT.nil _ _)) (fun h=>(by cases h))) (cns_nil _ _))) [[(0,qof (1) 1),(1,qof (2) 1)],[(1,qof (3) 1)]] rfl),zAa hF (by go_grown)⟩
theorem awake6_q {w:World} (hT:Hid (Tab w)):Calls Tryz.prog 47 #[] w fun e w'=>e=.returned (.bool true)∧Below w.heap.size w w':=by
 have hB:=Below.refl w.heap.size w;have Bz:=Below.refl w.heap.size w;go_enter Tryz.func47,Tryz.ntmps47
 go_wp2_with fail
 with_reducible refine(cols_q (zh (Tab.below hT.out (zAa hB (zAa (b:=w) Bz (by go_grown)))))).mono ?_
 rintro e w1 ⟨A1,c1,rfl,h1,b1⟩;replace b1:=zAa (a:=w) (by go_grown) b1;replace Bz:=zAa Bz b1;clear b1;go_wp2_with fail
 with_reducible refine(term6_q (0) (1) (zh zo) (zh (Tab.below hT.out (zAa hB (zAa (b:=w1) Bz (by go_grown)))))).mono ?_
 rintro e w2 ⟨s2,A2,c2,l2,s2r,A2r,c2r,l2r,rfl,h2,b2⟩;replace b2:=zAa (a:=w1) (by go_grown) b2;replace h1:=h1.below b2;replace Bz:=zAa Bz b2;clear b2;go_wp2_with fail
 with_reducible refine(term6_q (1) (1) (zh zo) (zh (Tab.below hT.out (zAa hB (zAa (b:=w2) Bz (by go_grown)))))).mono ?_
 rintro e w3 ⟨s3,A3,c3,l3,s3r,A3r,c3r,l3r,rfl,h3,b3⟩;replace b3:=zAa (a:=w2) (by go_grown) b3;replace h1:=h1.below b3;replace h2:=h2.below b3;replace Bz:=zAa Bz b3;clear b3;go_wp2_with fail
 obtain⟨V1,hW,x0,hN⟩:=zAf w3 #[.int .i64 0,.bool s2,.slice A2 l2 c2,.bool s2r,.slice A2r l2r c2r,.int .i64 1,.bool s3,.slice A3 l3 c3,.bool s3r,.slice A3r l3r c3r] 114;rw[←hW];clear hW;obtain⟨v0,hb0⟩:∃b,b=w3.heap.size:=⟨_,rfl⟩;rw[←hb0] at x0 ⊢;have ow_0:w.heap.size≤v0:=zia (zw hB Bz);replace h1:=h1.below hN;replace h2:=h2.below hN;replace h3:=h3.below hN;replace hB:=zAa (zAa hB Bz) hN;have HX0:=zh x0;clear x0 hN Bz hb0;have Bz:=Below.refl V1.heap.size V1;with_reducible refine(timesW 6 3 2 4 2 4 16 4 (CM.cw (CM.below h1 (by go_grown)) colsP_rise) (gv_lit (n:=2) [⟨0,⟨s2,A2,c2,l2,s2r,A2r,c2r,l2r,qof (1) 1,true⟩⟩,⟨1,⟨s3,A3,c3,l3,s3r,A3r,c3r,l3r,qof (1) 1,true⟩⟩] [(0,qof (1) 1),(1,qof (1) 1)] rfl (HX0.out.below (zAa Bz (by go_grown))) rfl rfl (OnT.c 0 (RN.below h2 (by go_grown)) (sz_one zd zd zd) (OnT.c 1 (RN.below h3 (by go_grown)) (sz_one zd zd zd) (OnT.nil _ _)))) (CM.dg (CM.below h1 (by go_grown)) zd) zd (wtot_lit (n:=4) [⟨0,⟨s2,A2,c2,l2,s2r,A2r,c2r,l2r,qof (1) 1,true⟩⟩,⟨1,⟨s3,A3,c3,l3,s3r,A3r,c3r,l3r,qof (1) 1,true⟩⟩] [(0,qof (1) 1),(1,qof (1) 1)] rfl (OnT.c 0 (RN.below h2 (by go_grown)) (sz_one zd zd zd) (OnT.c 1 (RN.below h3 (by go_grown)) (sz_one zd zd zd) (OnT.nil _ _))) rfl) zd zd zd zd zd zd zd zd (zh (Tab.below hT.out (zAa hB (zAa (b:=V1) Bz (by go_grown)))))).mono ?_
 rintro e w4 ⟨A4,n4,c4,rfl,h4,l4,b4⟩;replace b4:=zAa (a:=V1) (by go_grown) b4;replace Bz:=zAa Bz b4;clear b4;go_wp2_with fail
 with_reducible refine(term6_q (1) (1) (zh zo) (zh (Tab.below hT.out (zAa hB (zAa (b:=w4) Bz (by go_grown)))))).mono ?_
 rintro e w5 ⟨s5,A5,c5,l5,s5r,A5r,c5r,l5r,rfl,h5,b5⟩;replace b5:=zAa (a:=w4) (by go_grown) b5;replace h4:=h4.below b5;replace Bz:=zAa Bz b5;clear b5;go_wp2_with fail
 obtain⟨V2,hW,x1,hN⟩:=zAf w5 #[.int .i64 1,.bool s5,.slice A5 l5 c5,.bool s5r,.slice A5r l5r c5r] 114;rw[←hW];clear hW;obtain⟨v1,hb1⟩:∃b,b=w5.heap.size:=⟨_,rfl⟩;rw[←hb1] at x1 ⊢;have o0_1:v0<v1:=zia (zxb HX0 Bz).lt;have ow_1:w.heap.size≤v1:=zia (zw hB Bz);replace h5:=h5.below hN;replace h4:=h4.below hN;replace hB:=zAa (zAa hB Bz) hN;replace HX0:=zh ((zxb HX0 Bz).below hN);have HX1:=zh x1;clear x1 hN Bz hb1;have Bz:=Below.refl V2.heap.size V2;with_reducible refine(cols_q (zh (Tab.below hT.out (zAa hB (zAa (b:=V2) Bz (by go_grown)))))).mono ?_
 rintro e w6 ⟨A6,c6,rfl,h6,b6⟩;replace b6:=zAa (a:=V2) (by go_grown) b6;replace h5:=h5.below b6;replace h4:=h4.below b6;replace Bz:=zAa Bz b6;clear b6;go_wp2_with fail
 with_reducible refine(leftC 3 3 1 7 2 (gv_lit (n:=1) [⟨1,⟨s5,A5,c5,l5,s5r,A5r,c5r,l5r,qof (1) 1,true⟩⟩] [(1,qof (1) 1)] rfl (HX1.out.below (zAa Bz (by go_grown))) rfl rfl (OnT.c 1 (RN.below h5 (by go_grown)) (sz_one zd zd zd) (OnT.nil _ _))) (CM.cw (CM.below h6 (by go_grown)) colsP_rise) zd zd zd zd (CW.dotK (WT:=2) (N:=1) (CM.cw (CM.below h6 (by go_grown)) colsP_rise) (wtot_lit (n:=2) [⟨1,⟨s5,A5,c5,l5,s5r,A5r,c5r,l5r,qof (1) 1,true⟩⟩] [(1,qof (1) 1)] rfl (OnT.c 1 (RN.below h5 (by go_grown)) (sz_one zd zd zd) (OnT.nil _ _)) rfl) zd zd) zd zd zd zd zd zd (zh (Tab.below hT.out (zAa hB (zAa (b:=w6) Bz (by go_grown)))))).mono ?_
 rintro e w7 ⟨A7,n7,c7,rfl,h7,l7,b7⟩;replace b7:=zAa (a:=w6) (by go_grown) b7;replace h4:=h4.below b7;replace Bz:=zAa Bz b7;clear b7;go_wp2_with fail
 with_reducible refine(cols_q (zh (Tab.below hT.out (zAa hB (zAa (b:=w7) Bz (by go_grown)))))).mono ?_
 rintro e w8 ⟨A8,c8,rfl,h8,b8⟩;replace b8:=zAa (a:=w7) (by go_grown) b8;replace h4:=h4.below b8;replace h7:=h7.below b8;replace Bz:=zAa Bz b8;clear b8;go_wp2_with fail
 with_reducible refine(turnC (m:=2) (CM.cw (CM.below h8 (by go_grown)) colsP_rise) zd zd zd zd 2 rfl (zh (Tab.below hT.out (zAa hB (zAa (b:=w8) Bz (by go_grown)))))).mono ?_
 rintro e w9 ⟨g9,rfl,h9,b9⟩;replace b9:=zAa (a:=w8) (by go_grown) b9;replace h4:=h4.below b9;replace h7:=h7.below b9;replace Bz:=zAa Bz b9;clear b9;go_wp2_with fail
 obtain⟨V3,hW,x2,hN⟩:=zAf w9 #[.int .i64 2,.int .i64 0,.int .i64 1] 3;rw[←hW];clear hW;obtain⟨v2,hb2⟩:∃b,b=w9.heap.size:=⟨_,rfl⟩;rw[←hb2] at x2 ⊢;have o0_2:v0<v2:=zia (zxb HX0 Bz).lt;have o1_2:v1<v2:=zia (zxb HX1 Bz).lt;have ow_2:w.heap.size≤v2:=zia (zw hB Bz);replace h9:=h9.below hN;replace h4:=h4.below hN;replace h7:=h7.below hN;replace hB:=zAa (zAa hB Bz) hN;replace HX0:=zh ((zxb HX0 Bz).below hN);replace HX1:=zh ((zxb HX1 Bz).below hN);have HX2:=zh x2;clear x2 hN Bz hb2;have Bz:=Below.refl V3.heap.size V3;with_reducible refine(inverseW (sl_litG (L:=[2,0,1]) (n:=3) ics_len (HX2.out.below (zAa Bz (by go_grown))) rfl rfl) (zh (i64_all zd)) zd zd).mono ?_
 rintro e w10 ⟨A10,c10,rfl,h10,b10⟩;replace b10:=zAa (a:=V3) (by go_grown) b10;replace h9:=h9.below b10;replace h4:=h4.below b10;replace h7:=h7.below b10;replace Bz:=zAa Bz b10;clear b10;go_wp2_with fail
 obtain⟨V4,hW,x3,hN⟩:=zAf w10 #[.int .i64 2,.int .i64 0,.int .i64 1] 3;rw[←hW];clear hW;obtain⟨v3,hb3⟩:∃b,b=w10.heap.size:=⟨_,rfl⟩;rw[←hb3] at x3 ⊢;have o0_3:v0<v3:=zia (zxb HX0 Bz).lt;have o1_3:v1<v3:=zia (zxb HX1 Bz).lt;have o2_3:v2<v3:=zia (zxb HX2 Bz).lt;have ow_3:w.heap.size≤v3:=zia (zw hB Bz);replace h9:=h9.below hN;replace h10:=h10.below hN;replace h4:=h4.below hN;replace h7:=h7.below hN;replace hB:=zAa (zAa hB Bz) hN;replace HX0:=zh ((zxb HX0 Bz).below hN);replace HX1:=zh ((zxb HX1 Bz).below hN);replace HX2:=zh ((zxb HX2 Bz).below hN);have HX3:=zh x3;clear x3 hN Bz hb3;have Bz:=Below.refl V4.heap.size V4;with_reducible refine(term6_q (0) (5) (zh zo) (zh (Tab.below hT.out (zAa hB (zAa (b:=V4) Bz (by go_grown)))))).mono ?_
 rintro e w11 ⟨s11,A11,c11,l11,s11r,A11r,c11r,l11r,rfl,h11,b11⟩;replace b11:=zAa (a:=V4) (by go_grown) b11;replace h9:=h9.below b11;replace h10:=h10.below b11;replace h4:=h4.below b11;replace h7:=h7.below b11;replace Bz:=zAa Bz b11;clear b11;go_wp2_with fail
 obtain⟨V5,hW,x4,hN⟩:=zAf w11 #[.int .i64 0,.bool s11,.slice A11 l11 c11,.bool s11r,.slice A11r l11r c11r] 114;rw[←hW];clear hW;obtain⟨v4,hb4⟩:∃b,b=w11.heap.size:=⟨_,rfl⟩;rw[←hb4] at x4 ⊢;have o0_4:v0<v4:=zia (zxb HX0 Bz).lt;have o1_4:v1<v4:=zia (zxb HX1 Bz).lt;have o2_4:v2<v4:=zia (zxb HX2 Bz).lt;have o3_4:v3<v4:=zia (zxb HX3 Bz).lt;have ow_4:w.heap.size≤v4:=zia (zw hB Bz);replace h9:=h9.below hN;replace h10:=h10.below hN;replace h11:=h11.below hN;replace h4:=h4.below hN;replace h7:=h7.below hN;replace hB:=zAa (zAa hB Bz) hN;replace HX0:=zh ((zxb HX0 Bz).below hN);replace HX1:=zh ((zxb HX1 Bz).below hN);replace HX2:=zh ((zxb HX2 Bz).below hN);replace HX3:=zh ((zxb HX3 Bz).below hN);have HX4:=zh x4;clear x4 hN Bz hb4;have Bz:=Below.refl V5.heap.size V5;with_reducible refine(moveW (N:=1) (sl_litG (L:=[2,0,1]) (n:=3) ics_len (HX3.out.below (zAa Bz (by go_grown))) rfl rfl) (zh (i64_all zd)) zd zd (gv_lit (n:=1) [⟨0,⟨s11,A11,c11,l11,s11r,A11r,c11r,l11r,qof (5) 1,true⟩⟩] [(0,qof (5) 1)] rfl (HX4.out.below (zAa Bz (by go_grown))) rfl rfl (OnT.c 0 (RN.below h11 (by go_grown)) (sz_one zd zd zd) (OnT.nil _ _))) (by decide +kernel) zd zd (zh (Tab.below hT.out (zAa hB (zAa (b:=V5) Bz (by go_grown)))))).mono ?_
 rintro e w12 ⟨A12,n12,c12,rfl,h12,l12,b12⟩;replace b12:=zAa (a:=V5) (by go_grown) b12;replace h9:=h9.below b12;replace h10:=h10.below b12;replace h4:=h4.below b12;replace h7:=h7.below b12;replace Bz:=zAa Bz b12;clear b12;go_wp2_with fail
 with_reducible refine(term6_q (0) (1) (zh zo) (zh (Tab.below hT.out (zAa hB (zAa (b:=w12) Bz (by go_grown)))))).mono ?_
 rintro e w13 ⟨s13,A13,c13,l13,s13r,A13r,c13r,l13r,rfl,h13,b13⟩;replace b13:=zAa (a:=w12) (by go_grown) b13;replace h9:=h9.below b13;replace h10:=h10.below b13;replace h12:=h12.below b13;replace h4:=h4.below b13;replace h7:=h7.below b13;replace Bz:=zAa Bz b13;clear b13;go_wp2_with fail
 with_reducible refine(term6_q (1) (5) (zh zo) (zh (Tab.below hT.out (zAa hB (zAa (b:=w13) Bz (by go_grown)))))).mono ?_
 rintro e w14 ⟨s14,A14,c14,l14,s14r,A14r,c14r,l14r,rfl,h14,b14⟩;replace b14:=zAa (a:=w13) (by go_grown) b14;replace h9:=h9.below b14;replace h10:=h10.below b14;replace h13:=h13.below b14;replace h12:=h12.below b14;replace h4:=h4.below b14;replace h7:=h7.below b14;replace Bz:=zAa Bz b14;clear b14;go_wp2_with fail
 obtain⟨V6,hW,x5,hN⟩:=zAf w14 #[.int .i64 0,.bool s13,.slice A13 l13 c13,.bool s13r,.slice A13r l13r c13r,.int .i64 1,.bool s14,.slice A14 l14 c14,.bool s14r,.slice A14r l14r c14r] 114;rw[←hW];clear hW;obtain⟨v5,hb5⟩:∃b,b=w14.heap.size:=⟨_,rfl⟩;rw[←hb5] at x5 ⊢;have o0_5:v0<v5:=zia (zxb HX0 Bz).lt;have o1_5:v1<v5:=zia (zxb HX1 Bz).lt;have o2_5:v2<v5:=zia (zxb HX2 Bz).lt;have o3_5:v3<v5:=zia (zxb HX3 Bz).lt;have o4_5:v4<v5:=zia (zxb HX4 Bz).lt;have ow_5:w.heap.size≤v5:=zia (zw hB Bz);replace h9:=h9.below hN;replace h10:=h10.below hN;replace h13:=h13.below hN;replace h14:=h14.below hN;replace h12:=h12.below hN;replace h4:=h4.below hN;replace h7:=h7.below hN;replace hB:=zAa (zAa hB Bz) hN;replace HX0:=zh ((zxb HX0 Bz).below hN);replace HX1:=zh ((zxb HX1 Bz).below hN);replace HX2:=zh ((zxb HX2 Bz).below hN);replace HX3:=zh ((zxb HX3 Bz).below hN);replace HX4:=zh ((zxb HX4 Bz).below hN);have HX5:=zh x5;clear x5 hN Bz hb5;have Bz:=Below.refl V6.heap.size V6;with_reducible refine(sameVec_q (P:=nrm (timesP colsP (nrm [(0,qof (1) 1),(1,qof (1) 1)]))) (Q:=[(0,qof (1) 1),(1,qof (5) 1)]) (NV.below h4 (by go_grown)) (nv_lit (n:=2) [⟨0,⟨s13,A13,c13,l13,s13r,A13r,c13r,l13r,qof (1) 1,true⟩⟩,⟨1,⟨s14,A14,c14,l14,s14r,A14r,c14r,l14r,qof (5) 1,true⟩⟩] [(0,qof (1) 1),(1,qof (5) 1)] rfl (HX5.out.below (zAa Bz (by go_grown))) rfl rfl (OnT.c 0 (RN.below h13 (by go_grown)) (sz_one zd zd zd) (OnT.c 1 (RN.below h14 (by go_grown)) (sz_one zd zd zd) (OnT.nil _ _)))) zd zd zo zo true (zh (by decide +kernel))).mono ?_
 rintro e w15 ⟨rfl,b15⟩;replace b15:=zAa (a:=V6) (by go_grown) b15;replace h9:=h9.below b15;replace h10:=h10.below b15;replace h12:=h12.below b15;replace h7:=h7.below b15;replace Bz:=zAa Bz b15;clear b15;go_wp2_with fail
 with_reducible refine(term6_q (0) (2) (zh zo) (zh (Tab.below hT.out (zAa hB (zAa (b:=w15) Bz (by go_grown)))))).mono ?_
 rintro e w16 ⟨s16,A16,c16,l16,s16r,A16r,c16r,l16r,rfl,h16,b16⟩;replace b16:=zAa (a:=w15) (by go_grown) b16;replace h9:=h9.below b16;replace h10:=h10.below b16;replace h12:=h12.below b16;replace h7:=h7.below b16;replace Bz:=zAa Bz b16;clear b16;go_wp2_with fail
 with_reducible refine(term6_q (1) (3) (zh zo) (zh (Tab.below hT.out (zAa hB (zAa (b:=w16) Bz (by go_grown)))))).mono ?_
 rintro e w17 ⟨s17,A17,c17,l17,s17r,A17r,c17r,l17r,rfl,h17,b17⟩;replace b17:=zAa (a:=w16) (by go_grown) b17;replace h9:=h9.below b17;replace h10:=h10.below b17;replace h16:=h16.below b17;replace h12:=h12.below b17;replace h7:=h7.below b17;replace Bz:=zAa Bz b17;clear b17;go_wp2_with fail
 obtain⟨V7,hW,x6,hN⟩:=zAf w17 #[.int .i64 0,.bool s16,.slice A16 l16 c16,.bool s16r,.slice A16r l16r c16r,.int .i64 1,.bool s17,.slice A17 l17 c17,.bool s17r,.slice A17r l17r c17r] 114;rw[←hW];clear hW;obtain⟨v6,hb6⟩:∃b,b=w17.heap.size:=⟨_,rfl⟩;rw[←hb6] at x6 ⊢;have o0_6:v0<v6:=zia (zxb HX0 Bz).lt;have o1_6:v1<v6:=zia (zxb HX1 Bz).lt;have o2_6:v2<v6:=zia (zxb HX2 Bz).lt;have o3_6:v3<v6:=zia (zxb HX3 Bz).lt;have o4_6:v4<v6:=zia (zxb HX4 Bz).lt;have o5_6:v5<v6:=zia (zxb HX5 Bz).lt;have ow_6:w.heap.size≤v6:=zia (zw hB Bz);replace h9:=h9.below hN;replace h10:=h10.below hN;replace h16:=h16.below hN;replace h17:=h17.below hN;replace h12:=h12.below hN;replace h7:=h7.below hN;replace hB:=zAa (zAa hB Bz) hN;replace HX0:=zh ((zxb HX0 Bz).below hN);replace HX1:=zh ((zxb HX1 Bz).below hN);replace HX2:=zh ((zxb HX2 Bz).below hN);replace HX3:=zh ((zxb HX3 Bz).below hN);replace HX4:=zh ((zxb HX4 Bz).below hN);replace HX5:=zh ((zxb HX5 Bz).below hN);have HX6:=zh x6;clear x6 hN Bz hb6;have Bz:=Below.refl V7.heap.size V7;with_reducible refine(sameVec_q (P:=nrm (idxP (colsP.map fun x=>pdot [(1,qof (1) 1)] x))) (Q:=[(0,qof (2) 1),(1,qof (3) 1)]) (NV.below h7 (by go_grown)) (nv_lit (n:=2) [⟨0,⟨s16,A16,c16,l16,s16r,A16r,c16r,l16r,qof (2) 1,true⟩⟩,⟨1,⟨s17,A17,c17,l17,s17r,A17r,c17r,l17r,qof (3) 1,true⟩⟩] [(0,qof (2) 1),(1,qof (3) 1)] rfl (HX6.out.below (zAa Bz (by go_grown))) rfl rfl (OnT.c 0 (RN.below h16 (by go_grown)) (sz_one zd zd zd) (OnT.c 1 (RN.below h17 (by go_grown)) (sz_one zd zd zd) (OnT.nil _ _)))) zd zd zo zo true (zh (by decide +kernel))).mono ?_
 rintro e w18 ⟨rfl,b18⟩;replace b18:=zAa (a:=V7) (by go_grown) b18;replace h9:=h9.below b18;replace h10:=h10.below b18;replace h12:=h12.below b18;replace Bz:=zAa Bz b18;clear b18;go_wp2_with fail
 with_reducible refine(term6_q (0) (1) (zh zo) (zh (Tab.below hT.out (zAa hB (zAa (b:=w18) Bz (by go_grown)))))).mono ?_
 rintro e w19 ⟨s19,A19,c19,l19,s19r,A19r,c19r,l19r,rfl,h19,b19⟩;replace b19:=zAa (a:=w18) (by go_grown) b19;replace h9:=h9.below b19;replace h10:=h10.below b19;replace h12:=h12.below b19;replace Bz:=zAa Bz b19;clear b19;go_wp2_with fail
 obtain⟨V8,hW,x7,hN⟩:=zAf w19 #[.int .i64 0,.bool s19,.slice A19 l19 c19,.bool s19r,.slice A19r l19r c19r] 114;rw[←hW];clear hW;obtain⟨v7,hb7⟩:∃b,b=w19.heap.size:=⟨_,rfl⟩;rw[←hb7] at x7 ⊢;have o0_7:v0<v7:=zia (zxb HX0 Bz).lt;have o1_7:v1<v7:=zia (zxb HX1 Bz).lt;have o2_7:v2<v7:=zia (zxb HX2 Bz).lt;have o3_7:v3<v7:=zia (zxb HX3 Bz).lt;have o4_7:v4<v7:=zia (zxb HX4 Bz).lt;have o5_7:v5<v7:=zia (zxb HX5 Bz).lt;have o6_7:v6<v7:=zia (zxb HX6 Bz).lt;have ow_7:w.heap.size≤v7:=zia (zw hB Bz);replace h9:=h9.below hN;replace h10:=h10.below hN;replace h19:=h19.below hN;replace h12:=h12.below hN;replace hB:=zAa (zAa hB Bz) hN;replace HX0:=zh ((zxb HX0 Bz).below hN);replace HX1:=zh ((zxb HX1 Bz).below hN);replace HX2:=zh ((zxb HX2 Bz).below hN);replace HX3:=zh ((zxb HX3 Bz).below hN);replace HX4:=zh ((zxb HX4 Bz).below hN);replace HX5:=zh ((zxb HX5 Bz).below hN);replace HX6:=zh ((zxb HX6 Bz).below hN);have HX7:=zh x7;clear x7 hN Bz hb7;have Bz:=Below.refl V8.heap.size V8;with_reducible refine(term6_q (0) (2) (zh zo) (zh (Tab.below hT.out (zAa hB (zAa (b:=V8) Bz (by go_grown)))))).mono ?_
 rintro e w20 ⟨s20,A20,c20,l20,s20r,A20r,c20r,l20r,rfl,h20,b20⟩;replace b20:=zAa (a:=V8) (by go_grown) b20;replace h9:=h9.below b20;replace h10:=h10.below b20;replace h19:=h19.below b20;replace h12:=h12.below b20;replace Bz:=zAa Bz b20;clear b20;go_wp2_with fail
 with_reducible refine(term6_q (1) (3) (zh zo) (zh (Tab.below hT.out (zAa hB (zAa (b:=w20) Bz (by go_grown)))))).mono ?_
 rintro e w21 ⟨s21,A21,c21,l21,s21r,A21r,c21r,l21r,rfl,h21,b21⟩;replace b21:=zAa (a:=w20) (by go_grown) b21;replace h9:=h9.below b21;replace h10:=h10.below b21;replace h19:=h19.below b21;replace h20:=h20.below b21;replace h12:=h12.below b21;replace Bz:=zAa Bz b21;clear b21;go_wp2_with fail
 obtain⟨V9,hW,x8,hN⟩:=zAf w21 #[.int .i64 0,.bool s20,.slice A20 l20 c20,.bool s20r,.slice A20r l20r c20r,.int .i64 1,.bool s21,.slice A21 l21 c21,.bool s21r,.slice A21r l21r c21r] 114;have hs8:V9.heap.size=w21.heap.size+1:=by rw[hW];simp
 rw[←hW];clear hW;obtain⟨v8,hb8⟩:∃b,b=w21.heap.size:=⟨_,rfl⟩;rw[←hb8] at x8 hs8 ⊢;have o0_8:v0<v8:=zia (zxb HX0 Bz).lt;have o1_8:v1<v8:=zia (zxb HX1 Bz).lt;have o2_8:v2<v8:=zia (zxb HX2 Bz).lt;have o3_8:v3<v8:=zia (zxb HX3 Bz).lt;have o4_8:v4<v8:=zia (zxb HX4 Bz).lt;have o5_8:v5<v8:=zia (zxb HX5 Bz).lt;have o6_8:v6<v8:=zia (zxb HX6 Bz).lt;have o7_8:v7<v8:=zia (zxb HX7 Bz).lt;have ow_8:w.heap.size≤v8:=zia (zw hB Bz);replace h9:=h9.below hN;replace h10:=h10.below hN;replace h19:=h19.below hN;replace h20:=h20.below hN;replace h21:=h21.below hN;replace h12:=h12.below hN;replace hB:=zAa (zAa hB Bz) hN;replace HX0:=zh ((zxb HX0 Bz).below hN);replace HX1:=zh ((zxb HX1 Bz).below hN);replace HX2:=zh ((zxb HX2 Bz).below hN);replace HX3:=zh ((zxb HX3 Bz).below hN);replace HX4:=zh ((zxb HX4 Bz).below hN);replace HX5:=zh ((zxb HX5 Bz).below hN);replace HX6:=zh ((zxb HX6 Bz).below hN);replace HX7:=zh ((zxb HX7 Bz).below hN);have HX8:=zh x8;clear x8 hN Bz hb8;have Bz:=Below.refl V9.heap.size V9;obtain⟨V10,hW,x9,hN⟩:=zAf V9 #[.slice (some ⟨v7,0,none⟩) 1 1,.slice (some ⟨v8,0,none⟩) 2 2] 55;have hs9:V10.heap.size=V9.heap.size+1:=by rw[hW];simp
 rw[←hW];clear hW;rw[hs8] at x9 hs9;obtain⟨v9,hb9⟩:∃b,b=v8+1:=⟨_,rfl⟩;rw[←hb9] at x9 hs9  ⊢;have o0_9:v0<v9:=zia (zxb HX0 Bz).lt;have o1_9:v1<v9:=zia (zxb HX1 Bz).lt;have o2_9:v2<v9:=zia (zxb HX2 Bz).lt;have o3_9:v3<v9:=zia (zxb HX3 Bz).lt;have o4_9:v4<v9:=zia (zxb HX4 Bz).lt;have o5_9:v5<v9:=zia (zxb HX5 Bz).lt;have o6_9:v6<v9:=zia (zxb HX6 Bz).lt;have o7_9:v7<v9:=zia (zxb HX7 Bz).lt;have o8_9:v8<v9:=zia (zxb HX8 Bz).lt;have ow_9:w.heap.size≤v9:=zia (zw hB Bz);replace h9:=h9.below hN;replace h10:=h10.below hN;replace h19:=h19.below hN;replace h20:=h20.below hN;replace h21:=h21.below hN;replace h12:=h12.below hN;replace hB:=zAa (zAa hB Bz) hN;replace HX0:=zh ((zxb HX0 Bz).below hN);replace HX1:=zh ((zxb HX1 Bz).below hN);replace HX2:=zh ((zxb HX2 Bz).below hN);replace HX3:=zh ((zxb HX3 Bz).below hN);replace HX4:=zh ((zxb HX4 Bz).below hN);replace HX5:=zh ((zxb HX5 Bz).below hN);replace HX6:=zh ((zxb HX6 Bz).below hN);replace HX7:=zh ((zxb HX7 Bz).below hN);replace HX8:=zh ((zxb HX8 Bz).below hN);have HX9:=zh x9;clear x9 hN Bz hb9;have Bz:=Below.refl V10.heap.size V10;clear hs8;with_reducible refine(sameVecs_q (C:=(turnT colsP 2)) (D:=[[(0,qof (1) 1)],[(0,qof (2) 1),(1,qof (3) 1)]]) (CM.below h9 (by go_grown)) (cm_lit (n:=2) (M:=2) [⟨some ⟨v7,0,none⟩,1,1,[⟨0,⟨s19,A19,c19,l19,s19r,A19r,c19r,l19r,qof (1) 1,true⟩⟩]⟩,⟨some ⟨v8,0,none⟩,2,2,[⟨0,⟨s20,A20,c20,l20,s20r,A20r,c20r,l20r,qof (2) 1,true⟩⟩,⟨1,⟨s21,A21,c21,l21,s21r,A21r,c21r,l21r,qof (3) 1,true⟩⟩]⟩] (HX9.out.below (zAa Bz (by go_grown))) rfl rfl (cns_cons (v:=⟨some ⟨v7,0,none⟩,1,1,[⟨0,⟨s19,A19,c19,l19,s19r,A19r,c19r,l19r,qof (1) 1,true⟩⟩]⟩) (cn_mk (sl_lit (HX7.out.below (zAa Bz (by go_grown))) rfl rfl) (OnT.c 0 (RN.below h19 (by go_grown)) (sz_one zd zd zd) (OnT.nil _ _)) (fun h=>(by cases h))) (cns_cons (v:=⟨some ⟨v8,0,none⟩,2,2,[⟨0,⟨s20,A20,c20,l20,s20r,A20r,c20r,l20r,qof (2) 1,true⟩⟩,⟨1,⟨s21,A21,c21,l21,s21r,A21r,c21r,l21r,qof (3) 1,true⟩⟩]⟩) (cn_mk (sl_lit (HX8.out.below (zAa Bz (by go_grown))) rfl rfl) (OnT.c 0 (RN.below h20 (by go_grown)) (sz_one zd zd zd) (OnT.c 1 (RN.below h21 (by go_grown)) (sz_one zd zd zd) (OnT.nil _ _))) (fun h=>(by cases h))) (cns_nil _ _))) [[(0,qof (1) 1)],[(0,qof (2) 1),(1,qof (3) 1)]] rfl) (by decide +kernel) (by decide +kernel) zd zd zd zd true (zh (by decide +kernel))).mono ?_
 rintro e w22 ⟨rfl,b22⟩;replace b22:=zAa (a:=V10) (by go_grown) b22;replace h10:=h10.below b22;replace h12:=h12.below b22;replace Bz:=zAa Bz b22;clear b22;go_wp2_with fail
 obtain⟨V11,hW,x10,hN⟩:=zAf w22 #[.int .i64 1,.int .i64 2,.int .i64 0] 3;rw[←hW];clear hW;obtain⟨v10,hb10⟩:∃b,b=w22.heap.size:=⟨_,rfl⟩;rw[←hb10] at x10 ⊢;have o0_10:v0<v10:=zia (zxb HX0 Bz).lt;have o1_10:v1<v10:=zia (zxb HX1 Bz).lt;have o2_10:v2<v10:=zia (zxb HX2 Bz).lt;have o3_10:v3<v10:=zia (zxb HX3 Bz).lt;have o4_10:v4<v10:=zia (zxb HX4 Bz).lt;have o5_10:v5<v10:=zia (zxb HX5 Bz).lt;have o6_10:v6<v10:=zia (zxb HX6 Bz).lt;have o7_10:v7<v10:=zia (zxb HX7 Bz).lt;have o8_10:v8<v10:=zia (zxb HX8 Bz).lt;have o9_10:v9<v10:=zia (zxb HX9 Bz).lt;have ow_10:w.heap.size≤v10:=zia (zw hB Bz);replace h10:=h10.below hN;replace h12:=h12.below hN;replace hB:=zAa (zAa hB Bz) hN;replace HX0:=zh ((zxb HX0 Bz).below hN);replace HX1:=zh ((zxb HX1 Bz).below hN);replace HX2:=zh ((zxb HX2 Bz).below hN);replace HX3:=zh ((zxb HX3 Bz).below hN);replace HX4:=zh ((zxb HX4 Bz).below hN);replace HX5:=zh ((zxb HX5 Bz).below hN);replace HX6:=zh ((zxb HX6 Bz).below hN);replace HX7:=zh ((zxb HX7 Bz).below hN);replace HX8:=zh ((zxb HX8 Bz).below hN);replace HX9:=zh ((zxb HX9 Bz).below hN);have HX10:=zh x10;clear x10 hN Bz hb10;have Bz:=Below.refl V11.heap.size V11;with_reducible refine(sameInts_q (L:=(invL ([2,0,1]:List Int))) (M:=([1,2,0]:List Int)) (Sl.below h10 (by go_grown)) (sl_litG (L:=[1,2,0]) (n:=3) ics_len (HX10.out.below (zAa Bz (by go_grown))) rfl rfl) zd zd true (zh (by decide +kernel))).mono ?_
 rintro e w23 ⟨rfl,b23⟩;replace b23:=zAa (a:=V11) (by go_grown) b23;replace h12:=h12.below b23;replace Bz:=zAa Bz b23;clear b23;go_wp2_with fail
 with_reducible refine(term6_q (2) (5) (zh zo) (zh (Tab.below hT.out (zAa hB (zAa (b:=w23) Bz (by go_grown)))))).mono ?_
 rintro e w24 ⟨s24,A24,c24,l24,s24r,A24r,c24r,l24r,rfl,h24,b24⟩;replace b24:=zAa (a:=w23) (by go_grown) b24;replace h12:=h12.below b24;replace Bz:=zAa Bz b24;clear b24;go_wp2_with fail
 obtain⟨V12,hW,x11,hN⟩:=zAf w24 #[.int .i64 2,.bool s24,.slice A24 l24 c24,.bool s24r,.slice A24r l24r c24r] 114;rw[←hW];clear hW;obtain⟨v11,hb11⟩:∃b,b=w24.heap.size:=⟨_,rfl⟩;rw[←hb11] at x11 ⊢;have o0_11:v0<v11:=zia (zxb HX0 Bz).lt;have o1_11:v1<v11:=zia (zxb HX1 Bz).lt;have o2_11:v2<v11:=zia (zxb HX2 Bz).lt;have o3_11:v3<v11:=zia (zxb HX3 Bz).lt;have o4_11:v4<v11:=zia (zxb HX4 Bz).lt;have o5_11:v5<v11:=zia (zxb HX5 Bz).lt;have o6_11:v6<v11:=zia (zxb HX6 Bz).lt;have o7_11:v7<v11:=zia (zxb HX7 Bz).lt;have o8_11:v8<v11:=zia (zxb HX8 Bz).lt;have o9_11:v9<v11:=zia (zxb HX9 Bz).lt;have o10_11:v10<v11:=zia (zxb HX10 Bz).lt;have ow_11:w.heap.size≤v11:=zia (zw hB Bz);replace h24:=h24.below hN;replace h12:=h12.below hN;replace hB:=zAa (zAa hB Bz) hN;replace HX0:=zh ((zxb HX0 Bz).below hN);replace HX1:=zh ((zxb HX1 Bz).below hN);replace HX2:=zh ((zxb HX2 Bz).below hN);replace HX3:=zh ((zxb HX3 Bz).below hN);replace HX4:=zh ((zxb HX4 Bz).below hN);replace HX5:=zh ((zxb HX5 Bz).below hN);replace HX6:=zh ((zxb HX6 Bz).below hN);replace HX7:=zh ((zxb HX7 Bz).below hN);replace HX8:=zh ((zxb HX8 Bz).below hN);replace HX9:=zh ((zxb HX9 Bz).below hN);replace HX10:=zh ((zxb HX10 Bz).below hN);have HX11:=zh x11;clear x11 hN Bz hb11;have Bz:=Below.refl V12.heap.size V12;with_reducible refine(sameVec_q (P:=nrm (movF ([2,0,1]:List Int) (nrm [(0,qof (5) 1)]))) (Q:=[(2,qof (5) 1)]) (NV.below h12 (by go_grown)) (nv_lit (n:=1) [⟨2,⟨s24,A24,c24,l24,s24r,A24r,c24r,l24r,qof (5) 1,true⟩⟩] [(2,qof (5) 1)] rfl (HX11.out.below (zAa Bz (by go_grown))) rfl rfl (OnT.c 2 (RN.below h24 (by go_grown)) (sz_one zd zd zd) (OnT.nil _ _))) zd zd zo zo true (zh (by decide +kernel))).mono ?_
 rintro e w25 ⟨rfl,b25⟩;replace b25:=zAa (a:=V12) (by go_grown) b25;replace Bz:=zAa Bz b25;clear b25;go_wp2_with fail
 go_ret
 have hF:=zAa (c:=w25) hB Bz;exact⟨rfl,zAa hF (by go_grown)⟩
end Go.Proofs.YtljjgfmeaejnfaaGreatDoor
