/-
  tripwireref04.Make, Of; tripwireref05.Get, Places. Written by wip/gen/pl.py.
-/
import Derived.Test.YtidjjejgbahcgaaGreatDoorYMx2
import Derived.Test.YtidjjejgbahcgaaGreatDoorYRf
import Derived.Test.YtidjjejgbahcgaaGreatDoorYSo6
set_option maxHeartbeats 16000000
set_option maxRecDepth 100000
namespace Go.Proofs.YtidjjejgbahcgaaGreatDoor
open Go.RowKit Tw
theorem getR_q {w:World} {A:Option Addr} {n c M:Nat} {P:List (Int×Rat)} (at_:Int) (h:GV w A n c P M) (hM:M≤890) (hn:n≤1000000) :
  Calls Tryz.prog 121 #[.slice A n c,.int .i64 at_] w (TellsR w (pget P at_)):=by
 obtain⟨L,h1,h2,rfl,h4,h5⟩:=h;have HS:=zh h1;have HLN:=zh h1.1;have HOK:=zh h2;have HWS:=zh h4;clear h1 h2 h4 h5;obtain⟨W,hW,x0,x1,hB⟩:=zAh w #[.bool false,.slice none 0 0,.bool false,.slice none 0 0] 65 #[.bool false,.slice none 0 0,.bool false,.slice none 0 0] 65;have HX0:=zh x0;have HX1:=zh x1;clear x0 x1;have Bz:=zr W;go_enter Tryz.func121,Tryz.ntmps121
 go_wp2_with fail
 rw[←hW];clear hW;go_wp2_with fail
 have HB1:=zh (bT hB Bz);have XX0:=zh (zxb HX0 Bz);have XX1:=zh (zxb HX1 Bz);clear hB Bz HX0 HX1;go_loopg [6] n (fun gk s wr=>GT1 w L at_ n gk s wr)
 case atStart=>exact⟨0,_,_,_,_,_,_,_,_,Nat.zero_le _,rfl,rfl,RN.zero _,XX0.out,XX1.out,HB1.out⟩
 case round =>
  clear HB1 XX0 XX1;obtain⟨i,sS,sA,sc,sl,sS',sA',sc',sl',hi,hgk,rfl,hs,hx0,hx1,hB⟩:=hrel;have HGK:=zh hgk;have HX0:=zh hx0;have HX1:=zh hx1;clear hgk hx0 hx1;by_cases hlt:i<n
  ·obtain⟨b,off,rfl,hel⟩:=HS.out.at Tm.cs_len zo zo;obtain⟨x,hx⟩:∃x,L[i]?=some x:=⟨L[i]'(by rw[HLN.out];exact hlt),List.getElem?_eq_getElem _⟩;have hnd:=hel i x hx;have hfx:=HOK.out x (List.mem_of_getElem? hx);have hrx:R wr x.x.s x.x.A x.x.c x.x.l x.x.s' x.x.A' x.x.c' x.x.l' x.x.q (dgT x):=(hfx.below hB).r;have hss:sz (pget (prs (L.take i)) at_)≤wsum (L.take i) at_+1:=get_sz (fun t ht=>HOK.out t (List.mem_of_mem_take ht)) at_;have hws:wsum (L.take i) at_+(if x.at_=at_ then dgT x+2 else 0)≤M:=by rw[←wsum_snoc hx];exact Nat.le_trans (wsum_take_le L (i+1) at_) (HWS.out at_)
   have hpt:=pget_take hx at_;have i1:(i:Int)<(n:Int):=zo;have i2:(0:Int)≤(i:Int):=zo;clear hel hx hfx;by_cases hq:x.at_=at_
   ·have g1:(x.at_==at_)=true:=by simpa using hq
    have HSM:Hid (pget (prs (L.take i)) at_+x.x.q=pget (prs (L.take (i+1))) at_):=zh (by rw[hpt,if_pos hq]);rw[if_pos hq] at hws;clear hpt hq;have Bz:=zr wr;obtain⟨pb0,pb1,pb2,pb3,-⟩:=(zxb HX1 Bz).cz;have fb0:=(zxb HX1 Bz).frozen 0;have fb1:=(zxb HX1 Bz).frozen 1;have fb2:=(zxb HX1 Bz).frozen 2;have fb3:=(zxb HX1 Bz).frozen 3;have y1:=(zxb HX1 Bz).lt;obtain⟨pA0,pA1,pA2,pA3,pA4,-⟩:=(hnd.below (bT hB Bz)).ez;go_wp2_with fail
    (try simp only[vAa,vB,vC])
    refine zl (.take 0 (.pure 1 (.pure 2 (.pure 3 (.pure 4 (.take 5 (.only 6 (.only 7 .done)))))))) [7] (zsa pb0 (zsa pb1 (zsa pb2 (zsa pb3 (zsa pA1 (zsa pA2 (zsa pA3 (zI pA4)))))))) ?_;refine zU ?_;try simp only[uW,uX,uY,uZ]
    iterate 4 (refine zV ?_;try simp only[uW,uX,uY,uZ])
    refine zU ?_;try simp only[uW,uX,uY,uZ]
    refine zC 26 rfl rfl (fun K hK=>?_);go_simp
    with_reducible refine(add_r4 (R.below hs.r) (R.below hrx) zo).mono ?_
    rintro e w1 ⟨s1,A1,c1,l1,s1r,A1r,c1r,l1r,rfl,h1,b1⟩;replace b1:=zq (a:=wr) b1;replace Bz:=bT Bz b1;clear b1;clear pb0 pb1 pb2 pb3 fb0 fb1 fb2 fb3 y1 pA0 pA1 pA2 pA3 pA4;obtain⟨pb0,pb1,pb2,pb3,-⟩:=(zxb HX1 Bz).cz;have fb0:=(zxb HX1 Bz).frozen 0;have fb1:=(zxb HX1 Bz).frozen 1;have fb2:=(zxb HX1 Bz).frozen 2;have fb3:=(zxb HX1 Bz).frozen 3;have y1:=(zxb HX1 Bz).lt;obtain⟨-,pA1,pA2,pA3,pA4,-⟩:=(hnd.below (bT hB Bz)).ez;refine hK.out _ _ ⟨pb0,pb1,pb2,pb3,pA1,pA2,pA3,pA4⟩ (fun _=>?_);try simp only[uW,uX,uY,uZ]
    clear hK K;refine wpPlan_late (o:=⟨none,_,_,_,_,_⟩) rfl rfl zd (fun K hK=>?_);go_simp
    refine hK.out _ _ ?_;try simp only[Act.put,uX,uY,uZ]
    clear hK K;refine wpPlan_done ?_;obtain⟨V1,hW,x,kk,far,bel⟩:=store4 (.bool s1) (.slice A1 l1 c1) (.bool s1r) (.slice A1r l1r c1r) (zxb HX1 Bz) nofun nofun nofun nofun;rw[←hW];clear hW;replace h1:=h1.k kk;replace hB:=bel w.heap.size w zo (bT hB Bz);replace HX0:=zf far HX0 Bz;replace HX1:=zh x;clear x kk far bel Bz;have Bz:=zr V1;clear pb0 pb1 pb2 pb3 fb0 fb1 fb2 fb3 y1 pA1 pA2 pA3 pA4;go_wp2_with fail
    go_roundg (n-(i+1))
    case measure=>have:=HGK.out;omega
    case rel=>exact⟨i+1,_,_,_,_,_,_,_,_,zo,rfl,by go_num,by rw[←HSM.out];exact RN.below h1,HX0.out.below (bT Bz),HX1.out.below (bT Bz),bT (bT hB Bz)⟩
   ·have g1:(x.at_==at_)=false:=by simpa using hq
    have HSM:Hid (pget (prs (L.take i)) at_=pget (prs (L.take (i+1))) at_):=zh (by rw[hpt,if_neg hq,Rat.add_zero]);clear hpt hq hws;have Bz:=zr wr;have pA0:=(hnd.below (bT hB Bz)).c0 (u:=.int .i64 x.at_) rfl;go_wp2_with fail
    go_roundg (n-(i+1))
    case measure=>have:=HGK.out;omega
    case rel=>exact⟨i+1,_,_,_,_,_,_,_,_,zo,rfl,by go_num,by rw[←HSM.out];exact RN.below hs,HX0.out.below (bT Bz),HX1.out.below (bT Bz),bT (bT hB Bz)⟩
  ·obtain rfl:i=n:=zo;have i1:¬(i:Int)<(i:Int):=zo;have HEND:Hid (pget (prs (L.take i)) at_=pget (prs L) at_):=zh (by rw[List.take_of_length_le (by rw[HLN.out];exact Nat.le_refl _)]);have Bz:=zr wr;obtain⟨pa0,pa1,pa2,pa3,-⟩:=(zxb HX0 Bz).cz;have fa0:=(zxb HX0 Bz).frozen 0;have fa1:=(zxb HX0 Bz).frozen 1;have fa2:=(zxb HX0 Bz).frozen 2;have fa3:=(zxb HX0 Bz).frozen 3;have y0:=(zxb HX0 Bz).lt;obtain⟨pb0,pb1,pb2,pb3,-⟩:=(zxb HX1 Bz).cz;go_wp2_with fail
   (try simp only[Exit.inBlock,Exit.then])
   refine bodyPost_ret (by simp[results,Tryz.results121,go_sem,pa0,pa1,pa2,pa3];try rfl) rfl ?_;obtain⟨V1,hW,x,kk,far,bel⟩:=store4 (.bool sS) (.slice sA sl sc) (.bool sS') (.slice sA' sl' sc') (zxb HX0 Bz) nofun nofun nofun nofun;rw[←hW];clear hW;replace hs:=hs.k kk;replace hB:=bel w.heap.size w zo (bT hB Bz);replace HX1:=zf far HX1 Bz;replace HX0:=zh x;clear x kk far bel Bz;have Bz:=zr V1;have hF:=bT (c:=V1) hB Bz;exact⟨_,_,_,_,_,_,_,_,rfl,by rw[←HEND.out];exact RN.below hs,bT hF⟩
def plcs (VL:List Vc):List Int:=VL.flatMap fun v=>v.L.map fun t=>t.at_
theorem plcs_snoc {VL:List Vc} {k:Nat} {v:Vc} (h:VL[k]?=some v):plcs (VL.take (k+1))=plcs (VL.take k)++v.L.map fun t=>t.at_:=by
 unfold plcs
 rw[take_snoc h,List.flatMap_append];congr 1
 exact List.append_nil _
theorem plcs_len {VL:List Vc} {k:Nat}:(plcs (VL.take k)).length≤(plcs VL).length:=by
 have h:plcs VL=plcs (VL.take k)++plcs (VL.drop k):=by
  unfold plcs
  rw[←List.flatMap_append,List.take_append_drop]
 rw[h,List.length_append];omega
def PP1 (w:World) (VL:List Vc) (n gk:Nat) (s3 s4:Value) (wr:World):Prop :=
 ∃(k:Nat) (H:Option Addr) (hc m:Nat) (L:List Int),s3=.slice H m hc∧s4=.int .i64 (k:Int)∧k≤n∧n-k=gk∧OwnR wr w.heap.size 3 1 (.slice H m hc) m (flat ics L)∧PlS L (plcs (VL.take k))∧Below w.heap.size w wr
def PP2 (w:World) (S0:List Int) (v:Vc) (gk:Nat) (s3 s5:Value) (wr:World):Prop :=
 ∃(i:Nat) (H:Option Addr) (hc m:Nat) (L:List Int),s3=.slice H m hc∧s5=.int .i64 (i:Int)∧i≤v.n∧v.n-i=gk∧OwnR wr w.heap.size 3 1 (.slice H m hc) m (flat ics L)∧PlS L (S0++(v.L.take i).map fun t=>t.at_)∧Below w.heap.size w wr
def PP3 (w:World) (H:Option Addr) (hc m:Nat) (L:List Int) (a:Int) (gk:Nat) (s:Value) (wr:World):Prop :=
 ∃j:Nat,j≤m∧m-j≤gk∧s=.int .i64 (j:Int)∧OwnR wr w.heap.size 3 1 (.slice H m hc) m (flat ics L)∧(∀(i:Nat) (u:Int),i<j→L[i]?=some u→u<a)∧Below w.heap.size w wr
def PP4 (w:World) (g m c:Nat) (L:List Int) (j gk:Nat) (s:Value) (wr:World):Prop :=
 ∃(q:Nat) (y:Int),j≤q∧q≤m∧q-j≤gk∧s=.int .i64 (q:Int)∧OwnR wr w.heap.size 3 1 (.slice (some ⟨g,0,none⟩) (m+1) c) (m+1) (flat ics (shL L q y))∧Below w.heap.size w wr
theorem Sl.off {α:Type} {f:α→List Value} {k:Nat} {w V:World} {b n c:Nat} {A:Option Addr} {L:List α} (h:Sl f k w A n c L) (ho:∀(k j:Nat),k≠b→V.cell? ⟨k,j,none⟩=w.cell? ⟨k,j,none⟩) (hA:∀a,A=some a→a.block≠b):Sl f k V A n c L:=by
 obtain⟨h1,h2,A',c',e,h3,h4⟩:=h;cases e;refine⟨h1,h2,A,c,rfl,h3,fun a ha j u hu=>?_⟩;have h5:=h4 a ha j u hu;have h6:=World.cell?_spot h5;have h7:(a.add j).block=a.block:=by unfold Addr.add;split<;>rfl
 rw[←h5];have h8:a.add j=⟨a.block,(a.add j).off,none⟩:=by
  rw[←h7,←h6]
 rw[h8];exact ho _ _ (hA a ha)
def TellsPl (w:World) (S:List Int) (e:Ending) (w':World):Prop:=∃H k hc L,e=.returned (.slice H k hc)∧Sl ics 1 w' H k hc L∧PlS L S∧k≤S.length∧(∀a,H=some a→w.heap.size≤a.block)∧Below w.heap.size w w'
theorem places_q {w:World} {A:Option Addr} {n c:Nat} {VL:List Vc} (h:Sl Vc.cs 1 w A n c VL) (hv:Hid (∀v∈VL,Sl Tm.cs 5 w v.A v.n v.c v.L)) (hn:n≤1000000) (hs:Hid ((plcs VL).length≤1000000)) :
  Calls Tryz.prog 118 #[.slice A n c] w (TellsPl w (plcs VL)):=by
 have HS:=zh h;have HLN:=zh h.1;clear h;go_enter Tryz.func118,Tryz.ntmps118
 go_wp2_with fail
 go_loopg [3,4] n (fun gk s3 s4 wr=>PP1 w VL n gk s3 s4 wr)
 case atStart=>exact⟨0,none,0,0,[],rfl,rfl,Nat.zero_le _,rfl,OwnR.nil _ _ _ _,PlS.nil,Below.refl _ _⟩
 case round =>
  obtain⟨k,H,hc,m,L,rfl,rfl,hk,hgk,ho,hpl,hB⟩:=hrel;have HGK:=zh hgk;have HPL:=zh hpl;clear hgk hpl;by_cases hlt:k<n
  ·obtain⟨bv,ov,rfl,hel⟩:=HS.out.at Vc.cs_len zo zo;obtain⟨v,hvk⟩:∃v,VL[k]?=some v:=⟨VL[k]'(by rw[HLN.out];exact hlt),List.getElem?_eq_getElem _⟩;have hev:ElA w bv (ov+k) (Vc.cs v):=by have:=hel k v hvk;rwa [Nat.mul_one] at this
   have HVS:=zh (hv.out v (List.mem_of_getElem? hvk));have HVN:=zh (hv.out v (List.mem_of_getElem? hvk)).1;have HSN:=zh (plcs_snoc hvk);have hvn:v.n≤1000000:=by
    have h1:=plcs_len (VL:=VL) (k:=k+1);rw[HSN.out,List.length_append,List.length_map,HVN.out] at h1;have:=hs.out;omega
   have i1:(k:Int)<(n:Int):=zo;have i2:(0:Int)≤(k:Int):=zo;have HSL:Hid ((plcs (VL.take k)).length+v.n≤1000000):=zh (by
    have h1:=plcs_len (VL:=VL) (k:=k+1);rw[HSN.out,List.length_append,List.length_map,HVN.out] at h1;have:=hs.out;omega)
   clear hel hvk;have Bz:=zr wr;go_wp2_with fail
   have HO1:=zh ho;have HB2:=zh (bT hB Bz);clear ho hB Bz;go_loopg [3,5] v.n (fun gk s3 s5 wr=>PP2 w (plcs (VL.take k)) v gk s3 s5 wr)
   case atStart=>exact⟨0,H,hc,m,L,rfl,by go_num,Nat.zero_le _,rfl,HO1.out.below (by go_grown),by rw[List.take_zero,List.map_nil,List.append_nil];exact HPL.out,bT HB2.out⟩
   case round =>
    clear HO1 HB2 HPL;obtain⟨i,H,hc,m,L,rfl,rfl,hi,hgi,ho,hpl,hB⟩:=hrel;have HGI:=zh hgi;have HPL:=zh hpl;have HLL:=zh (ho.eltn elt_ics zo);have hm0:m≤1000000:=by
     have h1:=hpl.len;rw[List.length_append,List.length_map,List.length_take,HVN.out,HLL.out] at h1;have:=HSL.out;omega
    clear hgi hpl;by_cases hlt2:i<v.n
    ·obtain⟨vA,vn,vc,vL⟩:=v;obtain⟨b,off,rfl,hel2⟩:=HVS.out.at Tm.cs_len (by show 0<5;omega) zo;obtain⟨x,hx⟩:∃x,vL[i]?=some x:=⟨vL[i]'(by have:=HVN.out;simp only at this hlt2;omega),List.getElem?_eq_getElem _⟩;have hnd:=hel2 i x hx;have HSI:Hid (((vL.take (i+1)).map fun t=>t.at_)=((vL.take i).map fun t=>t.at_)++[x.at_]):=zh (by rw[take_snoc hx,List.map_append];rfl);simp only at hlt2 hi hvn hev HSL HVN
     have k1:(i:Int)<(vn:Int):=zo;have k2:(0:Int)≤(i:Int):=zo;have i3:(0:Int)≤(vn:Int):=zo;clear hel2 hx;have Bz:=zr wr;have pA0:=(hev.below (bT hB Bz)).c0 (u:=.slice (some ⟨b,off,none⟩) vn vc) rfl;have pB0:=(hnd.below (bT hB Bz)).c0 (u:=.int .i64 x.at_) rfl;go_wp2_with fail
     obtain⟨a,ha⟩:∃a,a=x.at_:=⟨_,rfl⟩;rw[←ha];have HA:=zh ha;have HO1:=zh ho;have HB2:=zh (bT hB Bz);clear ho hB Bz ha hnd;go_loopg [7] m (fun gk s wr=>PP3 w H hc m L a gk s wr)
     case atStart=>exact⟨0,Nat.zero_le _,zo,by go_num,HO1.out.below (by go_grown),(fun i u hi=>by omega),bT HB2.out⟩
     case round =>
      clear HO1 HB2;obtain⟨j,hj,hgj,rfl,ho,hlo,hB⟩:=hrel;have HLO:=zh hlo;clear hlo;by_cases hjm:j<m
      ·obtain⟨g,rfl⟩:=ho.some zo;obtain⟨u,hu⟩:∃u,L[j]?=some u:=⟨L[j]'(by rw[HLL.out];exact hjm),List.getElem?_eq_getElem _⟩;have HU:=zh hu;have j1:(j:Int)<(m:Int):=zo;have j2:(0:Int)≤(j:Int):=zo;by_cases hua:u<a
       ·have HLO2:Hid (∀(i:Nat) (u:Int),i<j+1→L[i]?=some u→u<a):=zh (fun i z hi hz=>by
         rcases Nat.lt_or_ge i j with h1 | h1
         ·exact HLO.out i z h1 hz
         ·obtain rfl:i=j:=zo;rw[hu,Option.some.injEq] at hz;rw[←hz];exact hua)
        clear hu;have Bz:=zr wr;have pC0:=int_cell ho HU.out;go_wp2_with fail
        go_roundg (m-(j+1))
        case measure=>omega
        case rel=>exact⟨j+1,zo,zo,by go_num,OwnR.below ho,HLO2.out,bT (bT hB Bz)⟩
       ·by_cases hea:u=a
        ·have e1:(u==a)=true:=by simpa using hea
         have HSU:Hid (L[j]?=some x.at_):=zh (by rw[hu,hea,HA.out]);clear hu hea;have Bz:=zr wr;have pC0:=int_cell ho HU.out;go_wp2_with fail
         go_roundg (vn-(i+1))
         case measure=>have:=HGI.out;omega
         case rel=>exact⟨i+1,_,hc,m,L,rfl,by go_num,(by show i+1≤vn;omega),rfl,OwnR.below ho,by rw[HSI.out,←List.append_assoc];exact HPL.out.same HSU.out,bT (bT hB Bz)⟩
        ·have e1:(u==a)=false:=by simpa using hea
         have HPN:Hid (PlS (shL L j a) (plcs (VL.take k)++(vL.take i).map (fun t=>t.at_)++[x.at_])):=zh (by rw[←HA.out];exact HPL.out.new (by rw[HLL.out];exact hj) HLO.out (fun z hz=>by rw[hu,Option.some.injEq] at hz;omega));clear hu hea;have Bz:=zr wr;have pC0:=int_cell ho HU.out;go_wp2_with (at_builtin;refine And.left (b:=True) ?_)
         refine⟨?_,trivial⟩;obtain⟨V41,hW,x0,hN⟩:=zAc wr #[.int .i64 0] 3;rw[←hW];clear hW;obtain⟨v0,hb0⟩:=ze wr.heap.size;rw[←hb0] at x0 ⊢;have ow_0:w.heap.size≤v0:=zi (zw hB Bz);have nv0_own:=OwnR.off' (b:=v0) ho zo;replace ho:=ho.below hN;replace hB:=bT (bT hB Bz) hN;have HX0:=zh x0;clear x0 hN Bz hb0;have Bz:=zr V41;clear pC0;have hdr:V41.drew.heap.size=V41.heap.size:=rfl;have hdr2:V41.drew.drew.heap.size=V41.heap.size:=rfl;refine Elt.app elt_ics rfl _ _ rfl (w.heap.size) (.slice (some ⟨g,0,none⟩) m hc) (m) (L) rfl ho (.slice (some ⟨v0,0,none⟩) 1 1) (1) ([(0:Int)]) rfl (From.one (HX0.out.below (bT Bz)) ((0:Int)) rfl (elt_ics.len _)) zo (zi (zw hB Bz)) ?_;intro H41 c41 w41 ho41 hg41;replace hB:=(bT (bT hB Bz)).trans (hg41.below (zi (zw hB Bz)) (fun g hg=>by have:=ho.base g hg;omega));clear HX0;clear hdr hdr2;clear hg41 Bz;have Bz:=zr w41;go_wp2_with fail
         obtain⟨g2,rfl⟩:=ho41.some zo;obtain⟨cc,hcc⟩:∃cc,cc=c41:=⟨_,rfl⟩;rw[←hcc] at ho41 ⊢;have HO1:=zh ho41;have HB2:=zh (bT hB Bz);clear ho41 hB Bz hcc;go_loopg [8] (m-j) (fun gk s wr=>PP4 w g2 m cc L j gk s wr)
         case atStart=>exact⟨m,0,zo,Nat.le_refl _,Nat.le_refl _,by go_num,by have h9:=shL_start L 0;rw[HLL.out] at h9;rw[h9];exact HO1.out,HB2.out⟩
         case round =>
          clear HO1 HB2;obtain⟨q,y,hjq,hqm,hgq,rfl,ho,hB⟩:=hrel;by_cases hqj:j<q
          ·obtain⟨q,rfl⟩:∃q',q=q'+1:=⟨q-1,zo⟩;obtain⟨u,hu⟩:∃u,L[q]?=some u:=⟨L[q]'(by rw[HLL.out];omega),List.getElem?_eq_getElem _⟩;have HU:=zh (shL_get hu y);have HST:=zh (shL_step hu y);obtain⟨v0,hv0⟩:∃v,(shL L (q+1) y)[q+1]?=some v:=⟨(shL L (q+1) y)[q+1]'(by rw[shL_len,HLL.out];omega),List.getElem?_eq_getElem _⟩;have HV0:=zh hv0;have e1:((q+1:Nat):Int)=(q:Int)+1:=zo;rw[e1];have w6:IntKind.i64.wrap ((q:Int)+1-1)=(q:Int):=by rw[IntWalk.i64_in _ zo];omega
           have j1:(j:Int)<(q:Int)+1:=zo;have j2:(0:Int)≤(q:Int):=zo;have j3:(q:Int)<(m:Int)+1:=zo;have j4:(q:Int)+1<(m:Int)+1:=zo;have j5:(0:Int)≤(q:Int)+1:=zo;have j6:((q:Int)+1).toNat=q+1:=zo;clear hu hv0 e1;have Bz:=zr wr;have pD0:=int_cell ho HU.out;have pE0:=int_cell ho HV0.out;have fE0:=ho.frozen (q+1);have y54:=ho.blk.1;go_upto_region 16 with(fail)
           obtain⟨V61,hV,ho2,hg2⟩:=int_store ho HV0.out (u);rw[←hV];clear hV;replace hB:=(bT hB Bz).trans (hg2.below (zi (zw hB Bz)) (fun g' hg'=>by have:=ho.base g' hg';omega));clear ho;have ho:=ho2;clear ho2 hg2 Bz;have Bz:=zr V61;clear pD0 pE0 fE0 y54;go_wp2_with fail
           go_roundg (q-j)
           case measure=>omega
           case rel=>exact⟨q,u,zo,zo,zo,by go_num,by rw[←HST.out];exact OwnR.below ho,bT (bT hB Bz)⟩
          ·obtain rfl:q=j:=zo;obtain⟨v0,hv0⟩:∃v,(shL L q y)[q]?=some v:=⟨(shL L q y)[q]'(by rw[shL_len,HLL.out];omega),List.getElem?_eq_getElem _⟩;have HV0:=zh hv0;have HST:=zh (shL_set (L:=L) (k:=q) (by rw[HLL.out];omega) y a);have j1:¬(q:Int)<(q:Int):=zo;have j2:(0:Int)≤(q:Int):=zo;have j3:(q:Int)<(m:Int)+1:=zo;clear hv0;have Bz:=zr wr;have pE0:=int_cell ho HV0.out;have fE0:=ho.frozen q;have y54:=ho.blk.1;go_wp2_with fail
           obtain⟨V61,hV,ho2,hg2⟩:=int_store ho HV0.out (a);rw[←hV];clear hV;replace hB:=(bT hB Bz).trans (hg2.below (zi (zw hB Bz)) (fun g' hg'=>by have:=ho.base g' hg';omega));clear ho;have ho:=ho2;clear ho2 hg2 Bz;have Bz:=zr V61;clear pE0 fE0 y54;go_wp2_with fail
           go_roundg (vn-(i+1))
           case measure=>have:=HGI.out;omega
           case rel=>exact⟨i+1,_,cc,m+1,shL L q a,rfl,by go_num,(by show i+1≤vn;omega),rfl,by rw[←HST.out];exact OwnR.below ho,by rw[HSI.out,←List.append_assoc];exact HPN.out,bT (bT hB Bz)⟩
      ·have j1:¬(j:Int)<(m:Int):=zo;have HPN:Hid (PlS (shL L j a) (plcs (VL.take k)++(vL.take i).map (fun t=>t.at_)++[x.at_])):=zh (by rw[←HA.out];exact HPL.out.new (by rw[HLL.out];exact hj) HLO.out (fun z hz=>by rw[List.getElem?_eq_none (by rw[HLL.out];omega)] at hz;cases hz));have Bz:=zr wr;go_wp2_with (at_builtin;refine And.left (b:=True) ?_)
       refine⟨?_,trivial⟩;obtain⟨V41,hW,x0,hN⟩:=zAc wr #[.int .i64 0] 3;rw[←hW];clear hW;obtain⟨v0,hb0⟩:=ze wr.heap.size;rw[←hb0] at x0 ⊢;have ow_0:w.heap.size≤v0:=zi (zw hB Bz);have nv0_own:=OwnR.off' (b:=v0) ho zo;replace ho:=ho.below hN;replace hB:=bT (bT hB Bz) hN;have HX0:=zh x0;clear x0 hN Bz hb0;have Bz:=zr V41;have hdr:V41.drew.heap.size=V41.heap.size:=rfl;have hdr2:V41.drew.drew.heap.size=V41.heap.size:=rfl;refine Elt.app elt_ics rfl _ _ rfl (w.heap.size) (.slice H m hc) (m) (L) rfl ho (.slice (some ⟨v0,0,none⟩) 1 1) (1) ([(0:Int)]) rfl (From.one (HX0.out.below (bT Bz)) ((0:Int)) rfl (elt_ics.len _)) zo (zi (zw hB Bz)) ?_;intro H41 c41 w41 ho41 hg41;replace hB:=(bT (bT hB Bz)).trans (hg41.below (zi (zw hB Bz)) (fun g hg=>by have:=ho.base g hg;omega));clear HX0;clear hdr hdr2;clear hg41 Bz;have Bz:=zr w41;go_wp2_with fail
       obtain⟨g2,rfl⟩:=ho41.some zo;obtain⟨cc,hcc⟩:∃cc,cc=c41:=⟨_,rfl⟩;rw[←hcc] at ho41 ⊢;have HO1:=zh ho41;have HB2:=zh (bT hB Bz);clear ho41 hB Bz hcc;go_loopg [8] (m-j) (fun gk s wr=>PP4 w g2 m cc L j gk s wr)
       case atStart=>exact⟨m,0,zo,Nat.le_refl _,Nat.le_refl _,by go_num,by have h9:=shL_start L 0;rw[HLL.out] at h9;rw[h9];exact HO1.out,HB2.out⟩
       case round =>
        clear HO1 HB2;obtain⟨q,y,hjq,hqm,hgq,rfl,ho,hB⟩:=hrel;by_cases hqj:j<q
        ·exact absurd hqj zo
        ·obtain rfl:q=j:=zo;obtain⟨v0,hv0⟩:∃v,(shL L q y)[q]?=some v:=⟨(shL L q y)[q]'(by rw[shL_len,HLL.out];omega),List.getElem?_eq_getElem _⟩;have HV0:=zh hv0;have HST:=zh (shL_set (L:=L) (k:=q) (by rw[HLL.out];omega) y a);have j1:¬(q:Int)<(q:Int):=zo;have j2:(0:Int)≤(q:Int):=zo;have j3:(q:Int)<(m:Int)+1:=zo;clear hv0;have Bz:=zr wr;have pE0:=int_cell ho HV0.out;have fE0:=ho.frozen q;have y54:=ho.blk.1;go_wp2_with fail
         obtain⟨V61,hV,ho2,hg2⟩:=int_store ho HV0.out (a);rw[←hV];clear hV;replace hB:=(bT hB Bz).trans (hg2.below (zi (zw hB Bz)) (fun g' hg'=>by have:=ho.base g' hg';omega));clear ho;have ho:=ho2;clear ho2 hg2 Bz;have Bz:=zr V61;clear pE0 fE0 y54;go_wp2_with fail
         go_roundg (vn-(i+1))
         case measure=>have:=HGI.out;omega
         case rel=>exact⟨i+1,_,cc,m+1,shL L q a,rfl,by go_num,(by show i+1≤vn;omega),rfl,by rw[←HST.out];exact OwnR.below ho,by rw[HSI.out,←List.append_assoc];exact HPN.out,bT (bT hB Bz)⟩
    ·obtain rfl:i=v.n:=zo;have k1:¬(v.n:Int)<(v.n:Int):=zo;have HPL:Hid (PlS L (plcs (VL.take (k+1)))):=zh (by rw[HSN.out];have h9:=HPL.out;rwa [List.take_of_length_le (l:=v.L) (by rw[HVN.out];exact Nat.le_refl _)] at h9);have Bz:=zr wr;have pA0:=(hev.below (bT hB Bz)).c0 (u:=.slice v.A v.n v.c) rfl;go_wp2_with fail
     go_roundg (n-(k+1))
     case measure=>have:=HGK.out;omega
     case rel=>exact⟨k+1,H,hc,m,L,rfl,by go_num,zo,rfl,OwnR.below ho,HPL.out,bT (bT hB Bz)⟩
  ·obtain rfl:k=n:=zo;have i1:¬(k:Int)<(k:Int):=zo;have HLL:=zh (ho.eltn elt_ics zo);have HSL:=zh (ho.sl' elt_ics HLL.out);have hpl2:PlS L (plcs VL):=by have h9:=HPL.out;rwa [List.take_of_length_le (by rw[HLN.out];exact Nat.le_refl _)] at h9
   have HP2:=zh hpl2;have HBA:Hid (∀a,H=some a→w.heap.size≤a.block):=zh (fun a ha=>by subst ha;exact ho.base a.block rfl);clear ho hpl2;go_wp2_with fail
   go_ret
   exact⟨H,m,hc,L,rfl,HSL.out,HP2.out,by have h9:=HP2.out.len;rw[HLL.out] at h9;exact h9,HBA.out,hB⟩
open Go.RowKit Tw
theorem Grew.stay {w w':World} (v:Value) (hb:Below w.heap.size w w'):Grew w w' v v:=⟨⟨hb.os,hb.tape,hb.output,hb.size,fun i hi _=>hb.block i hi⟩,K64.below hb,.inl rfl⟩
theorem Grew.after {w w1 w':World} {v v':Value} (hg:Grew w1 w' v v') (hb:Below w.heap.size w w1) (_hlt:∀g,v.ownBlock=some g→g<w.heap.size):Grew w w' v v' :=
 ⟨⟨hg.by_.os.trans hb.os,hg.by_.tape.trans hb.tape,hg.by_.output.trans hb.output,Nat.le_trans hb.size hg.by_.size,fun i hi hn=>(hg.by_.block i (Nat.lt_of_lt_of_le hi hb.size) hn).trans (hb.block i hi)⟩,K64.trans (K64.below hb) hg.k,by
  rcases hg.new with h | ⟨g,h,h2⟩
  ·exact .inl h
  ·exact .inr ⟨g,h,Nat.le_trans hb.size h2⟩⟩
theorem sign_z0 {q:Rat} (h:q=0):q.num.sign=0:=by subst h;rfl
theorem sign_nz {q:Rat} (h:q≠0):q.num.sign≠0:=fun e=>h (by
 have h1:=Int.sign_eq_zero_iff_zero.1 e;exact Rat.num_eq_zero.1 h1)
def TellsPut (w:World) (B:Nat) (v:Value) (O:List Tm) (at_:Int) (q:Rat) (M:Nat) (e:Ending) (w':World):Prop :=
 ∃H' k' hc' O',e=.returned (.slice H' k' hc')∧OwnR w' B 79 5 (.slice H' k' hc') k' (flat Tm.cs O')∧prs O'=prs O++(if q=0 then [] else [(at_,q)])∧OnT w' O' (fun _=>M)∧Grew w w' v (.slice H' k' hc')
theorem put_q {w:World} {B k hc m M:Nat} {H:Option Addr} {O:List Tm} {s s':Bool} {A A':Option Addr} {l c l' c':Nat} {q:Rat} (at_:Int) (ho:OwnR w B 79 5 (.slice H k hc) k (flat Tm.cs O)) (hBw:B≤w.heap.size) (hon:OnT w O (fun _=>M)) (ha:R w s A c l s' A' c' l' q m) (hm:m≤1900) (hM:sz q+1≤M) (hk:k≤1000000000) (_hT:Hid (Tab w)) :
  Calls Tryz.prog 119 #[.slice H k hc,.int .i64 at_,.agg #[.bool s,.slice A l c,.bool s',.slice A' l' c']] w (TellsPut w B (.slice H k hc) O at_ q M):=by
 have HLT:=zh ho.lt;have HM:=zh hM;clear hM;by_cases hq:q=0
 ·have HQ0:=zh hq;have HZ:=zh (sign_z0 hq);clear hq;obtain⟨W,hW,x0,hB⟩:=zAc w #[.bool s,.slice A l c,.bool s',.slice A' l' c'] 65;replace hon:=hon.below hB;replace ho:=ho.below hB;replace ha:=ha.below hB;have HX0:=zh x0;clear x0;have Bz:=zr W;obtain⟨pa0,pa1,pa2,pa3,-⟩:=(zxb HX0 Bz).cz;go_enter Tryz.func119,Tryz.ntmps119
  go_wp2_with fail
  rw[←hW];clear hW;go_wp2_with fail
  with_reducible refine(sign_r4 (R.below ha) zo 0 HZ).mono ?_
  rintro e w1 ⟨rfl,b1⟩;replace b1:=zq (a:=W) b1;replace hon:=hon.below b1;replace ho:=ho.below b1;replace Bz:=bT Bz b1;clear b1;clear pa0 pa1 pa2 pa3;go_wp2_with fail
  go_ret
  have hF:=bT (c:=w1) hB Bz;exact⟨H,k,hc,O,rfl,OwnR.below ho,by rw[if_pos HQ0.out,List.append_nil],OnT.below hon,Grew.stay _ (bT hF)⟩
 ·have HQ0:=zh hq;obtain⟨z,hz⟩:∃z,q.num.sign=z:=⟨_,rfl⟩;have hz0:z≠0:=by rw[←hz];exact sign_nz hq
  have g1:(z==0)=false:=by simpa using hz0
  have HZ:=zh hz;clear hq hz;obtain⟨W,hW,x0,hB⟩:=zAc w #[.bool s,.slice A l c,.bool s',.slice A' l' c'] 65;replace hon:=hon.below hB;replace ho:=ho.below hB;replace ha:=ha.below hB;have HX0:=zh x0;clear x0;have Bz:=zr W;obtain⟨pa0,pa1,pa2,pa3,-⟩:=(zxb HX0 Bz).cz;go_enter Tryz.func119,Tryz.ntmps119
  go_wp2_with fail
  rw[←hW];clear hW;go_wp2_with fail
  with_reducible refine(sign_r4 (R.below ha) zo z HZ).mono ?_
  rintro e w1 ⟨rfl,b1⟩;replace b1:=zq (a:=W) b1;replace hon:=hon.below b1;replace ho:=ho.below b1;replace ha:=ha.below b1;replace Bz:=bT Bz b1;clear b1;clear pa0 pa1 pa2 pa3;obtain⟨pa0,pa1,pa2,pa3,-⟩:=(zxb HX0 Bz).cz;go_wp2_with fail
  with_reducible refine(norm_r4 (R.below ha) zo).mono ?_
  rintro e w2 ⟨s2,A2,c2,l2,s2r,A2r,c2r,l2r,rfl,h2,b2⟩;replace b2:=zq (a:=w1) b2;replace hon:=hon.below b2;replace ho:=ho.below b2;replace Bz:=bT Bz b2;clear b2;clear pa0 pa1 pa2 pa3;go_wp2_with (at_builtin;refine And.left (b:=True) ?_)
  refine⟨?_,trivial⟩;obtain⟨V1,hW,x1,hN⟩:=zAc w2 #[.int .i64 at_,.bool s2,.slice A2 l2 c2,.bool s2r,.slice A2r l2r c2r] 79;rw[←hW];clear hW;obtain⟨v1,hb1⟩:=ze w2.heap.size;rw[←hb1] at x1 ⊢;have o0_1:w.heap.size<v1:=zi (zxb HX0 Bz).lt;have ow_1:w.heap.size≤v1:=zi (zw hB Bz);have nv1_own:=OwnR.off' (b:=v1) ho zo;replace h2:=h2.below hN;replace hon:=hon.below hN;replace ho:=ho.below hN;replace hB:=bT (bT hB Bz) hN;replace HX0:=zba HX0 Bz hN;have HX1:=zh x1;clear x1 hN Bz hb1;have Bz:=zr V1;have hdr:V1.drew.heap.size=V1.heap.size:=rfl;have hdr2:V1.drew.drew.heap.size=V1.heap.size:=rfl;refine Elt.app elt_vec rfl _ _ rfl (B) (.slice H k hc) (k) (O) rfl ho (.slice (some ⟨v1,0,none⟩) 1 1) (1) ([⟨at_,⟨s2,A2,c2,l2,s2r,A2r,c2r,l2r,q,true⟩⟩]) rfl (From.one (HX1.out.below (bT Bz)) (⟨at_,⟨s2,A2,c2,l2,s2r,A2r,c2r,l2r,q,true⟩⟩) rfl (elt_vec.len _)) zo (by have:=hB.size;have:=Bz.size;have:=hBw;omega) ?_;intro H3 c3 w3 ho3 hg3;have hG:=hg3.after (bT (bT hB Bz)) HLT.out;have hon3:=(OnT.below hon).k hg3.k;have hr3:=(RN.below h2).k hg3.k;clear hB Bz HX0 HX1 hdr hdr2;go_wp2_with fail
  go_ret
  exact⟨H3,k+1,c3,_,rfl,ho3,by rw[prs_append,if_neg HQ0.out];rfl,hon3.snoc hr3 rfl HM.out,hG⟩
theorem filt_snoc {P:List (Int×Rat)} {i:Nat} {x:Int×Rat} (h:P[i]?=some x):(P.take (i+1)).filter (fun x=>decide (x.2≠0))=(P.take i).filter (fun x=>decide (x.2≠0))++(if x.2=0 then [] else [x]):=by
 rw[show P.take (i+1)=P.take i++[x] by rw[List.take_add_one,h];rfl,List.filter_append,List.filter_cons,List.filter_nil];by_cases e:x.2=0
 ·rw[if_pos e,if_neg (by simp[e])]
 ·rw[if_neg e,if_pos (by simp[e])]
open Go.RowKit Tw
theorem sl_box {α:Type} {f:α→List Value} {k:Nat} {w:World} {b n:Nat} {cs:Array Value} {te:TypeId} {L:List α} (hk:∀x,(f x).length=k) (h:Bx w b cs te) (hcs:cs.toList=flat f L) (hl:L.length=n):Sl f k w (some ⟨b,0,none⟩) n n L:=by
 subst hl;refine⟨rfl,by rw[flat_len hk],_,_,rfl,(fun h=>(by cases h)),fun a ha j u hu=>?_⟩;cases ha;rw[add_off,Nat.zero_add];refine h.cell j u ?_;rw[←hcs] at hu;simpa using hu
theorem gv_sz {w:World} {A:Option Addr} {n c M:Nat} {P:List (Int×Rat)} (h:GV w A n c P M) (a:Int):sz (pget P a)≤M+1:=by
 obtain⟨L,_,h2,rfl,h4,_⟩:=h;exact Nat.le_trans (get_sz h2 a) (Nat.add_le_add_right (h4 a) 1)
theorem gv_rows {w:World} {A:Option Addr} {n c M:Nat} {P:List (Int×Rat)} (h:GV w A n c P M):∃L:List Tm,Sl Tm.cs 5 w A n c L∧prs L=P:=by
 obtain⟨L,h1,_,h3,_⟩:=h;exact⟨L,h1,h3⟩
theorem at_prs (L:List Tm):(L.map fun t=>t.at_)=(prs L).map fun x=>x.1:=by
 unfold prs
 rw[List.map_map];rfl
def axP (q:Rat) (P Q:List (Int×Rat)):List (Int×Rat):=P++Q.map fun x=>(x.1,q*x.2)
theorem axP_get (q:Rat) (P Q:List (Int×Rat)) (a:Int):pget (axP q P Q) a=pget P a+q*pget Q a:=by unfold axP;rw[pget_append,pget_scale]
def AX1 (w W:World) (cs:Array Value) (Z:List (Int×Rat)) (k0 MM gk:Nat) (s7 s9:Value) (wr:World):Prop :=
 ∃(i k:Nat) (H:Option Addr) (hc:Nat) (O:List Tm),s7=.slice H k hc∧s9=.int .i64 (i:Int)∧i≤k0∧k0-i=gk∧OwnR wr W.heap.size 79 5 (.slice H k hc) k (flat Tm.cs O)∧prs O=(Z.take i).filter (fun x=>decide (x.2≠0))∧OnT wr O (fun _=>MM)∧Bx wr w.heap.size cs 65∧Below w.heap.size w wr∧Below W.heap.size W wr
theorem sl_two {w:World} {u v:Vc} (h1:Sl Tm.cs 5 w u.A u.n u.c u.L) (h2:Sl Tm.cs 5 w v.A v.n v.c v.L):∀x∈[u,v],Sl Tm.cs 5 w x.A x.n x.c x.L:=fun x hx=>by
 rcases List.mem_cons.1 hx with rfl | hx
 ·exact h1
 ·rcases List.mem_cons.1 hx with rfl | hx
  ·exact h2
  ·cases hx
theorem ax_mem {LX LY:List Tm} {q:Rat} {u v:Vc} (hu:u.L=LX) (hv:v.L=LY):∀x∈axP q (prs LY) (prs LX),x.1∈plcs [u,v]:=fun x hx=>by
 unfold plcs
 rw[List.flatMap_cons,List.flatMap_cons,List.flatMap_nil,List.append_nil,hu,hv,at_prs,at_prs];rcases List.mem_append.1 hx with h | h
 ·exact List.mem_append_right _ (List.mem_map_of_mem (f:=fun x:Int×Rat=>x.1) h)
 ·obtain⟨y,hy,rfl⟩:=List.mem_map.1 h;exact List.mem_append_left _ (List.mem_map.2 ⟨y,hy,rfl⟩)
theorem axpyR_q {w:World} {s s':Bool} {A A':Option Addr} {l c l' c':Nat} {q:Rat} {mq:Nat} {X Y:Option Addr} {n cx m cy M M':Nat} {P Q:List (Int×Rat)} (hy0:GV w Y m cy P M') (ha:R w s A c l s' A' c' l' q mq) (h:GV w X n cx Q M) (hM:M+M'+mq≤880) (hn:n≤100000) (hm:m≤100000) (hT:Hid (Tab w)) :
  Calls Tryz.prog 87 #[.slice Y m cy,.agg #[.bool s,.slice A l c,.bool s',.slice A' l' c'],.slice X n cx] w (TellsV w (nrm (axP q P Q)) (M+M'+mq+5)):=by
 have HGX:=zh h;have HGY:=zh hy0;have HRA:=zh ha;have HZX:=zh (gv_sz h);have HZY:=zh (gv_sz hy0);have hsq:sz q≤mq+1:=zi ha.sz;obtain⟨LX,hx1,hx2⟩:=gv_rows h;obtain⟨LY,hy1,hy2⟩:=gv_rows hy0;have HSX:=zh hx1;have HSY:=zh hy1;have HPX:=zh hx2;have HPY:=zh hy2;obtain⟨SS,hSS⟩:∃SS,SS=plcs [⟨X,n,cx,LX⟩,⟨Y,m,cy,LY⟩]:=⟨_,rfl⟩;have hsl:SS.length=n+m:=by
  rw[hSS];unfold plcs
  rw[List.flatMap_cons,List.flatMap_cons,List.flatMap_nil,List.append_nil,List.length_append,List.length_map,List.length_map];show LX.length+LY.length=n+m
  rw[hx1.1,hy1.1]
 have HPN:Hid ((plcs [⟨X,n,cx,LX⟩,⟨Y,m,cy,LY⟩]).length≤1000000):=zh (by rw[←hSS,hsl];omega);obtain⟨MM,hMM0⟩:∃MM,MM=M+M'+mq+5:=⟨_,rfl⟩;have HRW:Hid (∀x∈axP q P Q,x.1∈plcs [⟨X,n,cx,LX⟩,⟨Y,m,cy,LY⟩]):=zh (by rw[←hx2,←hy2];exact ax_mem rfl rfl);have HSS:=zh hSS;have HPL:Hid ((plcs [⟨X,n,cx,LX⟩,⟨Y,m,cy,LY⟩]).length=n+m):=zh (by rw[←hSS];exact hsl);rw[←hMM0];clear h hy0 ha hx1 hx2 hy1 hy2 hSS hsl SS HSS;obtain⟨W,hW,x0,hB⟩:=zAc w #[.bool s,.slice A l c,.bool s',.slice A' l' c'] 65;have HX0:=zh x0;clear x0;have Bz:=zr W;go_enter Tryz.func87,Tryz.ntmps87
 go_upto_region 2 with(fail)
 rw[←hW];clear hW;go_wp2_with fail
 obtain⟨V1,hW,x1,hN⟩:=zAc W #[.slice X n cx,.slice Y m cy] 74;rw[←hW];clear hW;obtain⟨v1,hb1⟩:=ze W.heap.size;rw[←hb1] at x1 ⊢;have o0_1:w.heap.size<v1:=zi (zxb HX0 Bz).lt;have ow_1:w.heap.size≤v1:=zi (zw hB Bz);replace hB:=bT (bT hB Bz) hN;replace HX0:=zba HX0 Bz hN;have HX1:=zh x1;clear x1 hN Bz hb1;have Bz:=zr V1;with_reducible refine(places_q (sl_box (n:=2) (L:=[⟨X,n,cx,LX⟩,⟨Y,m,cy,LY⟩]) Vc.cs_len (HX1.out.below (bT Bz)) rfl rfl) (zh (sl_two (HSX.out.below (bT hB (bT (b:=V1) Bz))) (HSY.out.below (bT hB (bT (b:=V1) Bz))))) zo HPN).mono ?_
 rintro e w1 ⟨PA0,k0,cp,LP,rfl,h1,hps1,hpk1,hpa1,b1⟩;replace b1:=zq (a:=V1) b1;replace Bz:=bT Bz b1;clear b1;have HPS:=zh hps1;have hk0:=hpk1;have HPA:=zh hpa1;clear hps1 hpk1 hpa1;go_wp2_with fail
 have HB1:=zh (bT hB Bz);have HA1:=zh (zxb HX0 Bz);have HSP:=zh (Sl.below h1 (Below.refl _ _));have HPLN:=zh (h1).1;have HWS:Hid (w.heap.size<w1.heap.size):=zh (zi (zxb HX0 Bz).lt);have hk1:k0≤200000:=zi HPL.out;clear hB Bz HX0 h1 HX1 hk0;go_loopg [7,9] k0 (fun gk s7 s9 wr=>AX1 w w1 #[.bool s,.slice A l c,.bool s',.slice A' l' c'] (atP LP (axP q P Q)) k0 MM gk s7 s9 wr)
 case atStart=>exact⟨0,0,none,0,[],rfl,by go_num,Nat.zero_le _,rfl,OwnR.nil _ _ _ _,rfl,OnT.nil _ _,HA1.out.below (by go_grown),bT HB1.out,Below.refl _ _⟩
 case round =>
  clear HA1;have hWs:w.heap.size<w1.heap.size:=HWS.out;clear HB1;obtain⟨i,k,H,hc,O,rfl,rfl,hi,hgk,ho,hp,hon,hx0,hB,hBW⟩:=hrel;have HGK:=zh hgk;have HP:=zh hp;have HX0:=zh hx0;have hki:k≤i:=by
   have h1:=congrArg List.length hp;rw[prs_len,ho.eltn elt_vec zo] at h1;have h2:=List.length_filter_le (fun x:Int×Rat=>decide (x.2≠0)) ((atP LP (axP q P Q)).take i);rw[List.length_take] at h2;omega
  clear hgk hp hx0;by_cases hlt:i<k0
  ·obtain⟨bp,op_,rfl,hel⟩:=HSP.out.at ics_len zo zo;obtain⟨a,ha⟩:∃a,LP[i]?=some a:=⟨LP[i]'(by rw[HPLN.out];exact hlt),List.getElem?_eq_getElem _⟩;have hnd:ElA w1 bp (op_+i) (ics a):=by have:=hel i a ha;rwa [Nat.mul_one] at this
   have HFS:Hid (((atP LP (axP q P Q)).take i).filter (fun x=>decide (x.2≠0))++(if pget P a+q*pget Q a=0 then [] else [(a,pget P a+q*pget Q a)])=((atP LP (axP q P Q)).take (i+1)).filter (fun x=>decide (x.2≠0))):=zh (by rw[filt_snoc (atP_at ha (axP q P Q)),axP_get]);have hgx:=HGX.out.below hB;have hgy:=HGY.out.below hB;have hra:=HRA.out.below hB;have i1:(i:Int)<(k0:Int):=zo;have i2:(0:Int)≤(i:Int):=zo;clear hel ha;have Bz:=zr wr;obtain⟨pa0,pa1,pa2,pa3,-⟩:=(zxb HX0 Bz).cz;have pA0:=(hnd.below (bT hBW Bz)).c0 (u:=.int .i64 a) rfl;go_wp2_with fail
   (try simp only[vAa,vB,vC])
   refine zl (zz [0,1,2,3,4,5,6,7,8,9,11,12,13,14,15,16] (.only 10 (.only 17 (.only 18 (.only 19 (.only 20 (.take 21 .done))))))) [] (zsa pa0 (zsa pa1 (zsa pa2 (zsa pa3 (zI pA0))))) ?_;iterate 16 (refine zU ?_;try simp only[uW,uX,uY,uZ])
   refine zC 30 rfl rfl (fun K hK=>?_);go_simp
   with_reducible refine(getR_q a (GV.below hgy) zo zo).mono ?_
   rintro e w11 ⟨s11,A11,c11,l11,s11r,A11r,c11r,l11r,rfl,h11,b11⟩;replace b11:=zq (a:=wr) b11;replace hgx:=hgx.below b11;replace hon:=hon.below b11;replace ho:=ho.below b11;replace hra:=hra.below b11;replace Bz:=bT Bz b11;clear b11;have z11:=HZY.out a;clear pa0 pa1 pa2 pa3 pA0;obtain⟨pa0,pa1,pa2,pa3,-⟩:=(zxb HX0 Bz).cz;have pA0:=(hnd.below (bT hBW Bz)).c0 (u:=.int .i64 a) rfl;refine hK.out _ _ ⟨pa0,pa1,pa2,pa3,pA0⟩ (fun _=>?_);try simp only[uW,uX,uY,uZ]
   clear hK K;refine zC 37 rfl rfl (fun K hK=>?_);go_simp
   with_reducible refine(getR_q a (GV.below hgx) zo zo).mono ?_
   rintro e w12 ⟨s12,A12,c12,l12,s12r,A12r,c12r,l12r,rfl,h12,b12⟩;replace b12:=zq (a:=w11) b12;replace h11:=h11.below b12;replace hon:=hon.below b12;replace ho:=ho.below b12;replace hra:=hra.below b12;replace Bz:=bT Bz b12;clear b12;have z12:=HZX.out a;clear pa0 pa1 pa2 pa3 pA0;obtain⟨pa0,pa1,pa2,pa3,-⟩:=(zxb HX0 Bz).cz;have pA0:=(hnd.below (bT hBW Bz)).c0 (u:=.int .i64 a) rfl;refine hK.out _ _ ⟨pa0,pa1,pa2,pa3,pA0⟩ (fun _=>?_);try simp only[uW,uX,uY,uZ]
   clear hK K;refine zC 38 rfl rfl (fun K hK=>?_);go_simp
   with_reducible refine(mul_r4 (R.below hra) (R.below h12.r) zo).mono ?_
   rintro e w13 ⟨s13,A13,c13,l13,s13r,A13r,c13r,l13r,rfl,h13,b13⟩;replace b13:=zq (a:=w12) b13;replace h11:=h11.below b13;replace hon:=hon.below b13;replace ho:=ho.below b13;replace Bz:=bT Bz b13;clear b13;have z13:=sz_mul hsq z12;clear pa0 pa1 pa2 pa3 pA0;obtain⟨pa0,pa1,pa2,pa3,-⟩:=(zxb HX0 Bz).cz;have pA0:=(hnd.below (bT hBW Bz)).c0 (u:=.int .i64 a) rfl;refine hK.out _ _ ⟨pa0,pa1,pa2,pa3,pA0⟩ (fun _=>?_);try simp only[uW,uX,uY,uZ]
   clear hK K;refine zC 39 rfl rfl (fun K hK=>?_);go_simp
   with_reducible refine(add_r4 (R.below h11.r) (R.below h13.r) zo).mono ?_
   rintro e w14 ⟨s14,A14,c14,l14,s14r,A14r,c14r,l14r,rfl,h14,b14⟩;replace b14:=zq (a:=w13) b14;replace hon:=hon.below b14;replace ho:=ho.below b14;replace Bz:=bT Bz b14;clear b14;have z14:=sz_add z11 z13;clear pa0 pa1 pa2 pa3 pA0;obtain⟨pa0,pa1,pa2,pa3,-⟩:=(zxb HX0 Bz).cz;have pA0:=(hnd.below (bT hBW Bz)).c0 (u:=.int .i64 a) rfl;refine hK.out _ _ ⟨pa0,pa1,pa2,pa3,pA0⟩ (fun _=>?_);try simp only[uW,uX,uY,uZ]
   clear hK K;refine zC 40 rfl rfl (fun K hK=>?_);go_simp
   have hlt0:=OwnR.lt ho;have hMM:sz (pget P a+q*pget Q a)+1≤MM:=zo;with_reducible refine(put_q a (OwnR.below ho) (zj hBW.size Bz.size) (OnT.below hon) (R.below h14.r) zo hMM zo (zh (hT.out.below (bT hB (bT (b:=w14) Bz))))).mono ?_
   rintro e w15 ⟨H15,k15,c15,O15,rfl,ho15,hp15,hon15,hg15⟩;replace hg15:=Grew.after (w:=w14) hg15 (by go_grown) hlt0;clear hlt0;replace hB:=(bT hB Bz).trans (hg15.below (by have:=hB.size;have:=Bz.size;have:=hB.size;omega) (fun g hg=>by have:=ho.base g hg;have:=hB.size;have:=Bz.size;omega));replace hBW:=(bT hBW Bz).trans (hg15.below (by have:=hB.size;have:=Bz.size;have:=hBW.size;omega) (fun g hg=>by have:=ho.base g hg;have:=hB.size;have:=Bz.size;omega));replace HX0:=zh (hg15.bx (zxb HX0 Bz) (ho.off zo));clear hg15 Bz;have Bz:=zr w15;clear pa0 pa1 pa2 pa3 pA0;obtain⟨pa0,pa1,pa2,pa3,-⟩:=(zxb HX0 Bz).cz;have pA0:=(hnd.below (bT hBW Bz)).c0 (u:=.int .i64 a) rfl;refine hK.out _ _ ⟨pa0,pa1,pa2,pa3,pA0⟩ (fun _=>?_);try simp only[uW,uX,uY,uZ]
   clear hK K;refine zU ?_;try simp only[uW,uX,uY,uZ]
   refine wpPlan_done ?_;go_wp2_with fail
   go_roundg (k0-(i+1))
   case measure=>have:=HGK.out;omega
   case rel=>exact⟨i+1,k15,H15,c15,O15,rfl,by go_num,zo,rfl,OwnR.below ho15,by rw[hp15,HP.out,HFS.out],OnT.below hon15,HX0.out.below (bT Bz),bT (bT hB Bz),bT (bT hBW Bz)⟩
  ·obtain rfl:i=k0:=zo;have i1:¬(i:Int)<(i:Int):=zo;have HNV:Hid (NV wr H k hc (nrm (axP q P Q)) MM):=zh ⟨O,ho.sl' elt_vec (ho.eltn elt_vec zo),hon,by
    rw[HP.out,List.take_of_length_le (by rw[atP_len,HPLN.out];exact Nat.le_refl _),atP_nrm HPS.out HRW.out],fun e=>by
    obtain⟨_,_,e9,h9,_⟩:=ho.slice;cases e9;exact(h9 e).2⟩
   clear ho hon HX0;go_wp2_with fail
   go_ret
   exact⟨H,k,hc,rfl,by rw[←hMM0];exact HNV.out,hB⟩
theorem gv_none (w:World) (M:Nat):GV w none 0 0 [] M:=⟨[],Sl.nil _,(fun t ht=>by cases ht),rfl,fun _=>Nat.zero_le _,fun _=>rfl⟩
theorem r_none (w:World):R w false none 0 0 false none 0 0 0 1:=(RN.zero w).r' sz_zero
theorem ax_nil (P:List (Int×Rat)):nrm (axP 0 P [])=nrm P:=by unfold axP;rw[List.map_nil,List.append_nil]
theorem normR_q {w:World} {X:Option Addr} {n cx M:Nat} {P:List (Int×Rat)} (hx:GV w X n cx P M) (hM:M≤870) (hn:n≤100000) (hT:Hid (Tab w)) :
  Calls Tryz.prog 62 #[.slice X n cx] w (TellsV w (nrm P) (M+6)):=by
 have hB:=Below.refl w.heap.size w;have Bz:=zr w;go_enter Tryz.func62,Tryz.ntmps62
 go_wp2_with fail
 with_reducible refine(axpyR_q (GV.below hx) (r_none _) (gv_none _ 0) zo zo hn (zt hT hB Bz)).mono ?_
 rintro e w1 ⟨A1,n1,c1,rfl,h1,b1⟩;replace b1:=zq (a:=w) b1;replace Bz:=bT Bz b1;clear b1;go_wp2_with fail
 go_ret
 have hF:=bT (c:=w1) hB Bz;exact⟨_,_,_,rfl,by rw[←ax_nil];exact(NV.below h1).mono zo,bT hF⟩
open Go.RowKit Tw
theorem elt_frs:Elt Fr.cs 4 25 65:=Elt.of (.agg #[.bool false,.slice none 0 0,.bool false,.slice none 0 0]) 64 Tryz.underlying25 (by kernel_rfl) zo (by kernel_rfl) (nou_list (by kernel_rfl)) Fr.cs_len
 (fun x u hu=>by simp[Fr.cs] at hu;rcases hu with rfl | rfl | rfl | rfl<;>rfl) (fun x u hu n=>by simp[Fr.cs] at hu;rcases hu with rfl | rfl | rfl | rfl<;>simp)
def AllFr (w:World) (K:Nat) (L:List Fr):Prop:=∀x∈L,FrOk w K x
theorem AllFr.below {w w':World} {K:Nat} {L:List Fr} (h:AllFr w K L) (hb:Below w.heap.size w w':=by go_grown):AllFr w' K L:=fun x hx=>(h x hx).below hb
theorem AllFr.k {w w':World} {K:Nat} {L:List Fr} (h:AllFr w K L) (hb:K64 w w'):AllFr w' K L:=fun x hx=>(h x hx).k hb
theorem AllFr.set {w:World} {K:Nat} {L:List Fr} (h:AllFr w K L) (i:Nat) {x:Fr} (hx:FrOk w K x):AllFr w K (L.set i x):=fun y hy=>by
 rcases List.mem_or_eq_of_mem_set hy with hy | rfl
 ·exact h y hy
 ·exact hx
open Go.RowKit Tw
def AllRn (w:World) (K:Nat) (L:List Fr):Prop:=∀x∈L,RN w x.s x.A x.c x.l x.s' x.A' x.c' x.l' x.q∧x.ex=true∧sz x.q+1≤K
theorem AllRn.below {w w':World} {K:Nat} {L:List Fr} (h:AllRn w K L) (hb:Below w.heap.size w w':=by go_grown):AllRn w' K L:=fun x hx=>⟨(h x hx).1.below hb,(h x hx).2⟩
theorem AllRn.k {w w':World} {K:Nat} {L:List Fr} (h:AllRn w K L) (hb:K64 w w'):AllRn w' K L:=fun x hx=>⟨(h x hx).1.k hb,(h x hx).2⟩
theorem AllRn.set {w:World} {K:Nat} {L:List Fr} (h:AllRn w K L) (i:Nat) {x:Fr} (hx:RN w x.s x.A x.c x.l x.s' x.A' x.c' x.l' x.q∧x.ex=true∧sz x.q+1≤K):AllRn w K (L.set i x):=fun y hy=>by
 rcases List.mem_or_eq_of_mem_set hy with hy | rfl
 ·exact h y hy
 ·exact hx
theorem AllRn.put {w:World} {K:Nat} {s s':Bool} {A A':Option Addr} {c l c' l':Nat} {q:Rat} (h:RN w s A c l s' A' c' l' q) (hs:sz q+1≤K):RN w s A c l s' A' c' l' q∧true=true∧sz q+1≤K:=⟨h,rfl,hs⟩
def denseF (P:List (Int×Rat)) (m:Nat):List Rat:=(List.range m).map fun(i:Nat)=>pget P (i:Int)
def DnsE (D:List Fr) (T:List Tm):Prop:=∀(i:Nat) y,D[i]?=some y→y.q=pget (prs T) (i:Int)
theorem dns_get {T:List Tm} {j:Nat} {x:Tm} (hx:T[j]?=some x) (a:Int):pget (prs (T.take (j+1))) a=pget (prs (T.take j)) a+if x.at_=a then x.x.q else 0:=by
 rw[take_snoc hx,prs_append,pget_append];congr 1
 exact pget_one (x.at_,x.x.q) a
theorem DnsE.skip {D:List Fr} {T:List Tm} {j:Nat} {x:Tm} (h:DnsE D (T.take j)) (hx:T[j]?=some x) (ho:x.at_<0∨(D.length:Int)≤x.at_):DnsE D (T.take (j+1)):=fun i y hy=>by
 have hi:=(List.getElem?_eq_some_iff.1 hy).1;rw[dns_get hx,if_neg zo,Rat.add_zero];exact h i y hy
theorem DnsE.step {D:List Fr} {T:List Tm} {j a:Nat} {x:Tm} {y:Fr} (h:DnsE D (T.take j)) (hr:Rise (prs T)) (hx:T[j]?=some x) (ha:x.at_=(a:Int)) (hy:D[a]?=some y) (r:Fr) (hq:r.q=x.x.q):DnsE (D.set a r) (T.take (j+1)):=fun i z hz=>by
 have hal:=(List.getElem?_eq_some_iff.1 hy).1;by_cases e:i=a
 ·subst e;rw[List.getElem?_set_self hal,Option.some.injEq] at hz;subst hz;have h2:Rise (prs (T.take (j+1))):=by rw[←prs_take];exact List.Pairwise.sublist (List.take_sublist _ _) hr
  have h3:(x.at_,x.x.q)∈prs (T.take (j+1)):=by rw[take_snoc hx,prs_append];exact List.mem_append_right _ (List.mem_singleton.2 rfl)
  rw[←ha,h2.get h3,hq]
 ·rw[List.getElem?_set_ne (fun e2=>e e2.symm)] at hz;rw[dns_get hx,if_neg zo,Rat.add_zero];exact h i z hz
theorem DnsE.done {D:List Fr} {T:List Tm} {m:Nat} (h:DnsE D T) (hl:D.length=m):D.map (fun x=>x.q)=denseF (prs T) m:=by
 apply List.ext_getElem?
 intro i;unfold denseF
 rw[List.getElem?_map,List.getElem?_map];by_cases hi:i<m
 ·rw[List.getElem?_range hi,List.getElem?_eq_getElem zo];simp only[Option.map_some]
  rw[h i _ (List.getElem?_eq_getElem zo)]
 ·rw[List.getElem?_eq_none zo,List.getElem?_eq_none (by rw[List.length_range];omega)];rfl
end Go.Proofs.YtidjjejgbahcgaaGreatDoor
