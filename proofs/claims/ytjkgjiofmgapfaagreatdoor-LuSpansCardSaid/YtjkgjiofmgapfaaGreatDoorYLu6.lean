/-
  lu.less, lu.spread. Written by wip/gen/lu6.py.
-/
import Derived.Test.YtjkgjiofmgapfaaGreatDoorYLu4
set_option maxHeartbeats 8000000
set_option maxRecDepth 100000
namespace Go.Proofs.YtjkgjiofmgapfaaGreatDoor
open Go.RowKit Tw
def qs (D:List Fr):List Rat:=D.map fun x=>x.q
def numF (L:List Rat) (a:Int):Rat:=if 0≤a then L.getD a.toNat 0 else 0
theorem numF_at {D:List Fr} {a:Int} {y:Fr} (h:0≤a) (hy:D[a.toNat]?=some y):numF (qs D) a=y.q:=by
 unfold numF qs
 rw[if_pos h,List.getD_eq_getElem?_getD,List.getElem?_map,hy];rfl
theorem AllRn.mono {w:World} {K K':Nat} {L:List Fr} (h:AllRn w K L) (hK:K≤K'):AllRn w K' L:=fun x hx=>⟨(h x hx).1,(h x hx).2.1,by have:=(h x hx).2.2;omega⟩
theorem ev_snoc {T:List Tm} {i:Nat} {x:Tm} (h:T[i]?=some x) (f:Int→Rat):ev (prs (T.take (i+1))) f=ev (prs (T.take i)) f+x.x.q*f x.at_:=by
 rw[take_snoc h,zAg,ev_append];show _+(x.x.q*f x.at_+0)=_
 rw[Rat.add_zero]
def LS1 (w:World) (q:Rat) (T:List Tm) (f:Int→Rat) (n S K gk:Nat) (x:Value) (wr:World):Prop :=
 ∃(i:Nat) (sS:Bool) (sA:Option Addr) (sc sl:Nat) (sS':Bool) (sA':Option Addr) (sc' sl':Nat),i≤n∧n-i=gk∧x=.int .i64 (i:Int)∧RN wr sS sA sc sl sS' sA' sc' sl' (q-ev (prs (T.take i)) f)∧sz (q-ev (prs (T.take i)) f)+1≤S+i*K∧
  Bx wr w.heap.size #[.bool sS,.slice sA sl sc,.bool sS',.slice sA' sl' sc'] 33∧Bx wr (w.heap.size+1) #[.bool false,.slice none 0 0,.bool false,.slice none 0 0] 33∧Below w.heap.size w wr
def TellsNm (w:World) (q:Rat) (K:Nat) (e:Ending) (w':World):Prop:=∃s A c l s' A' c' l',e=.returned (.agg #[.bool s,.slice A l c,.bool s',.slice A' l' c'])∧RN w' s A c l s' A' c' l' q∧sz q+1≤K∧Below w.heap.size w w'
theorem lessL_q {w:World} {s s':Bool} {A A':Option Addr} {c l c' l':Nat} {q:Rat} {S K KX KB:Nat} {X BA:Option Addr} {n cx bn bc:Nat} {v:Vc} {BL:List Fr} (ha:RN w s A c l s' A' c' l' q) (hS:sz q+1≤S) (hv:v.A=X∧v.n=n∧v.c=cx) (h:CN w v K) (hb:Sl Fr.cs 4 w BA bn bc BL) (hbf:Hid (AllRn w KB BL)) (hbx:Hid (∀t∈prs v.L,∀y,BL[t.1.toNat]?=some y→sz y.q+1≤KX))
  (hin:Hid (∀t∈prs v.L,0≤t.1∧t.1<(bn:Int))) (hn:n≤1000) (hbn:bn≤1000) (hD:S+n*(K+KX)≤35000000000) (hT:Hid (Tab w)) :
  Calls Tryz.prog 88 #[.agg #[.bool s,.slice A l c,.bool s',.slice A' l' c'],.slice X n cx,.slice BA bn bc] w (TellsNm w (q-ev (prs v.L) (numF (qs BL))) (S+n*(K+KX))):=by
 obtain⟨VA,vn,vc,T⟩:=v;obtain⟨rfl,rfl,rfl⟩:=hv;obtain⟨h1,h2,h3⟩:=h;simp only at h1 h2 h3 hn hD hbx ⊢
 have HS:=zh h1;have HLN:=zh h1.1;have HON:=zh h2;have HB:=zh hb;have HLB:=zh hb.1;obtain⟨f,hf⟩:∃f,f=numF (qs BL):=⟨_,rfl⟩;have HF:=zh hf;rw[←hf];obtain⟨KK,hKK⟩:∃k,k=K+KX:=⟨_,rfl⟩;rw[←hKK] at hD ⊢;have HQ0:Hid (q-ev (prs (T.take 0)) f=q):=zh (by rw[List.take_zero];show q-0=q;grind);clear h1 h2 h3 hb hf;obtain⟨W,hW,x0,x1,hB⟩:=boxes2 w #[.bool s,.slice A l c,.bool s',.slice A' l' c'] 33 #[.bool false,.slice none 0 0,.bool false,.slice none 0 0] 33;replace ha:=ha.below hB;have HX0:=zh x0;have HX1:=zh x1;clear x0 x1;have Bz:=zr W;go_enter Tryz.func88,Tryz.ntmps88
 go_wp2_with fail
 rw[←hW];clear hW;go_wp2_with fail
 have HB1:=zh (bT hB Bz);have XX0:=zh (zx HX0 Bz);have XX1:=zh (zx HX1 Bz);have HA1:=zh ha;clear hB Bz HX0 HX1 ha;go_loopg [11] vn (fun gk x wr=>LS1 w q T f vn S KK gk x wr)
 case atStart=>exact⟨0,_,_,_,_,_,_,_,_,Nat.zero_le _,rfl,rfl,by rw[HQ0.out];exact HA1.out.below (by go_grown),by rw[HQ0.out];omega,XX0.out.below (by go_grown),XX1.out.below (by go_grown),bT HB1.out⟩
 case round =>
  clear HA1 XX0 XX1 HB1 HQ0;obtain⟨i,sS,sA,sc,sl,sS',sA',sc',sl',hi,hgk,rfl,ha,hsz,hx0,hx1,hB⟩:=hrel;have HGK:=zh hgk;have HX0:=zh hx0;have HX1:=zh hx1;clear hgk hx0 hx1;by_cases hlt:i<vn
  ·obtain⟨eb,eo,rfl,hel⟩:=HS.out.at Tm.cs_len zo zo;obtain⟨x,hx⟩:∃x,T[i]?=some x:=⟨T[i]'(by rw[HLN.out];exact hlt),List.getElem?_eq_getElem _⟩;have hnd:=hel i x hx;have hxm:=List.mem_of_getElem? hx;have hxr:0≤x.at_∧x.at_<(bn:Int):=hin.out (x.at_,x.x.q) (List.mem_map.2 ⟨x,hxm,rfl⟩);obtain⟨bb,bo,rfl,helb⟩:=HB.out.at Fr.cs_len zo zo;obtain⟨y,hy⟩:∃y,BL[x.at_.toNat]?=some y:=⟨BL[x.at_.toNat]'(by rw[HLB.out];omega),List.getElem?_eq_getElem _⟩;have hnd2:=helb _ y hy;have hxo:=HON.out x hxm;have hyo:=hbf.out y (List.mem_of_getElem? hy);have hsy:sz y.q+1≤KX:=hbx.out (x.at_,x.x.q) (List.mem_map.2 ⟨x,hxm,rfl⟩) y hy;have hrx:=hxo.1.below hB;have hry:=hyo.1.below hB;have hsx:sz x.x.q+1≤K:=hxo.2.2;have hsm:sz (x.x.q*y.q)≤(K-1)+(KX-1):=sz_mul zo zo;have hfy:f x.at_=y.q:=by rw[HF.out];exact numF_at hxr.1 hy
   have hev:=ev_snoc hx f;rw[hfy] at hev;have hqq:q-ev (prs (T.take i)) f-x.x.q*y.q=q-ev (prs (T.take (i+1))) f:=by rw[hev];grind
   have HEV:=zh hqq;have hiK:(i+1)*KK=i*KK+KK:=by rw[Nat.add_mul,Nat.one_mul]
   have hnK:(i+1)*KK≤vn*KK:=Nat.mul_le_mul_right _ hlt;have HSZ:Hid (sz (q-ev (prs (T.take (i+1))) f)+1≤S+(i+1)*KK):=zh (by
    rw[←hqq];have:=sz_sub (Nat.le_refl (sz (q-ev (prs (T.take i)) f))) hsm;omega)
   have i1:(i:Int)<(vn:Int):=zo;have i2:(0:Int)≤(i:Int):=zo;have j2:0≤x.at_:=hxr.1;have j3:x.at_<(bn:Int):=hxr.2;clear hel hx hxm hxr helb hy hxo hyo hfy hev hqq;have Bz:=zr wr;obtain⟨pA0,pA1,pA2,pA3,pA4,-⟩:=(hnd.below (bT hB Bz)).ez;go_upto_region 4 with(fail)
   obtain⟨V11,hW,x2,hN⟩:=zAd wr #[.int .i64 x.at_,.bool x.x.s,.slice x.x.A x.x.l x.x.c,.bool x.x.s',.slice x.x.A' x.x.l' x.x.c'] 71;rw[←hW];clear hW;obtain⟨v2,hb2⟩:=ze wr.heap.size;rw[←hb2] at x2 ⊢;have o0_2:w.heap.size<v2:=zi (zx HX0 Bz).lt;have o1_2:(w.heap.size+1)<v2:=zi (zx HX1 Bz).lt;have ow_2:w.heap.size≤v2:=zi (zw hB Bz);replace ha:=ha.below hN;replace hrx:=hrx.below hN;replace hry:=hry.below hN;replace hB:=bT (bT hB Bz) hN;replace HX0:=zba HX0 Bz hN;replace HX1:=zba HX1 Bz hN;have HX2:=zh x2;clear x2 hN Bz hb2;have Bz:=zr V11;clear pA0 pA1 pA2 pA3 pA4;obtain⟨pa0,pa1,pa2,pa3,-⟩:=(zx HX0 Bz).cz;have fa0:=(zx HX0 Bz).frozen 0;have fa1:=(zx HX0 Bz).frozen 1;have fa2:=(zx HX0 Bz).frozen 2;have fa3:=(zx HX0 Bz).frozen 3;have y0:=(zx HX0 Bz).lt;obtain⟨pc0,pc1,pc2,pc3,pc4,-⟩:=(zx HX2 Bz).cz;have pB0:=(hnd2.below (bT hB Bz)).c0 (u:=.bool y.s) rfl;have pB1:=(hnd2.below (bT hB Bz)).at 1 (.slice y.A y.l y.c) rfl;have pB2:=(hnd2.below (bT hB Bz)).at 2 (.bool y.s') rfl;have pB3:=(hnd2.below (bT hB Bz)).at 3 (.slice y.A' y.l' y.c') rfl;go_wp2_with fail
   (try simp only[vA,vBa,vC])
   refine zl (.take 0 (.pure 1 (.take 2 (.pure 3 (.pure 4 (.take 5 (.pure 6 (.take 7 (.only 8 (.only 9 (.only 10 .done))))))))))) [10] (zsa pa0 (zsa pa1 (zsa pa2 (zsa pa3 (zsa pc0 (zsa pc1 (zsa pc2 (zsa pc3 (zsa pc4 (zsa pB0 (zsa pB1 (zsa pB2 (zIa pB3))))))))))))) ?_;refine zUa ?_;try simp only[uW,uX,uY,uZ]
   refine zV ?_;try simp only[uW,uX,uY,uZ]
   refine zUa ?_;try simp only[uW,uX,uY,uZ]
   iterate 2 (refine zV ?_;try simp only[uW,uX,uY,uZ])
   refine zUa ?_;try simp only[uW,uX,uY,uZ]
   refine zV ?_;try simp only[uW,uX,uY,uZ]
   refine zUa ?_;try simp only[uW,uX,uY,uZ]
   refine zC 23 rfl rfl (fun K hK=>?_);go_simp
   with_reducible refine(mul_q (R.below hrx.r) (R.below hry.r) zo (zt hT hB Bz)).mono ?_
   rintro e w11 ⟨s11,A11,c11,l11,s11r,A11r,c11r,l11r,rfl,h11,b11⟩;replace b11:=zq (a:=V11) b11;replace ha:=ha.below b11;replace Bz:=bT Bz b11;clear b11;clear pa0 pa1 pa2 pa3 fa0 fa1 fa2 fa3 y0 pc0 pc1 pc2 pc3 pc4 pB0 pB1 pB2 pB3;obtain⟨pa0,pa1,pa2,pa3,-⟩:=(zx HX0 Bz).cz;have fa0:=(zx HX0 Bz).frozen 0;have fa1:=(zx HX0 Bz).frozen 1;have fa2:=(zx HX0 Bz).frozen 2;have fa3:=(zx HX0 Bz).frozen 3;have y0:=(zx HX0 Bz).lt;obtain⟨pc0,pc1,pc2,pc3,pc4,-⟩:=(zx HX2 Bz).cz;have pB0:=(hnd2.below (bT hB Bz)).c0 (u:=.bool y.s) rfl;have pB1:=(hnd2.below (bT hB Bz)).at 1 (.slice y.A y.l y.c) rfl;have pB2:=(hnd2.below (bT hB Bz)).at 2 (.bool y.s') rfl;have pB3:=(hnd2.below (bT hB Bz)).at 3 (.slice y.A' y.l' y.c') rfl;refine hK.out _ _ ⟨pa0,pa1,pa2,pa3,pc0,pc1,pc2,pc3,pc4,pB0,pB1,pB2,pB3⟩ (fun _=>?_);try simp only[uW,uX,uY,uZ]
   clear hK K;refine zC 24 rfl rfl (fun K hK=>?_);go_simp
   with_reducible refine(sub_q (R.below ha.r) (R.below h11.r) zo (zt hT hB Bz)).mono ?_
   rintro e w12 ⟨s12,A12,c12,l12,s12r,A12r,c12r,l12r,rfl,h12,b12⟩;replace b12:=zq (a:=w11) b12;replace Bz:=bT Bz b12;clear b12;clear pa0 pa1 pa2 pa3 fa0 fa1 fa2 fa3 y0 pc0 pc1 pc2 pc3 pc4 pB0 pB1 pB2 pB3;obtain⟨pa0,pa1,pa2,pa3,-⟩:=(zx HX0 Bz).cz;have fa0:=(zx HX0 Bz).frozen 0;have fa1:=(zx HX0 Bz).frozen 1;have fa2:=(zx HX0 Bz).frozen 2;have fa3:=(zx HX0 Bz).frozen 3;have y0:=(zx HX0 Bz).lt;obtain⟨pc0,pc1,pc2,pc3,pc4,-⟩:=(zx HX2 Bz).cz;have pB0:=(hnd2.below (bT hB Bz)).c0 (u:=.bool y.s) rfl;have pB1:=(hnd2.below (bT hB Bz)).at 1 (.slice y.A y.l y.c) rfl;have pB2:=(hnd2.below (bT hB Bz)).at 2 (.bool y.s') rfl;have pB3:=(hnd2.below (bT hB Bz)).at 3 (.slice y.A' y.l' y.c') rfl;refine hK.out _ _ ⟨pa0,pa1,pa2,pa3,pc0,pc1,pc2,pc3,pc4,pB0,pB1,pB2,pB3⟩ (fun _=>?_);try simp only[uW,uX,uY,uZ]
   clear hK K;refine zAc (o:=⟨none,_,_,_,_,_⟩) rfl rfl zd (fun K hK=>?_);go_simp
   refine hK.out _ _ ?_;try simp only[Act.put,uX,uY,uZ]
   clear hK K;refine zAa ?_;obtain⟨V12,hW,x,kk,far,bel⟩:=store4 (.bool s12) (.slice A12 l12 c12) (.bool s12r) (.slice A12r l12r c12r) (zx HX0 Bz) nofun nofun nofun nofun;rw[←hW];clear hW;replace h12:=h12.k kk;replace hB:=bel w.heap.size w zo (bT hB Bz);replace HX1:=zf far HX1 Bz;replace HX2:=zf far HX2 Bz;replace HX0:=zh x;clear x kk far bel Bz;have Bz:=zr V12;clear pa0 pa1 pa2 pa3 fa0 fa1 fa2 fa3 y0 pc0 pc1 pc2 pc3 pc4 pB0 pB1 pB2 pB3;go_wp2_with fail
   go_roundg (vn-(i+1))
   case measure=>have:=HGK.out;omega
   case rel=>exact⟨i+1,_,_,_,_,_,_,_,_,zo,rfl,by go_num,HEV.out ▸ RN.below h12,HSZ.out,HX0.out.below (bT Bz),HX1.out.below (bT Bz),bT (bT hB Bz)⟩
  ·obtain rfl:vn=i:=zo;have i1:¬(vn:Int)<(vn:Int):=zo;have HEV:Hid (q-ev (prs (T.take vn)) f=q-ev (prs T) f):=zh (by rw[List.take_of_length_le (by rw[HLN.out];exact Nat.le_refl _)]);have HSZ:Hid (sz (q-ev (prs T) f)+1≤S+vn*KK):=zh (by rw[←HEV.out];exact hsz);clear hsz;have Bz:=zr wr;obtain⟨pa0,pa1,pa2,pa3,-⟩:=(zx HX0 Bz).cz;obtain⟨pb0,pb1,pb2,pb3,-⟩:=(zx HX1 Bz).cz;have fb0:=(zx HX1 Bz).frozen 0;have fb1:=(zx HX1 Bz).frozen 1;have fb2:=(zx HX1 Bz).frozen 2;have fb3:=(zx HX1 Bz).frozen 3;have y1:=(zx HX1 Bz).lt;go_wp2_with fail
   (try simp only[Exit.inBlock,Exit.then])
   refine bodyPost_ret (by simp[results,Tryz.results88,go_sem,pb0,pb1,pb2,pb3];try rfl) rfl ?_;obtain⟨V21,hW,x,kk,far,bel⟩:=store4 (.bool sS) (.slice sA sl sc) (.bool sS') (.slice sA' sl' sc') (zx HX1 Bz) nofun nofun nofun nofun;rw[←hW];clear hW;replace ha:=ha.k kk;replace hB:=bel w.heap.size w zo (bT hB Bz);replace HX0:=zf far HX0 Bz;replace HX1:=zh x;clear x kk far bel Bz;have Bz:=zr V21;have hF:=bT (c:=V21) hB Bz;exact⟨_,_,_,_,_,_,_,_,rfl,HEV.out ▸ RN.below ha,hKK ▸ HSZ.out,bT hF⟩
def SprU (D0 D:List Fr) (T:List Tm) (q:Rat):Prop:=D.length=D0.length∧∀(i:Nat) (y:Fr),D0[i]?=some y→∃v,D[i]?=some v∧v.q=y.q-pget (prs T) (i:Int)*q∧((∀t∈T,t.at_≠(i:Int))→v=y)
def TellsSpr (w wc:World) (g bn bc:Nat) (D:List Fr) (P:List (Int×Rat)) (q:Rat) (K:Nat) (e:Ending) (w':World):Prop :=
 e=.returned (.tuple #[])∧∃D',OwnR w' w.heap.size 33 4 (.slice (some ⟨g,0,none⟩) bn bc) bn (flat Fr.cs D')∧D'.length=bn∧AllRn w' K D'∧(∀a:Int,0≤a→a<(bn:Int)→numF (qs D') a=spr (numF (qs D)) P q a)∧KP (fun b=>b=g) wc w'∧Below w.heap.size w w'
def SP1 (w wc:World) (g bn bc vb:Nat) (q:Rat) (cs:Array Value) (s:Bool) (A:Option Addr) (c l:Nat) (s':Bool) (A':Option Addr) (c' l':Nat) (D0:List Fr) (T:List Tm) (n K gk:Nat) (x:Value) (wr:World):Prop :=
 ∃(i:Nat) (D:List Fr),i≤n∧n-i=gk∧x=.int .i64 (i:Int)∧OwnR wr w.heap.size 33 4 (.slice (some ⟨g,0,none⟩) bn bc) bn (flat Fr.cs D)∧AllRn wr K D∧SprU D0 D (T.take i) q∧Bx wr vb cs 33∧RN wr s A c l s' A' c' l' q∧KP (fun b=>b=g) wc wr∧Below w.heap.size w wr
theorem SprU.start (D:List Fr) (q:Rat):SprU D D [] q:=⟨rfl,fun i y hy=>⟨y,hy,by show y.q=y.q-0*q;grind,fun _=>rfl⟩⟩
theorem SprU.step {D0 D:List Fr} {T:List Tm} {q:Rat} {i:Nat} {x:Tm} {y r:Fr} (h:SprU D0 D (T.take i) q) (_hr:Rise (prs T)) (hx:T[i]?=some x) (h0:0≤x.at_) (hy:D[x.at_.toNat]?=some y) (hq:r.q=y.q-x.x.q*q):SprU D0 (D.set x.at_.toNat r) (T.take (i+1)) q:=by
 refine⟨by rw[List.length_set,h.1],fun j u hu=>?_⟩;obtain⟨v,h1,h2,h3⟩:=h.2 j u hu;have hs:pget (prs (T.take (i+1))) (j:Int)=pget (prs (T.take i)) (j:Int)+if x.at_=(j:Int) then x.x.q else 0:=dns_get hx _;by_cases e:x.at_.toNat=j
 ·have e2:x.at_=(j:Int):=zo;subst e;rw[h1] at hy;obtain rfl:=Option.some.inj hy;refine⟨r,List.getElem?_set_self (List.getElem?_eq_some_iff.1 h1).1,?_,fun hn=>?_⟩
  ·rw[hq,h2,hs,if_pos e2];grind
  ·exact absurd e2 (hn x (by rw[take_snoc hx];exact List.mem_append_right _ List.mem_cons_self))
 ·refine⟨v,by rw[List.getElem?_set_ne e];exact h1,?_,fun hn=>h3 fun t ht=>hn t (by rw[take_snoc hx];exact List.mem_append_left _ ht)⟩;rw[h2,hs,if_neg (fun e2=>e zo),Rat.add_zero]
theorem SprU.old {D0 D:List Fr} {T:List Tm} {q:Rat} {i:Nat} {x:Tm} {y:Fr} (h:SprU D0 D (T.take i) q) (hr:Rise (prs T)) (hx:T[i]?=some x) (h0:0≤x.at_) (hy:D0[x.at_.toNat]?=some y):D[x.at_.toNat]?=some y:=by
 obtain⟨v,h1,h2,h3⟩:=h.2 _ y hy;rw[h1,←h3 (fun t ht e=>?_)];have h4:Rise (prs (T.take i++[x])):=by
  rw[←take_snoc hx];unfold prs
  rw[List.map_take];exact List.Pairwise.sublist (List.take_sublist _ _) hr
 rw[zAg] at h4;have h5:=(List.pairwise_append.1 h4).2.2 (t.at_,t.x.q) (List.mem_map.2 ⟨t,ht,rfl⟩) (x.at_,x.x.q) (List.mem_map.2 ⟨x,List.mem_cons_self,rfl⟩);simp only at h5
 omega
theorem SprU.done {D0 D:List Fr} {T:List Tm} {q:Rat} (h:SprU D0 D T q) (a:Int) (ha:0≤a) (ha2:a<(D0.length:Int)):numF (qs D) a=spr (numF (qs D0)) (prs T) q a:=by
 obtain⟨y,hy⟩:∃y,D0[a.toNat]?=some y:=⟨D0[a.toNat]'zo,List.getElem?_eq_getElem _⟩;obtain⟨v,h1,h2,_⟩:=h.2 _ y hy;unfold spr
 rw[numF_at ha h1,numF_at ha hy,h2,Int.toNat_of_nonneg ha]
theorem spread_q {w0 w:World} (h1:Below w0.heap.size w0 w) {s s':Bool} {A A':Option Addr} {c l c' l':Nat} {q:Rat} {K KX KD:Nat} {X:Option Addr} {g n cx bn bc:Nat} {v:Vc} {D:List Fr} (ha:RN w s A c l s' A' c' l' q) (hS:sz q+1≤KX) (hv:v.A=X∧v.n=n∧v.c=cx) (h:CN w v K) (hvg:∀a,v.A=some a→a.block≠g)
  (ho:OwnR w w0.heap.size 33 4 (.slice (some ⟨g,0,none⟩) bn bc) bn (flat Fr.cs D)) (hal:AllRn w KD D) (hr:Hid (Rise (prs v.L))) (hin:Hid (∀t∈prs v.L,0≤t.1∧t.1<(bn:Int))) (hn:n≤1000) (_hbn:bn≤1000) (hD:KD+K+KX≤20000000000) (hT0:Hid (Tab w0)) :
  Calls Tryz.prog 86 #[.slice (some ⟨g,0,none⟩) bn bc,.slice X n cx,.agg #[.bool s,.slice A l c,.bool s',.slice A' l' c']] w (TellsSpr w0 w g bn bc D (prs v.L) q (KD+K+KX)):=by
 obtain⟨VA,vn,vc,T⟩:=v;obtain⟨rfl,rfl,rfl⟩:=hv;obtain⟨h2,h3,h4⟩:=h;simp only at h2 h3 h4 hn hr hin hvg ⊢
 have hT:=zh (Tab.below hT0.out h1);have HS:=zh h2;have HLN:=zh h2.1;have HON:=zh h3;have HVG:=zh hvg;have HLD:=zh (ho.eltn elt_frs zo);have HAD:=zh hal;have hgb:=(ho.base g rfl);have hgl:=(ho.lt g rfl);clear h2 h3 h4 hvg;obtain⟨z,HZ⟩:∃z,Hid (q.num.sign=z):=⟨_,zh rfl⟩;by_cases hz0:q=0
 ·have g3:(z==0)=true:=by rw[←HZ.out,hz0];rfl
  have HZV:Hid (∀a,numF (qs D) a=spr (numF (qs D)) (prs T) q a):=zh (fun a=>by unfold spr;rw[hz0,Rat.mul_zero];grind);clear hz0;obtain⟨W,hW,x0,hB⟩:=zAd w #[.bool s,.slice A l c,.bool s',.slice A' l' c'] 33;replace ha:=ha.below hB;replace hal:=hal.below hB;replace ho:=ho.below hB;have HX0:=zh x0;clear x0;have Bz:=zr W;obtain⟨pa0,pa1,pa2,pa3,-⟩:=(zx HX0 Bz).cz;go_enter Tryz.func86,Tryz.ntmps86
  go_wp2_with fail
  rw[←hW];clear hW;with_reducible refine(sign_q (R.below ha.r) zo z HZ).mono ?_
  rintro e w1 ⟨rfl,b1⟩;replace b1:=zq (a:=W) b1;replace hal:=hal.below b1;replace ho:=ho.below b1;replace Bz:=bT Bz b1;clear b1;clear pa0 pa1 pa2 pa3;go_wp2_with fail
  go_end0
  exact⟨rfl,D,OwnR.below ho,HLD.out,AllRn.mono (AllRn.below hal) zo,(fun a _ _=>HZV.out a),KP.of_below _ (bT (bT hB Bz)),bT h1 (bT (bT hB Bz))⟩
 ·have g3:(z==0)=false:=by
   have:=sign_zero HZ.out;rw[decide_eq_true hz0] at this;simpa [bne] using this
  clear hz0;obtain⟨W,hW,x0,hB⟩:=zAd w #[.bool s,.slice A l c,.bool s',.slice A' l' c'] 33;replace ha:=ha.below hB;replace hal:=hal.below hB;replace ho:=ho.below hB;have HX0:=zh x0;clear x0;have Bz:=zr W;obtain⟨pa0,pa1,pa2,pa3,-⟩:=(zx HX0 Bz).cz;go_enter Tryz.func86,Tryz.ntmps86
  go_wp2_with fail
  rw[←hW];clear hW;go_wp2_with fail
  with_reducible refine(sign_q (R.below ha.r) zo z HZ).mono ?_
  rintro e w1 ⟨rfl,b1⟩;replace b1:=zq (a:=W) b1;replace ha:=ha.below b1;replace hal:=hal.below b1;replace ho:=ho.below b1;replace Bz:=bT Bz b1;clear b1;clear pa0 pa1 pa2 pa3;go_wp2_with fail
  have hvl:=HX0.out.lt;have hvb:=HX0.out;have hvg:w.heap.size≠g:=zo;have hBs:=hB.size;have hW0:=bT h1 (bT hB Bz);have hKP0:=KP.of_below (fun b=>b=g) (bT hB Bz);have HXB:=zh (hvb.below Bz);have HO:=zh ho;have HAL:=zh hal;have HA:=zh ha;have HW0:=zh hW0;have HKP0:=zh hKP0;have hTt:=hT0;clear hT ho hal ha hB Bz HX0 hvb hW0 hKP0;obtain⟨wc,hwc⟩:∃x:World,x=w:=⟨_,rfl⟩;subst hwc;obtain⟨w,hw⟩:∃x:World,x=w0:=⟨_,rfl⟩;subst hw;have hT:=hTt;clear hTt;go_loopg [13] vn (fun gk x wr=>SP1 w wc g bn bc wc.heap.size q #[.bool s,.slice A l c,.bool s',.slice A' l' c'] s A c l s' A' c' l' D T vn (KD+K+KX) gk x wr)
  case atStart=>exact⟨0,D,Nat.zero_le _,rfl,rfl,HO.out.below (by go_grown),(HAL.out.below (by go_grown)).mono zo,SprU.start _ _,HXB.out.below (by go_grown),HA.out.below (by go_grown),HKP0.out.below (by go_grown),bT HW0.out⟩
  case round =>
   clear HXB HO HAL HA HW0 HKP0;obtain⟨i,D1,hi,hgk,rfl,ho,hal,hsu,hx0,ha,hkp,hB⟩:=hrel;have HGK:=zh hgk;have HX0:=zh hx0;have HSU:=zh hsu;clear hgk hx0 hsu;by_cases hlt:i<vn
   ·obtain⟨eb,eo,rfl,hel⟩:=HS.out.at Tm.cs_len zo zo;obtain⟨x,hx⟩:∃x,T[i]?=some x:=⟨T[i]'(by rw[HLN.out];exact hlt),List.getElem?_eq_getElem _⟩;have hnd0:=hel i x hx;have hebg:=HVG.out _ rfl;simp only at hebg
    have hnd:=hkp.ela hnd0 hebg;have hxm:=List.mem_of_getElem? hx;have hxr:0≤x.at_∧x.at_<(bn:Int):=hin.out (x.at_,x.x.q) (List.mem_map.2 ⟨x,hxm,rfl⟩);obtain⟨y,hy0⟩:∃y,D[x.at_.toNat]?=some y:=⟨D[x.at_.toNat]'(by rw[HLD.out];omega),List.getElem?_eq_getElem _⟩;have hy:=HSU.out.old hr.out hx hxr.1 hy0;have HY:=zh hy;have hyo:=HAD.out y (List.mem_of_getElem? hy0);have hxo:=HON.out x hxm;have hrx:=hxo.1.k hkp.k;have hry:=hyo.1.k hkp.k;have hsx:sz x.x.q+1≤K:=hxo.2.2;have hsy:sz y.q+1≤KD:=hyo.2.2;have hsm:sz (x.x.q*q)≤(K-1)+(KX-1):=sz_mul zo zo;have HSZ:Hid (sz (y.q-x.x.q*q)+1≤KD+K+KX):=zh (by
     have:=sz_sub (show sz y.q≤KD-1 by omega) hsm;omega)
    have HS2:Hid (∀r:Fr,r.q=y.q-x.x.q*q→SprU D (D1.set x.at_.toNat r) (T.take (i+1)) q):=zh (fun r e=>HSU.out.step hr.out hx hxr.1 HY.out e);have i1:(i:Int)<(vn:Int):=zo;have i2:(0:Int)≤(i:Int):=zo;have j2:0≤x.at_:=hxr.1;have j3:x.at_<(bn:Int):=hxr.2;clear hel hx hxm hxr hnd0 hy0 hy hyo hxo;have Bz:=zr wr;obtain⟨pA0,pA1,pA2,pA3,pA4,-⟩:=(hnd.below Bz).ez;go_upto_region 5 with(fail)
    obtain⟨V11,hW,x1,hN⟩:=zAd wr #[.int .i64 x.at_,.bool x.x.s,.slice x.x.A x.x.l x.x.c,.bool x.x.s',.slice x.x.A' x.x.l' x.x.c'] 71;rw[←hW];clear hW;obtain⟨v1,hb1⟩:=ze wr.heap.size;rw[←hb1] at x1 ⊢;have o0_1:wc.heap.size<v1:=zi (zx HX0 Bz).lt;have ow_1:w.heap.size≤v1:=zi (zw hB Bz);have nv1_own:=OwnR.off' (b:=v1) ho zo;replace ha:=ha.below hN;replace hal:=hal.below hN;replace hkp:=hkp.below hN;replace ho:=ho.below hN;replace hrx:=hrx.below hN;replace hry:=hry.below hN;replace hB:=bT (bT hB Bz) hN;replace HX0:=zba HX0 Bz hN;have HX1:=zh x1;clear x1 hN Bz hb1;have Bz:=zr V11;clear pA0 pA1 pA2 pA3 pA4;obtain⟨pa0,pa1,pa2,pa3,-⟩:=(zx HX0 Bz).cz;obtain⟨pb0,pb1,pb2,pb3,pb4,-⟩:=(zx HX1 Bz).cz;have pB0:=fr_0 ho HY.out;have pB1:=elt_frs.cell ho HY.out (j:=1) (u:=.slice y.A y.l y.c) zo rfl;have pB2:=elt_frs.cell ho HY.out (j:=2) (u:=.bool y.s') zo rfl;have pB3:=elt_frs.cell ho HY.out (j:=3) (u:=.slice y.A' y.l' y.c') zo rfl;have fB0:=ho.frozen (x.at_.toNat*4);have fB1:=ho.frozen (x.at_.toNat*4+1);have fB2:=ho.frozen (x.at_.toNat*4+2);have fB3:=ho.frozen (x.at_.toNat*4+3);have y51:=ho.blk.1;go_wp2_with fail
    (try simp only[vA,vBa,vC])
    refine zl (.pure 0 (.pure 1 (.take 2 (.pure 3 (.pure 4 (.take 5 (.pure 6 (.take 7 (.pure 8 (zz [9,10] (.only 11 (.only 12 (.pure 13 (.only 14 .done)))))))))))))) [14] (zsa pa0 (zsa pa1 (zsa pa2 (zsa pa3 (zsa pb0 (zsa pb1 (zsa pb2 (zsa pb3 (zsa pb4 (zsa pB0 (zsa pB1 (zsa pB2 (zIa pB3))))))))))))) ?_;iterate 2 (refine zV ?_;try simp only[uW,uX,uY,uZ])
    refine zUa ?_;try simp only[uW,uX,uY,uZ]
    iterate 2 (refine zV ?_;try simp only[uW,uX,uY,uZ])
    refine zUa ?_;try simp only[uW,uX,uY,uZ]
    refine zV ?_;try simp only[uW,uX,uY,uZ]
    refine zUa ?_;try simp only[uW,uX,uY,uZ]
    refine zV ?_;try simp only[uW,uX,uY,uZ]
    iterate 2 (refine zUa ?_;try simp only[uW,uX,uY,uZ])
    refine zC 28 rfl rfl (fun K hK=>?_);go_simp
    with_reducible refine(mul_q (R.below hrx.r) (R.below ha.r) zo (zt hT hB Bz)).mono ?_
    rintro e w11 ⟨s11,A11,c11,l11,s11r,A11r,c11r,l11r,rfl,h11,b11⟩;replace b11:=zq (a:=V11) b11;replace ha:=ha.below b11;replace hal:=hal.below b11;replace hkp:=hkp.below b11;replace ho:=ho.below b11;replace hry:=hry.below b11;replace Bz:=bT Bz b11;clear b11;clear pa0 pa1 pa2 pa3 pb0 pb1 pb2 pb3 pb4 pB0 pB1 pB2 pB3 fB0 fB1 fB2 fB3 y51;obtain⟨pa0,pa1,pa2,pa3,-⟩:=(zx HX0 Bz).cz;obtain⟨pb0,pb1,pb2,pb3,pb4,-⟩:=(zx HX1 Bz).cz;have pB0:=fr_0 ho HY.out;have pB1:=elt_frs.cell ho HY.out (j:=1) (u:=.slice y.A y.l y.c) zo rfl;have pB2:=elt_frs.cell ho HY.out (j:=2) (u:=.bool y.s') zo rfl;have pB3:=elt_frs.cell ho HY.out (j:=3) (u:=.slice y.A' y.l' y.c') zo rfl;have fB0:=ho.frozen (x.at_.toNat*4);have fB1:=ho.frozen (x.at_.toNat*4+1);have fB2:=ho.frozen (x.at_.toNat*4+2);have fB3:=ho.frozen (x.at_.toNat*4+3);have y51:=ho.blk.1;refine hK.out _ _ ⟨pa0,pa1,pa2,pa3,pb0,pb1,pb2,pb3,pb4,pB0,pB1,pB2,pB3⟩ (fun _=>?_);try simp only[uW,uX,uY,uZ]
    clear hK K;refine zC 29 rfl rfl (fun K hK=>?_);go_simp
    with_reducible refine(sub_q (R.below hry.r) (R.below h11.r) zo (zt hT hB Bz)).mono ?_
    rintro e w12 ⟨s12,A12,c12,l12,s12r,A12r,c12r,l12r,rfl,h12,b12⟩;replace b12:=zq (a:=w11) b12;replace ha:=ha.below b12;replace hal:=hal.below b12;replace hkp:=hkp.below b12;replace ho:=ho.below b12;replace Bz:=bT Bz b12;clear b12;clear pa0 pa1 pa2 pa3 pb0 pb1 pb2 pb3 pb4 pB0 pB1 pB2 pB3 fB0 fB1 fB2 fB3 y51;obtain⟨pa0,pa1,pa2,pa3,-⟩:=(zx HX0 Bz).cz;obtain⟨pb0,pb1,pb2,pb3,pb4,-⟩:=(zx HX1 Bz).cz;have pB0:=fr_0 ho HY.out;have pB1:=elt_frs.cell ho HY.out (j:=1) (u:=.slice y.A y.l y.c) zo rfl;have pB2:=elt_frs.cell ho HY.out (j:=2) (u:=.bool y.s') zo rfl;have pB3:=elt_frs.cell ho HY.out (j:=3) (u:=.slice y.A' y.l' y.c') zo rfl;have fB0:=ho.frozen (x.at_.toNat*4);have fB1:=ho.frozen (x.at_.toNat*4+1);have fB2:=ho.frozen (x.at_.toNat*4+2);have fB3:=ho.frozen (x.at_.toNat*4+3);have y51:=ho.blk.1;refine hK.out _ _ ⟨pa0,pa1,pa2,pa3,pb0,pb1,pb2,pb3,pb4,pB0,pB1,pB2,pB3⟩ (fun _=>?_);try simp only[uW,uX,uY,uZ]
    clear hK K;refine zV ?_;try simp only[uW,uX,uY,uZ]
    refine zAc (o:=⟨none,_,_,_,_,_⟩) rfl rfl zd (fun K hK=>?_);go_simp
    refine hK.out _ _ ?_;try simp only[Act.put,uX,uY,uZ]
    clear hK K;obtain⟨V12,hV,ho2,hg2⟩:=fr_store ho HY.out ⟨s12,A12,c12,l12,s12r,A12r,c12r,l12r,y.q-x.x.q*q,true⟩;rw[←hV];clear hV;have hbg:=(OwnR.base ho g rfl);replace hB:=(bT hB Bz).trans (hg2.below (zi (zw hB Bz)) (rowB hbg));replace hkp:=KP.grew hkp hg2 (fun t ht _=>by cases ht;rfl);replace HX0:=zh (hg2.bx (zx HX0 Bz) (rowN hvg));replace HX1:=zh (hg2.bx (zx HX1 Bz) nv1_own);have hal2:=AllRn.set (AllRn.k hal hg2.k) x.at_.toNat (x:=⟨s12,A12,c12,l12,s12r,A12r,c12r,l12r,y.q-x.x.q*q,true⟩) (AllRn.put (RN.k (RN.below h12) hg2.k) HSZ.out);replace ha:=ha.k hg2.k;replace ho:=ho2;replace hal:=hal2;clear ho2 hal2 hg2 Bz hbg;have Bz:=zr V12;clear pa0 pa1 pa2 pa3 pb0 pb1 pb2 pb3 pb4 pB0 pB1 pB2 pB3 fB0 fB1 fB2 fB3 y51;obtain⟨pa0,pa1,pa2,pa3,-⟩:=(zx HX0 Bz).cz;obtain⟨pb0,pb1,pb2,pb3,pb4,-⟩:=(zx HX1 Bz).cz;refine zAa ?_;go_wp2_with fail
    go_roundg (vn-(i+1))
    case measure=>have:=HGK.out;omega
    case rel=>exact⟨i+1,_,zo,rfl,by go_num,OwnR.below ho,AllRn.below hal,HS2.out _ rfl,HX0.out.below (bT Bz),RN.below ha,KP.below hkp,bT (bT hB Bz)⟩
   ·obtain rfl:vn=i:=zo;have i1:¬(vn:Int)<(vn:Int):=zo;have HSE:=zh (by have h9:=HSU.out;rwa [List.take_of_length_le (by rw[HLN.out];exact Nat.le_refl _)] at h9:SprU D D1 T q);have HL1:=zh (ho.eltn elt_frs zo);go_wp2_with fail
    go_end0
    exact⟨rfl,D1,ho.below (by go_grown),HL1.out,hal.below (by go_grown),(fun a h8 h9=>HSE.out.done a h8 (by rw[HLD.out];exact h9)),hkp.below (by go_grown),bT hB⟩
end Go.Proofs.YtjkgjiofmgapfaaGreatDoor
