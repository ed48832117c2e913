import Derived.Test.YteggjbgbknkoiaaGreatDoorUSo1
import Derived.Test.YteggjbgbknkoiaaGreatDoorUVm
set_option maxHeartbeats 8000000
set_option maxRecDepth 100000
namespace Go.Proofs.YteggjbgbknkoiaaGreatDoor
open Go.RowKit Tw
theorem rt_store {t:TypeId} (E:Elt Tm.cs 5 t 32) {w:World} {B g n cap i:Nat} {L:List Tm} (h:OwnR w B 32 5 (.slice (some ⟨g,0,none⟩) n cap) n (flat Tm.cs L)) {y:Tm} (hy:L[i]?=some y) (r:Fr) :
  ∃V,V=(((w.setCell ⟨g,i*5+1,none⟩ (.bool r.s)).setCell ⟨g,i*5+2,none⟩ (.slice r.A r.l r.c)).setCell ⟨g,i*5+3,none⟩ (.bool r.s')).setCell ⟨g,i*5+4,none⟩ (.slice r.A' r.l' r.c')∧
   OwnR V B 32 5 (.slice (some ⟨g,0,none⟩) n cap) n (flat Tm.cs (L.set i ⟨y.at_,r⟩))∧Grew w V (.slice (some ⟨g,0,none⟩) n cap) (.slice (some ⟨g,0,none⟩) n cap):=by
 have:=E.sets h hy (y:=⟨y.at_,r⟩) [(1,.bool r.s),(2,.slice r.A r.l r.c),(3,.bool r.s'),(4,.slice r.A' r.l' r.c')] (fun p hp=>by simp at hp;rcases hp with rfl | rfl | rfl | rfl<;>exact⟨by simp,by simp⟩) rfl;exact⟨_,rfl,this⟩
theorem wsum_le {T:List Tm} {i:Nat} {t:Tm} (h:T[i]?=some t) (a:Int):wsum (T.take i) a≤wsum (T.take (i+1)) a:=by rw[wsum_snoc h];omega
theorem wsum_take_le (T:List Tm) (i:Nat) (a:Int):wsum (T.take i) a≤wsum T a:=by
 have h:=wsum_append (T.take i) (T.drop i) a;rw[xC] at h;omega
def NS1 (w:World) (gt n ct:Nat) (T:List Tm) (gk:Nat) (s4 s14:Value) (wr:World):Prop :=
 ∃(i k:Nat) (H:Option Addr) (hc:Nat) (O:List Tm),s14=.int .i64 (i:Int)∧s4=.slice H k hc∧i≤n∧n-i=gk∧OwnR wr w.heap.size 32 5 (.slice H k hc) k (flat Tm.cs O)∧OwnR wr w.heap.size 32 5 (.slice (some ⟨gt,0,none⟩) n ct) n (flat Tm.cs T)∧
  Ap (.slice H k hc) (.slice (some ⟨gt,0,none⟩) n ct)∧Grp (prs O) (prs T) i∧OnT wr O (wsum (T.take i))∧OkT wr T∧Below w.heap.size w wr
theorem last_of {α:Type} {L:List α} {k:Nat} (h:L.length=k+1) {x:α} (hx:L[k]?=some x):L.getLast?=some x:=by rw[List.getLast?_eq_getElem?,h];exact hx
def TellsVO (w:World) (P:List (Int×Rat)) (M:Nat) (e:Ending) (w':World):Prop :=
 ∃A n c L,e=.returned (.slice A n c)∧OwnR w' w.heap.size 32 5 (.slice A n c) n (flat Tm.cs L)∧OnT w' L (fun _=>M)∧prs L=P∧Below w.heap.size w w'
theorem TellsVO.v {w w':World} {P:List (Int×Rat)} {M:Nat} {e:Ending} (h:TellsVO w P M e w'):TellsV w P M e w':=by
 obtain⟨A,n,c,L,rfl,h1,h2,h3,h4⟩:=h;refine⟨A,n,c,rfl,⟨L,h1.sl' elt_vec (h1.eltn elt_vec zo),h2,h3,fun hn=>?_⟩,h4⟩;obtain⟨_,_,e9,h9,_⟩:=h1.slice;cases e9;exact(h9 hn).2
theorem sorted_prs {T:List Tm} {i:Nat} {x:Tm} (h:SortedT T) (hx:T[i]?=some x):∀y∈(prs T).take i,y.1≤x.at_:=fun y hy=>by
 rw[prs_take] at hy;obtain⟨t,ht,rfl⟩:=prs_mem hy;obtain⟨j,hj⟩:=bD ht;rw[kE] at hj;split at hj
 ·exact h j i t x (by assumption) hj hx
 ·cases hj
theorem normO_q {w:World} {A:Option Addr} {n c M:Nat} {P:List (Int×Rat)} (h:GV w A n c P M) (hM:M≤19000000000) (hn:n≤19) (hT:Hid (Tab w)) :
  Calls Tryz.prog 22 #[.slice A n c] w (TellsVO w (nrm P) M):=by
 obtain⟨L,h1,h2,rfl,h4,h5⟩:=h;have HL:=zh h1.1;have HOK:=zh h2;have HWS:=zh h4;have hcl:=clone_t h1 h5 zo;clear h1 h2 h4 h5;go_enter Tryz.func22,Tryz.ntmps22
 go_wp2_with fail
 with_reducible refine hcl.mono ?_
 rintro e w1 ⟨H1,c1,rfl,ho1,b⟩;have hso:=sort_own ho1 zo;have HOK1:=zh (HOK.out.below b);clear hcl HOK ho1;go_wp2_with fail
 with_reducible refine hso.mono ?_
 rintro e w2 ⟨rfl,T,hp,hs,hoT,hg⟩;have HPM:=zh hp;have HSR:=zh hs;have HB2:Hid (Below w.heap.size w w2):=zh (b.trans (hg.below b.size (fun g hg'=>hoT.base g hg')));have HKT:Hid (OkT w2 T):=zh fun t ht=>((HOK1.out t (hp.mem_iff.1 ht)).k hg.k);have HWT:Hid (∀a,wsum T a≤M):=zh fun a=>by rw[wsum_perm hp];exact HWS.out a
 have HPR:Hid (nrm (prs T)=nrm (prs L)):=zh (nrm_ext fun a=>pget_perm (hp.map _) a);have HOT:=zh hoT;have HTL:=zh (hoT.eltn elt_term zo);clear hso b HOK1 hp hs hg HWS hoT HL;cases H1 with
 | none =>
  obtain⟨_,_,e0,h0,_⟩:=HOT.out.slice;cases e0;obtain⟨rfl,rfl⟩:=h0 rfl;have HT0:Hid (T=[]):=zh (tD HTL.out);clear h0;go_wp2_with fail
  go_loopg [4,14] 0 (fun gk s4 s14 wr=>gk=0∧s4=.slice none 0 0∧s14=.int .i64 0∧wr=w2)
  case atStart=>exact⟨rfl,rfl,rfl,rfl⟩
  case round =>
   obtain⟨rfl,rfl,rfl,rfl⟩:=hrel;have hd:=delete_own (w:=w) (u:=wr) (c:=0) (n:=0) (A:=none) (m:=0) (L:=[]) (OwnR.nil _ _ _ _) (zh fun x hx=>by cases hx) zo zo HB2.out;go_wp2_with fail
   with_reducible refine hd.mono ?_
   rintro e w3 ⟨n3,rfl,ho3,ku3,b3⟩;have HO3:=zh ho3;clear ho3 ku3 hd;go_wp2_with fail
   go_ret
   exact⟨_,_,_,[],rfl,HO3.out,OnT.nil _ _,by rw[←HPR.out,HT0.out];rfl,b3⟩
 | some at0 =>
  obtain⟨_,ct,e0,_,h0,_⟩:=HOT.out.slice;cases e0;obtain⟨gt,rfl⟩:=h0 at0 rfl;clear h0;go_wp2_with fail
  go_loopg [4,14] n (fun gk s4 s14 wr=>NS1 w gt n c1 T gk s4 s14 wr)
  case atStart=>exact⟨0,0,none,0,[],rfl,rfl,nA _,rfl,OwnR.nil _ _ _ _,HOT.out,Ap.nil _,Grp.start _,OnT.nil _ _,HKT.out,HB2.out⟩
  case round =>
   clear HOT HKT HB2;obtain⟨i,k,H,hc,O,rfl,rfl,hi,hgk,hoO,hoT,apOT,hgr,honO,hokT,hB⟩:=hrel;have HGK:=zh hgk;have HGR:=zh hgr;have HOL:=zh (hoO.eltn elt_vec zo);have hki:k≤i:=by have:=hgr.len;rw[prs_len,HOL.out] at this;exact this
   clear hgk hgr;by_cases hlt:i<n
   ·obtain⟨x,hx⟩:∃x,T[i]?=some x:=⟨T[i]'(by rw[HTL.out];exact hlt),aA _⟩;have hrx:R wr x.x.s x.x.A x.x.c x.x.l x.x.s' x.x.A' x.x.c' x.x.l' x.x.q (dgT x):=(hokT x (dA hx)).r;have hdx:dgT x+2≤M:=kA (wsum_mem (dA hx)) (HWT.out _);have hsx:sz x.x.q≤dgT x+1:=(hokT x (dA hx)).szd;have hso:=sorted_prs HSR.out hx;have hpx:=prs_get hx;have HTI:=zh hx;have HSO:=zh hso;have HPX:=zh hpx;have apTO:=apOT.symm;have i1:(i:Int)<(n:Int):=zo;have i2:(0:Int)≤(i:Int):=zo;clear hx hso hpx;cases k with
    | zero =>
     have hO:O=[]:=tD HOL.out;have HG2:Hid (∀r:Fr,r.q=x.x.q→Grp (prs (O++[⟨x.at_,r⟩])) (prs T) (i+1)):=zh (fun r hr=>by
      rw[prs_append,show prs [(⟨x.at_,r⟩:Tm)]=[(x.at_,x.x.q)] from by rw[←hr];rfl];exact HGR.out.new (t:=(x.at_,x.x.q)) HPX.out HSO.out (fun l hl=>by rw[hO] at hl;cases hl))
     have HS1:Hid (sz x.x.q+1≤wsum (T.take (i+1)) x.at_):=zh (by rw[wsum_snoc HTI.out,gA rfl];omega);clear hO;have Bz:=zr wr;have pK0:=cell_0 hoT HTI.out;have pK1:=elt_vec.cell hoT HTI.out (j:=1) (u:=.bool x.x.s) zo rfl;have pK2:=elt_vec.cell hoT HTI.out (j:=2) (u:=.slice x.x.A x.x.l x.x.c) zo rfl;have pK3:=elt_vec.cell hoT HTI.out (j:=3) (u:=.bool x.x.s') zo rfl;have pK4:=elt_vec.cell hoT HTI.out (j:=4) (u:=.slice x.x.A' x.x.l' x.x.c') zo rfl;go_upto_region 7 with(fail)
     obtain⟨V1,hW,x0,hN⟩:=zAe wr #[.int .i64 x.at_,.bool x.x.s,.slice x.x.A x.x.l x.x.c,.bool x.x.s',.slice x.x.A' x.x.l' x.x.c'] 32;rw[←hW];clear hW;obtain⟨v0,hb0⟩:=ze wr.heap.size;rw[←hb0] at x0 ⊢;have ow_0:w.heap.size≤v0:=zi (zw hB Bz);replace hokT:=hokT.below hN;replace honO:=honO.below hN;replace hoO:=hoO.below hN;replace hoT:=hoT.below hN;replace hrx:=hrx.below hN;replace hB:=bT (bT hB Bz) hN;have HX0:=zh x0;clear x0 hN Bz hb0;have Bz:=zr V1;clear pK0 pK1 pK2 pK3 pK4;obtain⟨pa0,pa1,pa2,pa3,pa4,-⟩:=(zxb HX0 Bz).cz;go_wp2_with fail
     (try simp only[vAa,vBa,vC])
     refine zl (zz [0,1,2,3,4,5,6,7,8,9,10,11,12] .done) [] zn ?_;iterate 3 (refine zUa ?_;try simp only[uW,uX,uY,uZ])
     iterate 9 (refine zN rfl rfl ?_;try simp only[uW,uX,uY,uZ])
     refine zUa ?_;try simp only[uW,uX,uY,uZ]
     refine zAa ?_;go_wp2_with fail
     (try simp only[vAa,vBa,vC])
     refine zl (.pure 0 (.pure 1 (.take 2 (.pure 3 (.take 4 (.only 5 (.pure 6 (.only 7 (.only 8 (.pure 9 .done)))))))))) [8] (zsa pa0 (zsa pa1 (zsa pa2 (zsa pa3 (zIa pa4))))) ?_;iterate 5 ((first|refine zV ?_|refine zUa ?_);try simp only[uW,uX,uY,uZ])
     refine zC 52 rfl rfl (fun K hK=>?_);go_simp
     with_reducible refine(norm_q (R.below hrx) zo (zt hT hB Bz)).mono ?_
     rintro e w1 ⟨s1,A1,c1,l1,s1r,A1r,c1r,l1r,rfl,h1,b⟩;replace b:=zq (a:=V1) b;replace hokT:=hokT.below b;replace honO:=honO.below b;replace hoO:=hoO.below b;replace hoT:=hoT.below b;replace Bz:=bT Bz b;clear b;clear pa0 pa1 pa2 pa3 pa4;obtain⟨pa0,pa1,pa2,pa3,pa4,-⟩:=(zxb HX0 Bz).cz;refine hK.out _ _ ⟨pa0,pa1,pa2,pa3,pa4⟩ (fun _=>?_);try simp only[uW,uX,uY,uZ]
     clear hK K;refine zV ?_;try simp only[uW,uX,uY,uZ]
     refine zC 54 rfl rfl (fun K hK=>?_);go_simp
     refine hK.out _ _ ⟨(zAd pa0),(zAd pa1),(zAd pa2),(zAd pa3),(zAd pa4)⟩ (fun _=>?_);try simp only[uW,uX,uY,uZ]
     clear hK K;refine zAc (o:=⟨some 55,_,_,_,_,_⟩) rfl rfl zd (fun K hK=>?_);obtain⟨V2,hW,x1,hN⟩:=zAe w1 #[.int .i64 x.at_,.bool s1,.slice A1 l1 c1,.bool s1r,.slice A1r l1r c1r] 32;rw[←hW];clear hW;obtain⟨v1,hb1⟩:=ze w1.heap.size;rw[←hb1] at x1 ⊢;have ow_1:w.heap.size≤v1:=zi (zw hB Bz);replace h1:=h1.below hN;replace hokT:=hokT.below hN;replace honO:=honO.below hN;replace hoO:=hoO.below hN;replace hoT:=hoT.below hN;replace hB:=bT (bT hB Bz) hN;replace HX0:=zba HX0 Bz hN;have HX1:=zh x1;clear x1 hN Bz hb1;have Bz:=zr V2;clear pa0 pa1 pa2 pa3 pa4;have hdr:V2.drew.heap.size=V2.heap.size:=rfl;have hdr2:V2.drew.drew.heap.size=V2.heap.size:=rfl;refine Elt.wp elt_vec _ _ rfl (w.heap.size) (.slice H 0 hc) (0) (O) rfl hoO (.slice (some ⟨v1,0,none⟩) 1 1) (1) ([⟨x.at_,⟨s1,A1,c1,l1,s1r,A1r,c1r,l1r,x.x.q,true⟩⟩]) rfl (From.one (HX1.out.below (bT Bz)) (⟨x.at_,⟨s1,A1,c1,l1,s1r,A1r,c1r,l1r,x.x.q,true⟩⟩) rfl (elt_vec.len _)) zo (zi (zw hB Bz)) ?_;intro H2 c2 w2 ho2 hg2;refine hK.out _ _ ?_;try simp only[uW,uX,uY,uZ]
     clear hK K;replace hB:=(bT (bT hB Bz)).trans (hg2.below (zi (zw hB Bz)) (fun g hg=>by have:=hoO.base g hg;omega));clear HX0;clear HX1;have apTO':=hg2.ap hoT apTO;have apOT':=apTO'.symm;replace hoT:=hoT.grown hg2 apTO;clear apTO apOT;have apTO:=apTO';have apOT:=apOT';clear apTO' apOT';clear hdr hdr2;replace h1:=h1.k hg2.k;replace hokT:=hokT.k hg2.k;replace honO:=honO.k hg2.k;clear hg2 Bz;have Bz:=zr w2;refine zV ?_;try simp only[uW,uX,uY,uZ]
     refine zAa ?_;go_wp2_with fail
     have hs1:=HS1.out;go_roundg (n-(i+1))
     case measure=>have:=HGK.out;omega
     case rel=>exact⟨i+1,0+1,_,_,_,by go_num,rfl,zo,rfl,OwnR.below ho2,OwnR.below hoT,apOT,HG2.out _ rfl,((OnT.below honO).mono fun t _=>wsum_le HTI.out _).snoc (RN.below h1) rfl hs1,OkT.below hokT,bT (bT hB Bz)⟩
    | succ k =>
     obtain⟨g,rfl⟩:=hoO.some zo;obtain⟨y,hy⟩:∃y,O[k]?=some y:=⟨O[k]'(by rw[HOL.out];omega),aA _⟩;have HOK:=zh hy;have hyn:=honO y (dA hy);have hys:sz y.x.q+1≤wsum (T.take i) y.at_:=hyn.2.2;have hym:sz y.x.q+1≤M:=kA hys (kA (wsum_take_le _ _ _) (HWT.out _));have hry:R wr y.x.s y.x.A y.x.c y.x.l y.x.s' y.x.A' y.x.c' y.x.l' y.x.q (sz y.x.q):=hyn.1.r;have hlast:(prs O).getLast?=some (y.at_,y.x.q):=last_of (by rw[prs_len,HOL.out]) (prs_get hy);have HLA:=zh hlast;have i5:(0:Int)<(k:Int)+1:=zo;have i6:(0:Int)≤(k:Int):=zo;have i7:(k:Int)<(k:Int)+1:=zo;have w6:IntKind.i64.wrap ((k:Int)+1-1)=(k:Int):=by rw[IntWalk.i64_in _ zo];omega
     have w7:IntKind.i64.wrap (k:Int)=(k:Int):=IntWalk.i64_in _ zo;clear hy hyn hlast;by_cases hq:y.at_=x.at_
     ·have g1:(y.at_==x.at_)=true:=by simpa using hq
      have HG2:Hid (∀r:Fr,r.q=y.x.q+x.x.q→Grp (prs (O.set k ⟨y.at_,r⟩)) (prs T) (i+1)):=zh (fun r hr=>by
       rw[prs_set,show((⟨y.at_,r⟩:Tm).at_,(⟨y.at_,r⟩:Tm).x.q)=(y.at_,y.x.q+x.x.q) from by rw[←hr]];have h:=HGR.out.same (t:=(x.at_,x.x.q)) HPX.out HLA.out hq;rw[prs_len,HOL.out,bE] at h;exact h)
      have HS1:Hid (sz (y.x.q+x.x.q)+1≤wsum (T.take (i+1)) y.at_):=zh (by
       have:=sz_add (cA (sz y.x.q)) hsx;rw[wsum_snoc HTI.out,gA hq.symm];omega)
      clear hq;have Bz:=zr wr;have pK0:=cell_0 hoT HTI.out;have pK1:=elt_vec.cell hoT HTI.out (j:=1) (u:=.bool x.x.s) zo rfl;have pK2:=elt_vec.cell hoT HTI.out (j:=2) (u:=.slice x.x.A x.x.l x.x.c) zo rfl;have pK3:=elt_vec.cell hoT HTI.out (j:=3) (u:=.bool x.x.s') zo rfl;have pK4:=elt_vec.cell hoT HTI.out (j:=4) (u:=.slice x.x.A' x.x.l' x.x.c') zo rfl;go_upto_region 7 with(fail)
      obtain⟨V1,hW,x0,hN⟩:=zAe wr #[.int .i64 x.at_,.bool x.x.s,.slice x.x.A x.x.l x.x.c,.bool x.x.s',.slice x.x.A' x.x.l' x.x.c'] 32;rw[←hW];clear hW;obtain⟨v0,hb0⟩:=ze wr.heap.size;rw[←hb0] at x0 ⊢;have ow_0:w.heap.size≤v0:=zi (zw hB Bz);replace hokT:=hokT.below hN;replace honO:=honO.below hN;replace hoO:=hoO.below hN;replace hoT:=hoT.below hN;replace hrx:=hrx.below hN;replace hry:=hry.below hN;replace hB:=bT (bT hB Bz) hN;have HX0:=zh x0;clear x0 hN Bz hb0;have Bz:=zr V1;clear pK0 pK1 pK2 pK3 pK4;obtain⟨pa0,pa1,pa2,pa3,pa4,-⟩:=(zxb HX0 Bz).cz;have pL0:=cell_0 hoO HOK.out;have pL1:=elt_vec.cell hoO HOK.out (j:=1) (u:=.bool y.x.s) zo rfl;have pL2:=elt_vec.cell hoO HOK.out (j:=2) (u:=.slice y.x.A y.x.l y.x.c) zo rfl;have pL3:=elt_vec.cell hoO HOK.out (j:=3) (u:=.bool y.x.s') zo rfl;have pL4:=elt_vec.cell hoO HOK.out (j:=4) (u:=.slice y.x.A' y.x.l' y.x.c') zo rfl;have fL1:=hoO.frozen (k*5+1);have fL2:=hoO.frozen (k*5+2);have fL3:=hoO.frozen (k*5+3);have fL4:=hoO.frozen (k*5+4);have y61:=hoO.blk.1;go_wp2_with fail
      (try simp only[vAa,vBa,vC])
      refine zl (zz [0,1,2,3,4,5,6,7,8,9,10,11,12] .done) [] (zsa pa0 (zIa pL0)) ?_;iterate 13 (refine zUa ?_;try simp only[uW,uX,uY,uZ])
      refine zAa ?_;go_wp2_with fail
      (try simp only[vAa,vBa,vC])
      refine zl (.pure 0 (.pure 1 (.pure 2 (.pure 3 (.pure 4 (.pure 5 (.pure 6 (.pure 7 (.take 8 (.pure 9 (.take 10 (.only 11 (.pure 12 (.pure 13 (.only 14 .done))))))))))))))) [14] (zsa pa1 (zsa pa2 (zsa pa3 (zsa pa4 (zsa pL1 (zsa pL2 (zsa pL3 (zIa pL4)))))))) ?_;iterate 11 ((first|refine zV ?_|refine zUa ?_);try simp only[uW,uX,uY,uZ])
      refine zC 44 rfl rfl (fun K hK=>?_);go_simp
      with_reducible refine(add_q (R.below hry) (R.below hrx) zo (zt hT hB Bz)).mono ?_
      rintro e w1 ⟨s1,A1,c1,l1,s1r,A1r,c1r,l1r,rfl,h1,b⟩;replace b:=zq (a:=V1) b;replace hokT:=hokT.below b;replace honO:=honO.below b;replace hoO:=hoO.below b;replace hoT:=hoT.below b;replace Bz:=bT Bz b;clear b;clear pa0 pa1 pa2 pa3 pa4 pL0 pL1 pL2 pL3 pL4 fL1 fL2 fL3 fL4 y61;obtain⟨-,pa1,pa2,pa3,pa4,-⟩:=(zxb HX0 Bz).cz;have pL1:=elt_vec.cell hoO HOK.out (j:=1) (u:=.bool y.x.s) zo rfl;have pL2:=elt_vec.cell hoO HOK.out (j:=2) (u:=.slice y.x.A y.x.l y.x.c) zo rfl;have pL3:=elt_vec.cell hoO HOK.out (j:=3) (u:=.bool y.x.s') zo rfl;have pL4:=elt_vec.cell hoO HOK.out (j:=4) (u:=.slice y.x.A' y.x.l' y.x.c') zo rfl;have fL1:=hoO.frozen (k*5+1);have fL2:=hoO.frozen (k*5+2);have fL3:=hoO.frozen (k*5+3);have fL4:=hoO.frozen (k*5+4);have y61:=hoO.blk.1;refine hK.out _ _ ⟨pa1,pa2,pa3,pa4,pL1,pL2,pL3,pL4⟩ (fun _=>?_);try simp only[uW,uX,uY,uZ]
      clear hK K;iterate 2 (refine zV ?_;try simp only[uW,uX,uY,uZ])
      refine zAc (o:=⟨none,_,_,_,_,_⟩) rfl rfl zd (fun K hK=>?_);go_simp
      refine hK.out _ _ ?_;try simp only[Act.put,uX,uY,uZ]
      clear hK K;obtain⟨V2,hV,ho2,hg2⟩:=rt_store elt_vec hoO HOK.out ⟨s1,A1,c1,l1,s1r,A1r,c1r,l1r,y.x.q+x.x.q,true⟩;rw[←hV];clear hV;replace hB:=(bT hB Bz).trans (hg2.below (zi (zw hB Bz)) (fun g' hg'=>hoO.base g' hg'));clear HX0;replace h1:=h1.k hg2.k;replace hokT:=hokT.k hg2.k;replace honO:=honO.k hg2.k;replace hoT:=hoT.grown hg2 apTO;clear hoO;have hoO:=ho2;clear ho2 hg2 Bz;have Bz:=zr V2;clear pa1 pa2 pa3 pa4 pL1 pL2 pL3 pL4 fL1 fL2 fL3 fL4 y61;refine zAa ?_;go_wp2_with fail
      have hs1:=HS1.out;go_roundg (n-(i+1))
      case measure=>have:=HGK.out;omega
      case rel=>exact⟨i+1,k+1,_,_,_,by go_num,rfl,zo,rfl,OwnR.below hoO,OwnR.below hoT,apOT,HG2.out _ rfl,((OnT.below honO).mono fun t _=>wsum_le HTI.out _).set k (RN.below h1) rfl hs1,OkT.below hokT,bT (bT hB Bz)⟩
     ·have g1:(y.at_==x.at_)=false:=by simpa using hq
      have HG2:Hid (∀r:Fr,r.q=x.x.q→Grp (prs (O++[⟨x.at_,r⟩])) (prs T) (i+1)):=zh (fun r hr=>by
       rw[prs_append,show prs [(⟨x.at_,r⟩:Tm)]=[(x.at_,x.x.q)] from by rw[←hr];rfl];exact HGR.out.new (t:=(x.at_,x.x.q)) HPX.out HSO.out (fun l hl=>by rw[HLA.out] at hl;cases hl;exact hq))
      have HS1:Hid (sz x.x.q+1≤wsum (T.take (i+1)) x.at_):=zh (by rw[wsum_snoc HTI.out,gA rfl];omega);clear hq;have Bz:=zr wr;have pK0:=cell_0 hoT HTI.out;have pK1:=elt_vec.cell hoT HTI.out (j:=1) (u:=.bool x.x.s) zo rfl;have pK2:=elt_vec.cell hoT HTI.out (j:=2) (u:=.slice x.x.A x.x.l x.x.c) zo rfl;have pK3:=elt_vec.cell hoT HTI.out (j:=3) (u:=.bool x.x.s') zo rfl;have pK4:=elt_vec.cell hoT HTI.out (j:=4) (u:=.slice x.x.A' x.x.l' x.x.c') zo rfl;go_upto_region 7 with(fail)
      obtain⟨V1,hW,x0,hN⟩:=zAe wr #[.int .i64 x.at_,.bool x.x.s,.slice x.x.A x.x.l x.x.c,.bool x.x.s',.slice x.x.A' x.x.l' x.x.c'] 32;rw[←hW];clear hW;obtain⟨v0,hb0⟩:=ze wr.heap.size;rw[←hb0] at x0 ⊢;have ow_0:w.heap.size≤v0:=zi (zw hB Bz);replace hokT:=hokT.below hN;replace honO:=honO.below hN;replace hoO:=hoO.below hN;replace hoT:=hoT.below hN;replace hrx:=hrx.below hN;replace hB:=bT (bT hB Bz) hN;have HX0:=zh x0;clear x0 hN Bz hb0;have Bz:=zr V1;clear pK0 pK1 pK2 pK3 pK4;obtain⟨pa0,pa1,pa2,pa3,pa4,-⟩:=(zxb HX0 Bz).cz;have pL0:=cell_0 hoO HOK.out;go_wp2_with fail
      (try simp only[vAa,vBa,vC])
      refine zl (zz [0,1,2,3,4,5,6,7,8,9,10,11,12] .done) [] (zsa pa0 (zIa pL0)) ?_;iterate 13 (refine zUa ?_;try simp only[uW,uX,uY,uZ])
      refine zAa ?_;go_wp2_with fail
      (try simp only[vAa,vBa,vC])
      refine zl (.pure 0 (.pure 1 (.take 2 (.pure 3 (.take 4 (.only 5 (.pure 6 (.only 7 (.only 8 (.pure 9 .done)))))))))) [8] (zsa pa0 (zsa pa1 (zsa pa2 (zsa pa3 (zIa pa4))))) ?_;iterate 5 ((first|refine zV ?_|refine zUa ?_);try simp only[uW,uX,uY,uZ])
      refine zC 52 rfl rfl (fun K hK=>?_);go_simp
      with_reducible refine(norm_q (R.below hrx) zo (zt hT hB Bz)).mono ?_
      rintro e w1 ⟨s1,A1,c1,l1,s1r,A1r,c1r,l1r,rfl,h1,b⟩;replace b:=zq (a:=V1) b;replace hokT:=hokT.below b;replace honO:=honO.below b;replace hoO:=hoO.below b;replace hoT:=hoT.below b;replace Bz:=bT Bz b;clear b;clear pa0 pa1 pa2 pa3 pa4 pL0;obtain⟨pa0,pa1,pa2,pa3,pa4,-⟩:=(zxb HX0 Bz).cz;refine hK.out _ _ ⟨pa0,pa1,pa2,pa3,pa4⟩ (fun _=>?_);try simp only[uW,uX,uY,uZ]
      clear hK K;refine zV ?_;try simp only[uW,uX,uY,uZ]
      refine zC 54 rfl rfl (fun K hK=>?_);go_simp
      refine hK.out _ _ ⟨(zAd pa0),(zAd pa1),(zAd pa2),(zAd pa3),(zAd pa4)⟩ (fun _=>?_);try simp only[uW,uX,uY,uZ]
      clear hK K;refine zAc (o:=⟨some 55,_,_,_,_,_⟩) rfl rfl zd (fun K hK=>?_);obtain⟨V2,hW,x1,hN⟩:=zAe w1 #[.int .i64 x.at_,.bool s1,.slice A1 l1 c1,.bool s1r,.slice A1r l1r c1r] 32;rw[←hW];clear hW;obtain⟨v1,hb1⟩:=ze w1.heap.size;rw[←hb1] at x1 ⊢;have ow_1:w.heap.size≤v1:=zi (zw hB Bz);replace h1:=h1.below hN;replace hokT:=hokT.below hN;replace honO:=honO.below hN;replace hoO:=hoO.below hN;replace hoT:=hoT.below hN;replace hB:=bT (bT hB Bz) hN;replace HX0:=zba HX0 Bz hN;have HX1:=zh x1;clear x1 hN Bz hb1;have Bz:=zr V2;clear pa0 pa1 pa2 pa3 pa4;have hdr:V2.drew.heap.size=V2.heap.size:=rfl;have hdr2:V2.drew.drew.heap.size=V2.heap.size:=rfl;refine Elt.wp elt_vec _ _ rfl (w.heap.size) (.slice (some ⟨g,0,none⟩) (k+1) hc) (k+1) (O) rfl hoO (.slice (some ⟨v1,0,none⟩) 1 1) (1) ([⟨x.at_,⟨s1,A1,c1,l1,s1r,A1r,c1r,l1r,x.x.q,true⟩⟩]) rfl (From.one (HX1.out.below (bT Bz)) (⟨x.at_,⟨s1,A1,c1,l1,s1r,A1r,c1r,l1r,x.x.q,true⟩⟩) rfl (elt_vec.len _)) zo (zi (zw hB Bz)) ?_;intro H2 c2 w2 ho2 hg2;refine hK.out _ _ ?_;try simp only[uW,uX,uY,uZ]
      clear hK K;replace hB:=(bT (bT hB Bz)).trans (hg2.below (zi (zw hB Bz)) (fun g hg=>by have:=hoO.base g hg;omega));clear HX0;clear HX1;have apTO':=hg2.ap hoT apTO;have apOT':=apTO'.symm;replace hoT:=hoT.grown hg2 apTO;clear apTO apOT;have apTO:=apTO';have apOT:=apOT';clear apTO' apOT';clear hdr hdr2;replace h1:=h1.k hg2.k;replace hokT:=hokT.k hg2.k;replace honO:=honO.k hg2.k;clear hg2 Bz;have Bz:=zr w2;refine zV ?_;try simp only[uW,uX,uY,uZ]
      refine zAa ?_;go_wp2_with fail
      have hs1:=HS1.out;go_roundg (n-(i+1))
      case measure=>have:=HGK.out;omega
      case rel=>exact⟨i+1,k+1+1,_,_,_,by go_num,rfl,zo,rfl,OwnR.below ho2,OwnR.below hoT,apOT,HG2.out _ rfl,((OnT.below honO).mono fun t _=>wsum_le HTI.out _).snoc (RN.below h1) rfl hs1,OkT.below hokT,bT (bT hB Bz)⟩
   ·obtain rfl:i=n:=zo;have i1:¬(i:Int)<(i:Int):=zo;have hok:∀x∈O,FrOk wr M x.x:=honO.fr fun a=>kA (wsum_take_le _ _ _) (HWT.out a);have hd:=delete_own (w:=w) (u:=wr) hoO (zh hok) zo zo hB;have HDN:=zh (HGR.out.done (by rw[prs_len,HTL.out];exact cA _));have HON:=zh honO;clear hok honO hoT hokT;go_wp2_with fail
    with_reducible refine hd.mono ?_
    rintro e w3 ⟨n3,rfl,ho3,ku3,b3⟩;have HO3:=zh ho3;have HN3:=zh (HON.out.k ku3);clear ho3 ku3 hd;go_wp2_with fail
    go_ret
    refine⟨_,_,_,O.filter nzT,rfl,HO3.out,fun t ht=>?_,?_,b3⟩
    ·have h6:=HN3.out t (List.mem_filter.1 ht).1;exact⟨h6.1,h6.2.1,kA h6.2.2 (kA (wsum_take_le _ _ _) (HWT.out _))⟩
    ·rw[←HPR.out,HDN.out];exact filter_prs O fun x=>decide (x.2≠0)
theorem normV_q {w:World} {A:Option Addr} {n c M:Nat} {P:List (Int×Rat)} (h:GV w A n c P M) (hM:M≤19000000000) (hn:n≤19) (hT:Hid (Tab w)) :
  Calls Tryz.prog 22 #[.slice A n c] w (TellsV w (nrm P) M):=(normO_q h hM hn hT).mono fun _ _ k=>k.v
end Go.Proofs.YteggjbgbknkoiaaGreatDoor
