import Derived.Test.YteggjbgbknkoiaaGreatDoorURv5
set_option maxHeartbeats 32000000
set_option maxRecDepth 100000
namespace Go.Proofs.YteggjbgbknkoiaaGreatDoor
open Go.RowKit Tw
theorem sign_qe {q:Rat} (h:q≠0):(q.num.sign==0)=false:=by have h1:=sign_qnz h;rwa [bne,Bool.not_eq_true'] at h1
theorem sign_q0 {q:Rat} (h:q=0):(q.num.sign==0)=true:=by rw[h];rfl
theorem bne_ne {a b:Nat} (h:a≠b):((a:Int) !=(b:Int))=true:=by rw[bne_iff_ne];omega
theorem bne_eq' (a:Nat):((a:Int) !=(a:Int))=false:=by simp
theorem FT.two {w w1 w':World} {g6 g7 g8 n M B1 B2:Nat} {V:List Fw} (ho:OwnR w1 w.heap.size 49 1 (.slice (some ⟨g6,0,none⟩) n n) n (flat Fw.cs V)) (htr:TRs w1 (.slice (some ⟨g6,0,none⟩) n n) M V) (hM:M≤1900) (hs:w.heap.size≤w1.heap.size)
  (h1:OwnR w' B1 4 1 (.slice (some ⟨g7,0,none⟩) n n) n (flat bls (List.replicate n false))) (h2:OwnR w' B2 4 1 (.slice (some ⟨g8,0,none⟩) n n) n (flat bls (List.replicate n false))) (hB1:w1.heap.size≤B1) (hB2:w1.heap.size≤B2) (hne:g7≠g8) (hb:Below w1.heap.size w1 w') :
  FT w' w.heap.size [roT g6 n n V,roB g7 n (opnL 0 n),roB g8 n (opnL 0 n),roI none 0 0 [],roI none 0 0 []] 1900 V:=by
 have k6:=ho.lt g6 rfl;have k7:=h1.base g7 rfl;have k8:=h2.base g8 rfl;refine FT.mono (M:=M) ⟨fun i r hr=>?_,fun i j r s hr hs hij=>?_,fun v hv=>⟨(htr v hv).1.below hb,fun a ha=>⟨eB ((htr v hv).2 a ha).1 hb.size,fun i r hr=>?_⟩⟩⟩ hM
 ·match i,hr with
  | 0,hr=>obtain rfl:=Option.some.inj hr;exact ho.below hb
  | 1,hr=>obtain rfl:=Option.some.inj hr;exact h1.rebase zo
  | 2,hr=>obtain rfl:=Option.some.inj hr;exact h2.rebase zo
  | 3,hr=>obtain rfl:=Option.some.inj hr;exact OwnR.nil _ _ _ _
  | 4,hr=>obtain rfl:=Option.some.inj hr;exact OwnR.nil _ _ _ _
  | i+5,hr=>cases hr
 ·match i,j,hr,hs with
  | 0,0,_,_=>exact absurd rfl hij
  | 1,1,_,_=>exact absurd rfl hij
  | 2,2,_,_=>exact absurd rfl hij
  | 0,1,hr,hs=>obtain rfl:=Option.some.inj hr;obtain rfl:=Option.some.inj hs;exact .inr fun e=>by have e2:g6=g7:=Option.some.inj e;omega
  | 0,2,hr,hs=>obtain rfl:=Option.some.inj hr;obtain rfl:=Option.some.inj hs;exact .inr fun e=>by have e2:g6=g8:=Option.some.inj e;omega
  | 1,0,hr,hs=>obtain rfl:=Option.some.inj hr;obtain rfl:=Option.some.inj hs;exact .inr fun e=>by have e2:g7=g6:=Option.some.inj e;omega
  | 1,2,hr,hs=>obtain rfl:=Option.some.inj hr;obtain rfl:=Option.some.inj hs;exact .inr fun e=>hne (Option.some.inj e)
  | 2,0,hr,hs=>obtain rfl:=Option.some.inj hr;obtain rfl:=Option.some.inj hs;exact .inr fun e=>by have e2:g8=g6:=Option.some.inj e;omega
  | 2,1,hr,hs=>obtain rfl:=Option.some.inj hr;obtain rfl:=Option.some.inj hs;exact .inr fun e=>hne (Option.some.inj e).symm
  | 3,_,hr,_=>obtain rfl:=Option.some.inj hr;exact .inl rfl
  | 4,_,hr,_=>obtain rfl:=Option.some.inj hr;exact .inl rfl
  | i+5,_,hr,_=>cases hr
  | 0,3,_,hs=>obtain rfl:=Option.some.inj hs;exact Ap.symm (.inl rfl)
  | 1,3,_,hs=>obtain rfl:=Option.some.inj hs;exact Ap.symm (.inl rfl)
  | 2,3,_,hs=>obtain rfl:=Option.some.inj hs;exact Ap.symm (.inl rfl)
  | 0,4,_,hs=>obtain rfl:=Option.some.inj hs;exact Ap.symm (.inl rfl)
  | 1,4,_,hs=>obtain rfl:=Option.some.inj hs;exact Ap.symm (.inl rfl)
  | 2,4,_,hs=>obtain rfl:=Option.some.inj hs;exact Ap.symm (.inl rfl)
  | 0,j+5,_,hs=>cases hs
  | 1,j+5,_,hs=>cases hs
  | 2,j+5,_,hs=>cases hs
 ·have k:=(htr v hv).2 a ha;match i,hr with
  | 0,hr=>obtain rfl:=Option.some.inj hr;exact k.2
  | 1,hr=>obtain rfl:=Option.some.inj hr;exact fun e=>by have e2:a.block=g7:=Option.some.inj e;omega
  | 2,hr=>obtain rfl:=Option.some.inj hr;exact fun e=>by have e2:a.block=g8:=Option.some.inj e;omega
  | 3,hr=>obtain rfl:=Option.some.inj hr;exact fun e=>by cases e
  | 4,hr=>obtain rfl:=Option.some.inj hr;exact fun e=>by cases e
  | i+5,hr=>cases hr
def pvR (b:Option Piv):Int:=match b with | none=>-1 | some p=>p.row
def pvC (b:Option Piv):Int:=match b with | none=>-1 | some p=>p.col
def pvL (b:Option Piv):Int:=match b with | none=>0 | some p=>p.cost
theorem pickUp_succ (T:List (List Rat)) (OB OC:List Bool) (n k:Nat):pickUp T OB OC n (k+1)=pickIn T OB OC n k (pickUp T OB OC n k) n:=rfl
theorem pick_no {T:List (List Rat)} {OB OC:List Bool} {n k i:Nat} {b b':Option Piv} (hb:pickIn T OB OC n k b i=b') (h:¬(OB.getD i false=true∧OC.getD k false=true∧tq T i k≠0)):pickIn T OB OC n k b (i+1)=b':=by
 rw[←hb];exact fA h
theorem pick_yes {T:List (List Rat)} {OB OC:List Bool} {n k i:Nat} {b b' r:Option Piv} (hb:pickIn T OB OC n k b i=b') (h:OB.getD i false=true∧OC.getD k false=true∧tq T i k≠0) (hr:pst b' ⟨costT T OB OC n i k,(k:Int),(i:Int)⟩=r):pickIn T OB OC n k b (i+1)=r:=by
 rw[←hr,←hb];exact gA h
theorem getD_of {α:Type} {L:List α} {i:Nat} {x d:α} (h:L[i]?=some x):L.getD i d=x:=by rw[bA,h];rfl
theorem pick_row {T:List (List Rat)} {OB OC:List Bool} {n k i:Nat} {q:Piv} (hi:i≤n) (h:pickIn T OB OC n k (pickUp T OB OC n k) i=some q):0≤q.row:=by
 have h1:MinP (Met T OB OC n k i) (some q):=by rw[←h];exact pickIn_min T OB OC n k (pickUp_min T OB OC n k) i hi
 obtain⟨i',k',_,_,_,_,_,rfl⟩:=h1.1;exact Int.natCast_nonneg _
def RO1 (w:World) (g6 g7 g8 n:Nat) (V:List Fw) (gk:Nat) (s:Value) (wr:World):Prop:=∃i:Nat,i≤n∧n-i=gk∧s=.int .i64 (i:Int)∧FT wr w.heap.size [roT g6 n n V,roB g7 n (opnL i n),roB g8 n (opnL i n),roI none 0 0 [],roI none 0 0 []] 1900 V∧Below w.heap.size w wr
def RO2 (w:World) (g6 g7 g8 n:Nat) (s0:OrdSt) (gk:Nat) (x10 x11 x12:Value) (wr:World):Prop:=∃(s m:Nat) (V:List Fw) (H10:Option Addr) (c10:Nat) (H11:Option Addr) (c11:Nat),s≤n∧n-s=gk∧m=(ordUp n s0 s).P.length∧m≤s∧V.map Fw.q=(ordUp n s0 s).T∧x10=.slice H10 m c10∧x11=.slice H11 m c11∧x12=.int .i64 (s:Int)∧
 FT wr w.heap.size [roT g6 n n V,roB g7 n (ordUp n s0 s).OB,roB g8 n (ordUp n s0 s).OC,roI H10 m c10 ((ordUp n s0 s).P.map fun p=>p.1),roI H11 m c11 ((ordUp n s0 s).P.map fun p=>p.2)] 1900 V∧Below w.heap.size w wr
def RO3 (wo:World) (n:Nat) (T:List (List Rat)) (OB OC:List Bool) (gk:Nat) (s13 s14 s15 s16:Value) (wr:World):Prop:=∃k:Nat,k≤n∧n-k=gk∧s13=.int .i64 (pvR (pickUp T OB OC n k))∧s14=.int .i64 (pvC (pickUp T OB OC n k))∧s15=.int .i64 (pvL (pickUp T OB OC n k))∧s16=.int .i64 (k:Int)∧Below wo.heap.size wo wr
def RO4 (wo:World) (n:Nat) (T:List (List Rat)) (OB OC:List Bool) (k gk:Nat) (s13 s14 s15 s17:Value) (wr:World):Prop:=∃i:Nat,i≤n∧n-i=gk∧s13=.int .i64 (pvR (pickIn T OB OC n k (pickUp T OB OC n k) i))∧s14=.int .i64 (pvC (pickIn T OB OC n k (pickUp T OB OC n k) i))∧s15=.int .i64 (pvL (pickIn T OB OC n k (pickUp T OB OC n k) i))∧s17=.int .i64 (i:Int)∧Below wo.heap.size wo wr
def RO5 (w:World) (g6 n:Nat) (R:List Ro) (T:List (List Rat)) (OB:List Bool) (r c gk:Nat) (s:Value) (wr:World):Prop:=∃(i:Nat) (V:List Fw),i≤n∧n-i=gk∧s=.int .i64 (i:Int)∧FT wr w.heap.size (roT g6 n n V :: R) 1900 V∧V.map Fw.q=elimT T OB r c i∧Below w.heap.size w wr
theorem RO2.next {w wr:World} {g6 g7 g8 n gk s m r c:Nat} {s0 st:OrdSt} {V:List Fw} {H10 H11:Option Addr} {c10 c11:Nat} {x10 x11 x12:Value} {p:Piv} (hst:ordUp n s0 s=st) (hp:pickF st.T st.OB st.OC n=some p) (hs:s+1≤n) (hgk:n-(s+1)=gk) (hV:V.map Fw.q=elimT st.T st.OB p.row.toNat p.col.toNat n) (h10:x10=.slice H10 (m+1) c10) (h11:x11=.slice H11 (m+1) c11) (h12:x12=.int .i64 ((s+1:Nat):Int))
  (hm:m=st.P.length) (hms:m≤s) (hr:p.row=(r:Int)) (hc:p.col=(c:Int)) (hF:FT wr w.heap.size [roT g6 n n V,roB g7 n (st.OB.set r false),roB g8 n (st.OC.set c false),roI H10 (m+1) c10 ((st.P.map fun p=>p.1)++[(r:Int)]),roI H11 (m+1) c11 ((st.P.map fun p=>p.2)++[(c:Int)])] 1900 V) (hB:Below w.heap.size w wr):RO2 w g6 g7 g8 n s0 gk x10 x11 x12 wr:=by
 have h1:=ord_step (n:=n) (s:=s0) (k:=s) (p:=p) (by rw[hst];exact hp);rw[hst] at h1;refine⟨s+1,m+1,V,H10,c10,H11,c11,hs,hgk,by rw[h1];show m+1=(st.P++[_]).length;rw[yC,hm];rfl,zo,by rw[h1];exact hV,h10,h11,h12,?_,hB⟩;rw[h1];show FT wr w.heap.size [roT g6 n n V,roB g7 n (st.OB.set p.row.toNat false),roB g8 n (st.OC.set p.col.toNat false),roI H10 (m+1) c10 ((st.P++[(p.row,p.col)]).map fun p=>p.1),roI H11 (m+1) c11 ((st.P++[(p.row,p.col)]).map fun p=>p.2)] 1900 V
 rw[jF,jF,hr,hc,eF,eF];exact hF
theorem fw_shape {w:World} {M n:Nat} {v:Fw} (h:FOk w v M) (hq:v.q.length=n):v.n=n:=by
 rw[←h.1.1,←hq];unfold Fw.q;rw[cB]
theorem fq_len {V:List Fw} {T:List (List Rat)} {n m i:Nat} {v:Fw} (hV:V.map Fw.q=T) (hT:Sq T n m) (h:V[i]?=some v):v.q.length=m∧i<n∧v.q=T.getD i []:=by
 have h1:i<V.length:=(yA.1 h).1;have h2:V.length=n:=by rw[←hT.1,←hV,cB]
 have h3:T.getD i []=v.q:=by rw[←hV,bA,rA,h];rfl
 exact⟨by rw[←h3];exact hT.2 i zo,zo,h3.symm⟩
theorem fw_at {v:Fw} {k:Nat} {x:Fr} (h:v.L[k]?=some x):v.q.getD k 0=x.q:=by unfold Fw.q;rw[bA,rA,h];rfl
theorem order_r {w:World} {A:Option Addr} {n c M:Nat} {CL:List Vc} {PF:List (Int×Int)} (h:Sl Vc.cs 1 w A n c CL) (hcl:Hid (∀v∈CL,GV w v.A v.n v.c (prs v.L) M∧v.n≤12)) (hM:M≤880) (hn:n≤7) (hO:Hid (∀s,s≤7→OrdOk n s (ordUp n (ordT (CL.map fun v=>prs v.L) n) s))) (hP:Hid ((ordUp n (ordT (CL.map fun v=>prs v.L) n) n).P=PF)) :
  Calls Tryz.prog 12 #[.slice A n c,.int .i64 (n:Int)] w fun e w'=>∃(H10:Option Addr) (c10:Nat) (H11:Option Addr) (c11:Nat),e=.returned (.tuple #[.slice H10 PF.length c10,.slice H11 PF.length c11])∧
   Sl ics 1 w' H10 PF.length c10 (PF.map fun p=>p.1)∧Sl ics 1 w' H11 PF.length c11 (PF.map fun p=>p.2)∧Below w.heap.size w w':=by
 have HN7:=zh hn;have hls:=zh h.1;obtain⟨s0,hs0⟩:∃s0,s0=ordT (CL.map fun v=>prs v.L) n:=⟨_,rfl⟩;rw[←hs0] at hO hP;have HS0:=zh hs0;clear hs0;have hB:=Below.refl w.heap.size w;have Bz:=zr w;go_enter Tryz.func12,Tryz.ntmps12
 go_wp2_with fail
 with_reducible refine(table_q (h.below (bT hB (bT (b:=w) Bz))) (zh fun v hv=>⟨((hcl.out v hv).1).below (bT hB (bT (b:=w) Bz)),(hcl.out v hv).2⟩) hM zo zo).mono ?_
 rintro e w1 ⟨g6,V,rfl,ho1,htr,hvq,J⟩;replace J:=zq (a:=w) J;replace Bz:=bT Bz J;clear J;go_wp2_with fail
 have HO1:=zh ho1;have HTR:=zh htr;have HVQ:=zh hvq;have HB1:=zh (bT hB Bz);clear ho1 htr hvq hB Bz;go_upto_region 2 with(fail)
 go_cut [7,8] (fun p q wx=>∃g7 g8:Nat,p=.slice (some ⟨g7,0,none⟩) n n∧q=.slice (some ⟨g8,0,none⟩) n n∧FT wx w.heap.size [roT g6 n n V,roB g7 n (opnL 0 n),roB g8 n (opnL 0 n),roI none 0 0 [],roI none 0 0 []] 1900 V∧Below w.heap.size w wx)
 case first =>
  have Bz:=zr w1;go_wp2_with fail
  (try simp only[vAa,vBa,vC])
  refine zl (zz [0,2] (.two 1 (.take 4 (.only 3 (.take 5 .done))) 3 (.only 1 (.take 4 (.take 5 .done))))) [] zn ?_;iterate 2 (refine zUa ?_;try simp only[uW,uX,uY,uZ])
  refine wpPlan_two (o:=⟨some 24,_,_,_,_,_⟩) (o':=⟨some 26,_,_,_,_,_⟩) rfl rfl rfl rfl (fun K hK=>?_) (fun K hK=>?_)
  ·refine Elt.makeO elt_bls false (fun i z h1 h2=>bl_zero h1 h2) (.tmp 23) (.tmp 23) rfl .i64 .i64 n rfl rfl zo w1.heap.size (cA _) ?_;intro g6 w6 ho6 J;replace J:=zq (a:=w1) J;have hgb6:=OwnR.base ho6 g6 rfl;have hgl6:=OwnR.lt ho6 g6 rfl;replace Bz:=bT Bz J;clear J;refine hK.out _ _ trivial (fun _=>?_);try simp only[uW,uX,uY,uZ]
   clear hK K;refine zUa ?_;try simp only[uW,uX,uY,uZ]
   refine zC 26 rfl rfl (fun K hK=>?_);refine Elt.makeO elt_bls false (fun i z h1 h2=>bl_zero h1 h2) (.tmp 25) (.tmp 25) rfl .i64 .i64 n rfl rfl zo w6.heap.size (cA _) ?_;intro g7 w7 ho7 J;replace J:=zq (a:=w6) J;have hgb7:=OwnR.base ho7 g7 rfl;have hgl7:=OwnR.lt ho7 g7 rfl;replace ho6:=ho6.below J;replace Bz:=bT Bz J;clear J;refine hK.out _ _ trivial (fun _=>?_);try simp only[uW,uX,uY,uZ]
   clear hK K;refine zUa ?_;try simp only[uW,uX,uY,uZ]
   refine zAa ?_;go_wp2_with fail
   go_meet
   case rel=>exact⟨g6,g7,rfl,rfl,FT.two HO1.out HTR.out zo (HB1.out.size) (OwnR.below ho6) (OwnR.below ho7) (zi Bz.size) (zi Bz.size) zo (bT Bz),bT (bT HB1.out Bz)⟩
  ·refine Elt.makeO elt_bls false (fun i z h1 h2=>bl_zero h1 h2) (.tmp 25) (.tmp 25) rfl .i64 .i64 n rfl rfl zo w1.heap.size (cA _) ?_;intro g6 w6 ho6 J;replace J:=zq (a:=w1) J;have hgb6:=OwnR.base ho6 g6 rfl;have hgl6:=OwnR.lt ho6 g6 rfl;replace Bz:=bT Bz J;clear J;refine hK.out _ _ trivial (fun _=>?_);try simp only[uW,uX,uY,uZ]
   clear hK K;refine zC 24 rfl rfl (fun K hK=>?_);refine Elt.makeO elt_bls false (fun i z h1 h2=>bl_zero h1 h2) (.tmp 23) (.tmp 23) rfl .i64 .i64 n rfl rfl zo w6.heap.size (cA _) ?_;intro g7 w7 ho7 J;replace J:=zq (a:=w6) J;have hgb7:=OwnR.base ho7 g7 rfl;have hgl7:=OwnR.lt ho7 g7 rfl;replace ho6:=ho6.below J;replace Bz:=bT Bz J;clear J;refine hK.out _ _ trivial (fun _=>?_);try simp only[uW,uX,uY,uZ]
   clear hK K;iterate 2 (refine zUa ?_;try simp only[uW,uX,uY,uZ])
   refine zAa ?_;go_wp2_with fail
   go_meet
   case rel=>exact⟨g7,g6,rfl,rfl,FT.two HO1.out HTR.out zo (HB1.out.size) (OwnR.below ho7) (OwnR.below ho6) (zi Bz.size) (zi Bz.size) zo (bT Bz),bT (bT HB1.out Bz)⟩
 case rest =>
  obtain⟨g7,g8,rfl,rfl,hF,hB2⟩:=hcut;obtain⟨wx,rfl,hB3⟩:∃wx,wx=_∧Below w.heap.size w wx:=⟨_,rfl,hB2⟩;have HF:=zh hF;have HB2:=zh hB3;clear hB2 hB3 hF HO1 HTR HB1;go_wp2_with fail
  go_loopg [9] n (fun gk s wr=>RO1 w g6 g7 g8 n V gk s wr)
  case atStart=>exact⟨0,nA _,rfl,rfl,HF.out.below (by go_grown),bT HB2.out⟩
  case round =>
  clear HF HB2;obtain⟨i,hi,hgk,rfl,hF,hB⟩:=hrel;have HGK:=zh hgk;clear hgk;by_cases hlt:i<n
  ·have i1:(i:Int)<(n:Int):=zo;have i2:(0:Int)≤(i:Int):=zo;have HOI:=zh (opnL_get hlt);have Bz:=zr wr;have pB0:=bl_cell (hF.own 1 _ rfl) HOI.out;have fB0:=OwnR.frozen (hF.own 1 _ rfl) i;have y51:=(OwnR.blk (hF.own 1 _ rfl)).1;go_upto_region 7 with(fail)
   obtain⟨V11,hV,hx2,hg2⟩:=bl_store (hF.own 1 _ rfl) HOI.out true;rw[←hV];clear hV;have hbg:=OwnR.base (hF.own 1 _ rfl) g7 rfl;replace hB:=(bT hB Bz).trans (hg2.below (zi (zw hB Bz)) (rowB hbg));have hF2:FT V11 w.heap.size [roT g6 n n V,roB g7 n ((opnL i n).set i true),roB g8 n (opnL i n),roI none 0 0 [],roI none 0 0 []] 1900 V:=FT.upd (i:=1) (r':=roB g7 n ((opnL i n).set i true)) hF rfl hx2 hg2;clear hF;have hF:=hF2;clear hF2 hx2 hg2 Bz hbg;have Bz:=zr V11;clear pB0 fB0 y51;have pC0:=bl_cell (hF.own 2 _ rfl) HOI.out;have fC0:=OwnR.frozen (hF.own 2 _ rfl) i;have y52:=(OwnR.blk (hF.own 2 _ rfl)).1;go_upto_region 5 with(fail)
   obtain⟨V12,hV,hx2,hg2⟩:=bl_store (hF.own 2 _ rfl) HOI.out true;rw[←hV];clear hV;have hbg:=OwnR.base (hF.own 2 _ rfl) g8 rfl;replace hB:=(bT hB Bz).trans (hg2.below (zi (zw hB Bz)) (rowB hbg));have hF2:FT V12 w.heap.size [roT g6 n n V,roB g7 n ((opnL i n).set i true),roB g8 n ((opnL i n).set i true),roI none 0 0 [],roI none 0 0 []] 1900 V:=FT.upd (i:=2) (r':=roB g8 n ((opnL i n).set i true)) hF rfl hx2 hg2;clear hF;have hF:=hF2;clear hF2 hx2 hg2 Bz hbg;have Bz:=zr V12;clear pC0 fC0 y52;go_wp2_with fail
   rw[opnL_set hlt] at hF;go_roundg (n-(i+1))
   case measure=>have:=HGK.out;omega
   case rel=>exact⟨i+1,zo,rfl,by go_num,FT.below hF,bT (bT hB Bz)⟩
  obtain rfl:n=i:=zo;have i1:¬(n:Int)<(n:Int):=zo;rw[opnL_full] at hF;have HF:=zh hF;have HB1:=zh hB;clear hF hB HGK hlt hi;go_wp2_with fail
  clear i1;go_loopg [10,11,12] n (fun gk x y z wr=>RO2 w g6 g7 g8 n s0 gk x y z wr)
  case atStart=>exact⟨0,0,V,none,0,none,0,nA _,rfl,by rw[HS0.out];rfl,cA _,by rw[HVQ.out,HS0.out];rfl,rfl,rfl,rfl,by rw[HS0.out];exact HF.out.below (by go_grown),bT HB1.out⟩
  case round =>
  clear HF HB1 HVQ;obtain⟨s,m,V,H10,c10,H11,c11,hs,hgk,hm,hms,hv,rfl,rfl,rfl,hF,hB⟩:=hrel;have HGS:=zh hgk;clear hgk;obtain⟨T,OB,OC,P,hst⟩:∃T OB OC P,ordUp n s0 s=⟨T,OB,OC,P⟩:=⟨_,_,_,_,rfl⟩;have HST:=zh hst;have HOK:=zh (hO.out s (zi HN7.out));rw[hst] at hm hv hF HOK;obtain⟨L10,h10⟩:∃L,L=P.map fun p=>p.1:=⟨_,rfl⟩;obtain⟨L11,h11⟩:∃L,L=P.map fun p=>p.2:=⟨_,rfl⟩;simp only at hm hv hF
  rw[←h10,←h11] at hF;have HL10:=zh h10;have HL11:=zh h11;have HM:Hid (m=P.length):=zh hm;have HLS:Hid (m≤s):=zh hms;have hm7:m≤7:=zi HN7.out;have HV:=zh hv;have HF:=zh hF;have HB1:=zh hB;clear hst hm h10 h11;by_cases hls2:s<n
  ·have i1:(s:Int)<(n:Int):=zo;have HOK2:=zh (hO.out (s+1) (zi HN7.out));have hsq:Sq T n n:=HOK.out.sq;have HVL:Hid (V.length=n):=zh (by rw[←hsq.1,←hv,cB]);have HVN:Hid (∀v∈V,v.n=n):=zh fun v hvm=>by
    obtain⟨j,hj⟩:=bD hvm;exact fw_shape (hF.row v hvm).1 (fq_len hv hsq hj).1
   have HBL:Hid (OB.length=n):=zh HOK.out.hB;have HCL:Hid (OC.length=n):=zh HOK.out.hC;clear hms hv hsq hF hB;go_wp2_with fail
   obtain⟨wo,hwo⟩:∃x:World,x=wr:=⟨_,rfl⟩;subst hwo;go_loopg [13,14,15,16] n (fun gk s13 s14 s15 s16 wr=>RO3 wo n T OB OC gk s13 s14 s15 s16 wr)
   case atStart=>exact⟨0,nA _,rfl,rfl,rfl,rfl,rfl,by go_grown⟩
   case round =>
   obtain⟨k,hk,hgk,rfl,rfl,rfl,rfl,hB⟩:=hrel;have HGK:=zh hgk;clear hgk;by_cases hlt:k<n
   ·have j1:(k:Int)<(n:Int):=zo;have j2:(0:Int)≤(k:Int):=zo;obtain⟨b0,hb0⟩:∃b,b=pickUp T OB OC n k:=⟨_,rfl⟩;rw[←hb0];have HB0:=zh hb0;have HBW:=zh hB;clear hb0 hB;go_wp2_with fail
    go_loopg [13,14,15,17] n (fun gk s13 s14 s15 s17 wr=>RO4 wo n T OB OC k gk s13 s14 s15 s17 wr)
    case atStart=>exact⟨0,nA _,rfl,by rw[HB0.out];rfl,by rw[HB0.out];rfl,by rw[HB0.out];rfl,rfl,bT HBW.out⟩
    case round =>
    clear HBW HB0;obtain⟨i,hi,hgi,rfl,rfl,rfl,rfl,hB⟩:=hrel;have HGI:=zh hgi;clear hgi;obtain⟨b,hb⟩:∃b,pickIn T OB OC n k (pickUp T OB OC n k) i=b:=⟨_,rfl⟩;have HPK:=zh hb;rw[hb];by_cases hlt2:i<n
    ·have i1:(i:Int)<(n:Int):=zo;have i2:(0:Int)≤(i:Int):=zo;have hF:=HF.out.below hB;have hpr:∀q,b=some q→0≤q.row:=fun q hq=>pick_row hi (hb.trans hq);obtain⟨o1,ho1⟩:∃o,OB[i]?=some o:=⟨_,aA (by rw[HBL.out];exact hlt2)⟩;obtain⟨o2,ho2⟩:∃o,OC[k]?=some o:=⟨_,aA (by rw[HCL.out];exact hlt)⟩;obtain⟨v,hvi⟩:∃v,V[i]?=some v:=⟨_,aA (by rw[HVL.out];exact hlt2)⟩;have hvr:=HF.out.row v (dA hvi);have hvn:=HVN.out v (dA hvi);have hvq:=(fq_len HV.out HOK.out.sq hvi).2.2;obtain⟨vA,vn,vc,vL⟩:=v;obtain rfl:n=vn:=hvn.symm;obtain⟨⟨v1,v2⟩,v3⟩:=hvr;obtain⟨x,hlx⟩:∃x,vL[k]?=some x:=⟨_,aA (by have:=v1.1;simp only at this;omega)⟩;obtain⟨vb,vo,hva,hve⟩:=v1.at Fr.cs_len zo (by show 0<_;omega);obtain rfl:vA=some ⟨vb,vo,none⟩:=hva;have hx:=hve k x hlx;have fx:=(v2 x (dA hlx)).1.below hB;have HZx:Hid (sz x.q≤1899):=zh (Nat.le_of_succ_le_succ (v2 x (dA hlx)).2.2);have HTX:Hid (tq T i k=x.q):=zh (by unfold tq;rw[←hvq];exact fw_at hlx);have HOB:=zh ho1;have HOC:=zh ho2;have HVI:=zh hvi;have e1:OB.getD i false=o1:=getD_of ho1;have e2:OC.getD k false=o2:=getD_of ho2;clear hve v1 v2 v3 hvq hlx ho1 ho2 hvi hb;cases o1
     ·-- the row is shut
      obtain⟨r0,hr0⟩:∃r,r=pvR b:=⟨_,rfl⟩;obtain⟨r1,hr1⟩:∃r,r=pvC b:=⟨_,rfl⟩;obtain⟨r2,hr2⟩:∃r,r=pvL b:=⟨_,rfl⟩;rw[←hr0,←hr1,←hr2];have HR0:=zh hr0;have HR1:=zh hr1;have HR2:=zh hr2;have HNO:=zh (pick_no HPK.out (by rw[e1];exact fun c=>Bool.noConfusion c.1));clear hr0 hr1 hr2 hpr e1 e2;have Bz:=zr wr;have pB0:=bl_cell (hF.own 1 _ rfl) HOB.out;go_wp2_with fail
      go_roundg (n-(i+1))
      case measure=>have:=HGI.out;omega
      case rel=>exact⟨i+1,zo,rfl,by rw[HNO.out,←HR0.out],by rw[HNO.out,←HR1.out],by rw[HNO.out,←HR2.out],by go_num,bT (bT hB Bz)⟩
     ·cases o2
      ·-- the column is shut
       obtain⟨r0,hr0⟩:∃r,r=pvR b:=⟨_,rfl⟩;obtain⟨r1,hr1⟩:∃r,r=pvC b:=⟨_,rfl⟩;obtain⟨r2,hr2⟩:∃r,r=pvL b:=⟨_,rfl⟩;rw[←hr0,←hr1,←hr2];have HR0:=zh hr0;have HR1:=zh hr1;have HR2:=zh hr2;have HNO:=zh (pick_no HPK.out (by rw[e2];exact fun c=>Bool.noConfusion c.2.1));clear hr0 hr1 hr2 hpr e1 e2;have Bz:=zr wr;have pB0:=bl_cell (hF.own 1 _ rfl) HOB.out;have pC0:=bl_cell (hF.own 2 _ rfl) HOC.out;go_wp2_with fail
       go_roundg (n-(i+1))
       case measure=>have:=HGI.out;omega
       case rel=>exact⟨i+1,zo,rfl,by rw[HNO.out,←HR0.out],by rw[HNO.out,←HR1.out],by rw[HNO.out,←HR2.out],by go_num,bT (bT hB Bz)⟩
      ·by_cases z1:x.q=0
       ·-- a zero
        obtain⟨r0,hr0⟩:∃r,r=pvR b:=⟨_,rfl⟩;obtain⟨r1,hr1⟩:∃r,r=pvC b:=⟨_,rfl⟩;obtain⟨r2,hr2⟩:∃r,r=pvL b:=⟨_,rfl⟩;rw[←hr0,←hr1,←hr2];have HR0:=zh hr0;have HR1:=zh hr1;have HR2:=zh hr2;have HNO:=zh (pick_no HPK.out (by rw[HTX.out];exact fun c=>c.2.2 z1));clear hr0 hr1 hr2 hpr e1 e2;have g1:=sign_q0 z1;have Bz:=zr wr;have pB0:=bl_cell (hF.own 1 _ rfl) HOB.out;have pC0:=bl_cell (hF.own 2 _ rfl) HOC.out;have pD0:=(show _=some (Value.slice (some ⟨vb,vo,none⟩) n vc) from fw_cell (hF.own 0 _ rfl) HVI.out);have pE0:=(hx.below (bT hB Bz)).c0 (u:=.bool x.s) rfl;have pE1:=(hx.below (bT hB Bz)).at 1 (.slice x.A x.l x.c) rfl;have pE2:=(hx.below (bT hB Bz)).at 2 (.bool x.s') rfl;have pE3:=(hx.below (bT hB Bz)).at 3 (.slice x.A' x.l' x.c') rfl;go_wp2_with fail
        with_reducible refine(sign_r4 (RN.r' (RN.below fx) HZx.out) zo x.q.num.sign (zh rfl)).mono ?_
        rintro e w31 ⟨rfl,J⟩;replace J:=zq (a:=wr) J;replace Bz:=bT Bz J;clear J;clear pB0 pC0 pD0 pE0 pE1 pE2 pE3;go_wp2_with fail
        go_roundg (n-(i+1))
        case measure=>have:=HGI.out;omega
        case rel=>exact⟨i+1,zo,rfl,by rw[HNO.out,←HR0.out],by rw[HNO.out,←HR1.out],by rw[HNO.out,←HR2.out],by go_num,bT (bT hB Bz)⟩
       ·have g1:=sign_qe z1;have hyes:OB.getD i false=true∧OC.getD k false=true∧tq T i k≠0:=⟨e1,e2,by rw[HTX.out];exact z1⟩;cases b with
        | none =>
         rw[show pvR none = -1 from rfl,show pvC none = -1 from rfl,show pvL none=0 from rfl];have HYES:=zh (pick_yes (r:=some ⟨costT T OB OC n i k,(k:Int),(i:Int)⟩) HPK.out hyes rfl);clear hyes hpr e1 e2;have Bz:=zr wr;have pB0:=bl_cell (hF.own 1 _ rfl) HOB.out;have pC0:=bl_cell (hF.own 2 _ rfl) HOC.out;have pD0:=(show _=some (Value.slice (some ⟨vb,vo,none⟩) n vc) from fw_cell (hF.own 0 _ rfl) HVI.out);have pE0:=(hx.below (bT hB Bz)).c0 (u:=.bool x.s) rfl;have pE1:=(hx.below (bT hB Bz)).at 1 (.slice x.A x.l x.c) rfl;have pE2:=(hx.below (bT hB Bz)).at 2 (.bool x.s') rfl;have pE3:=(hx.below (bT hB Bz)).at 3 (.slice x.A' x.l' x.c') rfl;go_wp2_with fail
         with_reducible refine(sign_r4 (RN.r' (RN.below fx) HZx.out) zo x.q.num.sign (zh rfl)).mono ?_
         rintro e w31 ⟨rfl,J⟩;replace J:=zq (a:=wr) J;replace hF:=hF.below J;replace Bz:=bT Bz J;clear J;clear pB0 pC0 pD0 pE0 pE1 pE2 pE3;go_wp2_with fail
         with_reducible refine(cost_T i k (FT.below hF) HV HVN hlt2 hlt HN7.out).mono ?_
         rintro e w32 ⟨rfl,J⟩;replace J:=zq (a:=w31) J;replace Bz:=bT Bz J;clear J;go_wp2_with fail
         go_roundg (n-(i+1))
         case measure=>have:=HGI.out;omega
         case rel=>exact⟨i+1,zo,rfl,by rw[HYES.out];rfl,by rw[HYES.out];rfl,by rw[HYES.out];rfl,by go_num,bT (bT hB Bz)⟩
        | some q =>
         have i5:¬q.row<0:=zi (hpr q rfl);rw[show pvR (some q)=q.row from rfl,show pvC (some q)=q.col from rfl,show pvL (some q)=q.cost from rfl];by_cases z2:costT T OB OC n i k<q.cost
         ·-- a better one
          have HYES:=zh (pick_yes (r:=some ⟨costT T OB OC n i k,(k:Int),(i:Int)⟩) HPK.out hyes (gA z2));clear hyes hpr e1 e2;have Bz:=zr wr;have pB0:=bl_cell (hF.own 1 _ rfl) HOB.out;have pC0:=bl_cell (hF.own 2 _ rfl) HOC.out;have pD0:=(show _=some (Value.slice (some ⟨vb,vo,none⟩) n vc) from fw_cell (hF.own 0 _ rfl) HVI.out);have pE0:=(hx.below (bT hB Bz)).c0 (u:=.bool x.s) rfl;have pE1:=(hx.below (bT hB Bz)).at 1 (.slice x.A x.l x.c) rfl;have pE2:=(hx.below (bT hB Bz)).at 2 (.bool x.s') rfl;have pE3:=(hx.below (bT hB Bz)).at 3 (.slice x.A' x.l' x.c') rfl;go_wp2_with fail
          with_reducible refine(sign_r4 (RN.r' (RN.below fx) HZx.out) zo x.q.num.sign (zh rfl)).mono ?_
          rintro e w31 ⟨rfl,J⟩;replace J:=zq (a:=wr) J;replace hF:=hF.below J;replace Bz:=bT Bz J;clear J;clear pB0 pC0 pD0 pE0 pE1 pE2 pE3;go_wp2_with fail
          with_reducible refine(cost_T i k (FT.below hF) HV HVN hlt2 hlt HN7.out).mono ?_
          rintro e w32 ⟨rfl,J⟩;replace J:=zq (a:=w31) J;replace Bz:=bT Bz J;clear J;go_wp2_with fail
          go_roundg (n-(i+1))
          case measure=>have:=HGI.out;omega
          case rel=>exact⟨i+1,zo,rfl,by rw[HYES.out];rfl,by rw[HYES.out];rfl,by rw[HYES.out];rfl,by go_num,bT (bT hB Bz)⟩
         ·-- no better one
          have HYES:=zh (pick_yes (r:=some q) HPK.out hyes (fA z2));clear hyes hpr e1 e2;have Bz:=zr wr;have pB0:=bl_cell (hF.own 1 _ rfl) HOB.out;have pC0:=bl_cell (hF.own 2 _ rfl) HOC.out;have pD0:=(show _=some (Value.slice (some ⟨vb,vo,none⟩) n vc) from fw_cell (hF.own 0 _ rfl) HVI.out);have pE0:=(hx.below (bT hB Bz)).c0 (u:=.bool x.s) rfl;have pE1:=(hx.below (bT hB Bz)).at 1 (.slice x.A x.l x.c) rfl;have pE2:=(hx.below (bT hB Bz)).at 2 (.bool x.s') rfl;have pE3:=(hx.below (bT hB Bz)).at 3 (.slice x.A' x.l' x.c') rfl;go_wp2_with fail
          with_reducible refine(sign_r4 (RN.r' (RN.below fx) HZx.out) zo x.q.num.sign (zh rfl)).mono ?_
          rintro e w31 ⟨rfl,J⟩;replace J:=zq (a:=wr) J;replace hF:=hF.below J;replace Bz:=bT Bz J;clear J;clear pB0 pC0 pD0 pE0 pE1 pE2 pE3;go_wp2_with fail
          with_reducible refine(cost_T i k (FT.below hF) HV HVN hlt2 hlt HN7.out).mono ?_
          rintro e w32 ⟨rfl,J⟩;replace J:=zq (a:=w31) J;replace Bz:=bT Bz J;clear J;go_wp2_with fail
          go_roundg (n-(i+1))
          case measure=>have:=HGI.out;omega
          case rel=>exact⟨i+1,zo,rfl,by rw[HYES.out];rfl,by rw[HYES.out];rfl,by rw[HYES.out];rfl,by go_num,bT (bT hB Bz)⟩
    ·obtain rfl:n=i:=zo;have i1:¬(n:Int)<(n:Int):=zo;obtain⟨r0,hr0⟩:∃r,r=pvR b:=⟨_,rfl⟩;obtain⟨r1,hr1⟩:∃r,r=pvC b:=⟨_,rfl⟩;obtain⟨r2,hr2⟩:∃r,r=pvL b:=⟨_,rfl⟩;rw[←hr0,←hr1,←hr2];have HR0:=zh hr0;have HR1:=zh hr1;have HR2:=zh hr2;clear hr0 hr1 hr2 hb hlt2 hi;have Bz:=zr wr;go_wp2_with fail
     go_roundg (n-(k+1))
     case measure=>have:=HGK.out;omega
     case rel=>exact⟨k+1,zo,rfl,by rw[pickUp_succ,HPK.out,←HR0.out],by rw[pickUp_succ,HPK.out,←HR1.out],by rw[pickUp_succ,HPK.out,←HR2.out],by go_num,bT (bT hB Bz)⟩
   ·obtain rfl:n=k:=zo;have j1:¬(n:Int)<(n:Int):=zo;cases hpk:pickUp T OB OC n n with
    | none =>
     rw[show pvR none = -1 from rfl,show pvC none = -1 from rfl,show pvL none=0 from rfl];have HPF:Hid (P=PF):=zh (by rw[←hP.out,ord_stop (by rw[HST.out];exact hpk) hs,HST.out]);obtain rfl:=HPF.out;obtain rfl:=HM.out;have hs10:Sl ics 1 wo H10 P.length c10 (P.map fun p=>p.1):=by rw[←HL10.out];exact OwnR.sl' elt_ics (HF.out.own 3 _ rfl) (by rw[HL10.out,cB])
     have hs11:Sl ics 1 wo H11 P.length c11 (P.map fun p=>p.2):=by rw[←HL11.out];exact OwnR.sl' elt_ics (HF.out.own 4 _ rfl) (by rw[HL11.out,cB])
     have HS10:=zh (hs10.below hB);have HS11:=zh (hs11.below hB);replace hB:=bT HB1.out hB;clear hs10 hs11;have Bz:=zr wr;go_wp2_with fail
     go_ret2
     have hF:=bT (c:=wr) hB Bz;exact⟨_,_,_,_,rfl,HS10.out.below (by go_grown),HS11.out.below (by go_grown),bT hF⟩
    | some p =>
     obtain⟨r,c,hr,hc,ho,_,h0,hp⟩:=pick_mem (show pickF T OB OC n=some p from hpk);have HPK:Hid (pickF T OB OC n=some ⟨costT T OB OC n r c,(c:Int),(r:Int)⟩):=zh (by rw[←hp];exact hpk);subst hp;rw[show pvR (some ⟨costT T OB OC n r c,(c:Int),(r:Int)⟩)=(r:Int) from rfl,show pvC (some ⟨costT T OB OC n r c,(c:Int),(r:Int)⟩)=(c:Int) from rfl];obtain⟨l0,hl0⟩:∃l,l=pvL (some ⟨costT T OB OC n r c,(c:Int),(r:Int)⟩):=⟨_,rfl⟩;rw[←hl0];have HSM:Hid (∀i k,i<n→k<n→sz (tq (elimT T OB r c n) i k)≤1825):=zh (by
      have h1:=HOK2.out.small;rw[ord_step (by rw[HST.out];exact HPK.out),HST.out] at h1;exact h1)
     have HRO:Hid (OB.getD r false=true∧tq T r c≠0):=zh ⟨ho,h0⟩;have HF1:=zh (HF.out.below hB);have HB2:=zh (bT HB1.out hB);replace hB:=bT HB1.out hB;have r1:¬(r:Int)<0:=zo;clear hl0 hpk ho h0 HF HB1 HOK2;have Bz:=zr wr;go_wp2_with fail
     clear hB Bz;go_loopg [19] n (fun gk s wr=>RO5 w g6 n [roB g7 n OB,roB g8 n OC,roI H10 m c10 L10,roI H11 m c11 L11] T OB r c gk s wr)
     case atStart=>exact⟨0,V,nA _,rfl,rfl,HF1.out.below (by go_grown),HV.out,bT HB2.out⟩
     case round =>
     clear HF1 HB2 HV HVN HVL V;obtain⟨i,V,hi,hgi,rfl,hF,hvt,hB⟩:=hrel;have HGI:=zh hgi;have HVT:=zh hvt;clear hgi hvt;by_cases hlt:i<n
     ·have i2:(i:Int)<(n:Int):=zo;have i3:(0:Int)≤(i:Int):=zo;have i4:(r:Int)<(n:Int):=zo;have i5:(c:Int)<(n:Int):=zo;have i6:(0:Int)≤(r:Int):=zo;have i7:(0:Int)≤(c:Int):=zo;have hsq:Sq T n n:=HOK.out.sq;have hse:=elimT_sq hsq OB hr c i;have hvl:V.length=n:=by rw[←hse.1,←HVT.out,cB]
      obtain⟨o1,ho1⟩:∃o,OB[i]?=some o:=⟨_,aA (by rw[HBL.out];exact hlt)⟩;obtain⟨v,hvi⟩:∃v,V[i]?=some v:=⟨_,aA (by rw[hvl];exact hlt)⟩;obtain⟨u,hui⟩:∃u,V[r]?=some u:=⟨_,aA (by rw[hvl];exact hr)⟩;have hvr:=hF.row v (dA hvi);have hur:=hF.row u (dA hui);have hvq:=fq_len HVT.out hse hvi;have huq:=fq_len HVT.out hse hui;have hvn:=fw_shape hvr.1 hvq.1;have hun:=fw_shape hur.1 huq.1;have hvT:v.q=T.getD i []:=by rw[hvq.2.2,bA,elimT_later T OB r c i i (cA _),←bA]
      have huT:u.q=T.getD r []:=by rw[huq.2.2,elimT_row T OB r c r (by rw[hsq.1];exact hr),fA (fun c=>c.2.2.1 rfl)]
      obtain⟨vA,vn,vc,vL⟩:=v;obtain⟨uA,un,uc,uL⟩:=u;obtain rfl:n=vn:=hvn.symm;obtain rfl:n=un:=hun.symm;obtain⟨v1,v2⟩:=hvr.1;obtain⟨u1,u2⟩:=hur.1;obtain⟨x,hlx⟩:∃x,vL[c]?=some x:=⟨_,aA (by have:=v1.1;simp only at this;omega)⟩;obtain⟨y,hly⟩:∃y,uL[c]?=some y:=⟨_,aA (by have:=u1.1;simp only at this;omega)⟩;obtain⟨vb,vo,hva,hve⟩:=v1.at Fr.cs_len zo (by show 0<_;omega);obtain⟨ub,uo,hua,hue⟩:=u1.at Fr.cs_len zo (by show 0<_;omega);obtain rfl:vA=some ⟨vb,vo,none⟩:=hva;obtain rfl:uA=some ⟨ub,uo,none⟩:=hua;have hx:=hve c x hlx;have hy:=hue c y hly;have fx:=(v2 x (dA hlx)).1;have fy:=(u2 y (dA hly)).1;have HZx:Hid (sz x.q≤1899):=zh (Nat.le_of_succ_le_succ (v2 x (dA hlx)).2.2);have HZy:Hid (sz y.q≤1899):=zh (Nat.le_of_succ_le_succ (u2 y (dA hly)).2.2);have hTX:tq T i c=x.q:=by unfold tq;rw[←hvT];exact fw_at hlx
      have hTY:tq T r c=y.q:=by unfold tq;rw[←huT];exact fw_at hly
      have hu:=hvr.1;have hv:=hur.1;have HF0:=zh hF;have HOB:=zh ho1;have HVI:=zh hvi;have HUI:=zh hui;have e1:OB.getD i false=o1:=getD_of ho1;have HVX:=zh hvT;have HUX:=zh huT;clear hve hue v1 v2 u1 u2 hvr hur hvq huq hlx hly ho1 hvi hui hvT huT hse hvl;cases o1
      ·have HNO:Hid (elimT T OB r c (i+1)=elimT T OB r c i):=zh (fA (by rw[e1];exact fun c=>Bool.noConfusion c.1));clear e1 hsq hTX hTY;have Bz:=zr wr;have pB0:=bl_cell (hF.own 1 _ rfl) HOB.out;go_wp2_with fail
       go_roundg (n-(i+1))
       case measure=>have:=HGI.out;omega
       case rel=>exact⟨i+1,V,zo,rfl,by go_num,FT.below hF,by rw[HNO.out,HVT.out],bT (bT hB Bz)⟩
      ·by_cases hir:i=r
       ·have HNO:Hid (elimT T OB r c (i+1)=elimT T OB r c i):=zh (fA fun c=>c.2.1 hir);have g0:((i:Int) !=(r:Int))=false:=by rw[hir];exact bne_eq' r
        clear e1 hsq hTX hTY hir;have Bz:=zr wr;have pB0:=bl_cell (hF.own 1 _ rfl) HOB.out;go_wp2_with fail
        go_roundg (n-(i+1))
        case measure=>have:=HGI.out;omega
        case rel=>exact⟨i+1,V,zo,rfl,by go_num,FT.below hF,by rw[HNO.out,HVT.out],bT (bT hB Bz)⟩
       ·have g0:=bne_ne hir;by_cases z1:x.q=0
        ·have HNO:Hid (elimT T OB r c (i+1)=elimT T OB r c i):=zh (fA (by rw[hTX];exact fun c=>c.2.2 z1));have g1:=sign_qz z1;clear e1 hsq hTX hTY hir;have Bz:=zr wr;have pB0:=bl_cell (hF.own 1 _ rfl) HOB.out;have pD0:=(show _=some (Value.slice (some ⟨vb,vo,none⟩) n vc) from fw_cell (hF.own 0 _ rfl) HVI.out);have pE0:=(hx.below Bz).c0 (u:=.bool x.s) rfl;have pE1:=(hx.below Bz).at 1 (.slice x.A x.l x.c) rfl;have pE2:=(hx.below Bz).at 2 (.bool x.s') rfl;have pE3:=(hx.below Bz).at 3 (.slice x.A' x.l' x.c') rfl;go_wp2_with fail
         with_reducible refine(sign_r4 (RN.r' (RN.below fx) HZx.out) zo x.q.num.sign (zh rfl)).mono ?_
         rintro e w71 ⟨rfl,J⟩;replace J:=zq (a:=wr) J;replace hF:=hF.below J;replace Bz:=bT Bz J;clear J;clear pB0 pD0 pE0 pE1 pE2 pE3;go_wp2_with fail
         go_roundg (n-(i+1))
         case measure=>have:=HGI.out;omega
         case rel=>exact⟨i+1,V,zo,rfl,by go_num,FT.below hF,by rw[HNO.out,HVT.out],bT (bT hB Bz)⟩
        ·have g1:=sign_qnz z1;have HYES:Hid (elimT T OB r c (i+1)=(elimT T OB r c i).set i (offF (⟨some ⟨vb,vo,none⟩,n,vc,vL⟩:Fw).q (x.q / y.q) (⟨some ⟨ub,uo,none⟩,n,uc,uL⟩:Fw).q)):=zh (by
          rw[HVX.out,HUX.out,←hTX,←hTY];exact gA ⟨e1,hir,by rw[hTX];exact z1⟩)
         have HQ:Hid (sz (x.q / y.q)≤1825):=zh (by
          rw[←hTX,←hTY];exact HOK.out.quo (zi HN7.out) hlt hr hc e1 HRO.out.1 HRO.out.2)
         have HK:Hid (∀k,k<n→sz ((⟨some ⟨vb,vo,none⟩,n,vc,vL⟩:Fw).q.getD k 0-x.q / y.q*(⟨some ⟨ub,uo,none⟩,n,uc,uL⟩:Fw).q.getD k 0)≤1825):=zh fun k hk=>by
          have h1:=HSM.out i k hlt hk;rw[elimT_get hsq OB hr hlt hk e1 hir] at h1;rw[HVX.out,HUX.out,←hTX,←hTY];exact h1
         have HY0:Hid (y.q≠0):=zh (by rw[←hTY];exact HRO.out.2);clear e1 hsq hTX hTY hir;have Bz:=zr wr;have pB0:=bl_cell (hF.own 1 _ rfl) HOB.out;have pD0:=(show _=some (Value.slice (some ⟨vb,vo,none⟩) n vc) from fw_cell (hF.own 0 _ rfl) HVI.out);have pE0:=(hx.below Bz).c0 (u:=.bool x.s) rfl;have pE1:=(hx.below Bz).at 1 (.slice x.A x.l x.c) rfl;have pE2:=(hx.below Bz).at 2 (.bool x.s') rfl;have pE3:=(hx.below Bz).at 3 (.slice x.A' x.l' x.c') rfl;go_wp2_with fail
         with_reducible refine(sign_r4 (RN.r' (RN.below fx) HZx.out) zo x.q.num.sign (zh rfl)).mono ?_
         rintro e w71 ⟨rfl,J⟩;replace J:=zq (a:=wr) J;replace hF:=hF.below J;replace hu:=hu.below J;replace hv:=hv.below J;replace fx:=fx.below J;replace fy:=fy.below J;replace Bz:=bT Bz J;clear J;clear pB0 pD0 pE0 pE1 pE2 pE3;have pD0:=(show _=some (Value.slice (some ⟨vb,vo,none⟩) n vc) from fw_cell (hF.own 0 _ rfl) HVI.out);have fD0:=OwnR.frozen (hF.own 0 _ rfl) i;have y53:=(OwnR.blk (hF.own 0 _ rfl)).1;have pE0:=(hx.below Bz).c0 (u:=.bool x.s) rfl;have pE1:=(hx.below Bz).at 1 (.slice x.A x.l x.c) rfl;have pE2:=(hx.below Bz).at 2 (.bool x.s') rfl;have pE3:=(hx.below Bz).at 3 (.slice x.A' x.l' x.c') rfl;have pF0:=(show _=some (Value.slice (some ⟨ub,uo,none⟩) n uc) from fw_cell (hF.own 0 _ rfl) HUI.out);have pG0:=(hy.below Bz).c0 (u:=.bool y.s) rfl;have pG1:=(hy.below Bz).at 1 (.slice y.A y.l y.c) rfl;have pG2:=(hy.below Bz).at 2 (.bool y.s') rfl;have pG3:=(hy.below Bz).at 3 (.slice y.A' y.l' y.c') rfl;go_wp2_with fail
         (try simp only[vAa,vBa,vC])
         refine zl (.pure 0 (.pure 1 (.pure 2 (.pure 3 (.pure 4 (.take 5 (.pure 6 (.pure 7 (.pure 8 (.take 9 (.pure 10 (.pure 11 (.take 12 (.pure 13 (.pure 14 (.pure 15 (.take 16 (.pure 17 (.pure 18 (.take 19 (.pure 21 (.pure 22 (.pure 23 (.take 24 (.only 20 (.only 25 (.pure 26 (.only 27 .done)))))))))))))))))))))))))))) [27] (zsa pD0 (zsa pE0 (zsa pE1 (zsa pE2 (zsa pE3 (zsa pF0 (zsa pG0 (zsa pG1 (zsa pG2 (zIa pG3)))))))))) ?_;iterate 24 ((first|refine zV ?_|refine zUa ?_);try simp only[uW,uX,uY,uZ])
         refine zC 139 rfl rfl (fun K hK=>?_);go_simp
         with_reducible refine(quo_r4 (RN.r' (RN.below fx) HZx.out) (RN.r' (RN.below fy) HZy.out) zo HY0.out).mono ?_
         rintro e w72 ⟨s72,A72,c72,l72,s72r,A72r,c72r,l72r,rfl,h72,J⟩;replace J:=zq (a:=w71) J;replace hF:=hF.below J;replace hu:=hu.below J;replace hv:=hv.below J;replace Bz:=bT Bz J;clear J;clear pD0 fD0 y53 pE0 pE1 pE2 pE3 pF0 pG0 pG1 pG2 pG3;have pD0:=(show _=some (Value.slice (some ⟨vb,vo,none⟩) n vc) from fw_cell (hF.own 0 _ rfl) HVI.out);have fD0:=OwnR.frozen (hF.own 0 _ rfl) i;have y53:=(OwnR.blk (hF.own 0 _ rfl)).1;have pE0:=(hx.below Bz).c0 (u:=.bool x.s) rfl;have pE1:=(hx.below Bz).at 1 (.slice x.A x.l x.c) rfl;have pE2:=(hx.below Bz).at 2 (.bool x.s') rfl;have pE3:=(hx.below Bz).at 3 (.slice x.A' x.l' x.c') rfl;have pF0:=(show _=some (Value.slice (some ⟨ub,uo,none⟩) n uc) from fw_cell (hF.own 0 _ rfl) HUI.out);have pG0:=(hy.below Bz).c0 (u:=.bool y.s) rfl;have pG1:=(hy.below Bz).at 1 (.slice y.A y.l y.c) rfl;have pG2:=(hy.below Bz).at 2 (.bool y.s') rfl;have pG3:=(hy.below Bz).at 3 (.slice y.A' y.l' y.c') rfl;refine hK.out _ _ ⟨pD0,pE0,pE1,pE2,pE3,pF0,pG0,pG1,pG2,pG3⟩ (fun _=>?_);try simp only[uW,uX,uY,uZ]
         clear hK K;refine zC 144 rfl rfl (fun K hK=>?_);go_simp
         have HPZ:Hid (wr.heap.size≤w72.heap.size):=zh (show Below wr.heap.size wr w72 from by go_grown).size;with_reducible refine(off_T (u:=⟨some ⟨vb,vo,none⟩,n,vc,vL⟩) (v:=⟨some ⟨ub,uo,none⟩,n,uc,uL⟩) (FOk.below hu) (FOk.below hv) (RN.below h72) HQ.out rfl rfl (Nat.le_succ_of_le HN7.out) HK).mono ?_
         rintro e w73 ⟨XA73,xc73,XL73,rfl,hx73,hq73,ha73,J⟩;replace J:=zq (a:=w72) J;replace hF:=hF.below J;replace Bz:=bT Bz J;clear J;have HXQ:=zh hq73;have HXA:=zh ha73;clear hq73 ha73;clear pD0 fD0 y53 pE0 pE1 pE2 pE3 pF0 pG0 pG1 pG2 pG3;have pD0:=(show _=some (Value.slice (some ⟨vb,vo,none⟩) n vc) from fw_cell (hF.own 0 _ rfl) HVI.out);have fD0:=OwnR.frozen (hF.own 0 _ rfl) i;have y53:=(OwnR.blk (hF.own 0 _ rfl)).1;have pE0:=(hx.below Bz).c0 (u:=.bool x.s) rfl;have pE1:=(hx.below Bz).at 1 (.slice x.A x.l x.c) rfl;have pE2:=(hx.below Bz).at 2 (.bool x.s') rfl;have pE3:=(hx.below Bz).at 3 (.slice x.A' x.l' x.c') rfl;have pF0:=(show _=some (Value.slice (some ⟨ub,uo,none⟩) n uc) from fw_cell (hF.own 0 _ rfl) HUI.out);have pG0:=(hy.below Bz).c0 (u:=.bool y.s) rfl;have pG1:=(hy.below Bz).at 1 (.slice y.A y.l y.c) rfl;have pG2:=(hy.below Bz).at 2 (.bool y.s') rfl;have pG3:=(hy.below Bz).at 3 (.slice y.A' y.l' y.c') rfl;refine hK.out _ _ ⟨pD0,pE0,pE1,pE2,pE3,pF0,pG0,pG1,pG2,pG3⟩ (fun _=>?_);clear hK K;refine zV ?_;try simp only[uW,uX,uY,uZ]
         refine zAc (o:=⟨none,_,_,_,_,_⟩) rfl rfl zd (fun K hK=>?_);go_simp
         refine hK.out _ _ ?_;try simp only[Act.put,uX,uY,uZ]
         clear hK K;obtain⟨V71,hV,hF2,hg2⟩:=FT.put (p:=i) hF HVI.out hx73 (fun a ha=>⟨(HXA.out a ha).2,FT.new HF0.out (kA HPZ.out (HXA.out a ha).1)⟩);rw[show(w73).setCell ⟨g6,i,none⟩ (.slice XA73 n xc73)=V71 from hV.symm];clear hV;have hbg:=OwnR.base (hF.own 0 _ rfl) g6 rfl;replace hB:=(bT hB Bz).trans (hg2.below (zi (zw hB Bz)) (rowB hbg));clear hF;have hF:=hF2;clear hF2 hg2 Bz hbg;have Bz:=zr V71;clear pD0 fD0 y53 pE0 pE1 pE2 pE3 pF0 pG0 pG1 pG2 pG3;refine zAa ?_;go_wp2_with fail
         go_roundg (n-(i+1))
         case measure=>have:=HGI.out;omega
         case rel=>exact⟨i+1,_,zo,rfl,by go_num,FT.below hF,by rw[List.map_set,HXQ.out,HVT.out,HYES.out],bT (bT hB Bz)⟩
     ·obtain rfl:n=i:=zo;have i2:¬(n:Int)<(n:Int):=zo;have i4:(r:Int)<(n:Int):=zo;have i5:(c:Int)<(n:Int):=zo;have i6:(0:Int)≤(r:Int):=zo;have i7:(0:Int)≤(c:Int):=zo;obtain⟨J,h7⟩:∃b,OB[r]?=some b:=⟨_,aA (by rw[HBL.out];exact hr)⟩;obtain⟨b8,h8⟩:∃b,OC[c]?=some b:=⟨_,aA (by rw[HCL.out];exact hc)⟩;have HO7:=zh h7;have HO8:=zh h8;clear h7 h8;have Bz:=zr wr;have pB0:=bl_cell (hF.own 1 _ rfl) HO7.out;have fB0:=OwnR.frozen (hF.own 1 _ rfl) r;have y51:=(OwnR.blk (hF.own 1 _ rfl)).1;go_upto_region 32 with(fail)
      obtain⟨V91,hV,hx2,hg2⟩:=bl_store (hF.own 1 _ rfl) HO7.out false;rw[←hV];clear hV;have hbg:=OwnR.base (hF.own 1 _ rfl) g7 rfl;replace hB:=(bT hB Bz).trans (hg2.below (zi (zw hB Bz)) (rowB hbg));have hF2:FT V91 w.heap.size [roT g6 n n V,roB g7 n (OB.set r false),roB g8 n OC,roI H10 m c10 L10,roI H11 m c11 L11] 1900 V:=FT.upd (i:=1) (r':=roB g7 n (OB.set r false)) hF rfl hx2 hg2;clear hF;have hF:=hF2;clear hF2 hx2 hg2 Bz hbg;have Bz:=zr V91;clear pB0 fB0 y51;have pC0:=bl_cell (hF.own 2 _ rfl) HO8.out;have fC0:=OwnR.frozen (hF.own 2 _ rfl) c;have y52:=(OwnR.blk (hF.own 2 _ rfl)).1;go_upto_region 33 with(fail)
      obtain⟨V92,hV,hx2,hg2⟩:=bl_store (hF.own 2 _ rfl) HO8.out false;rw[←hV];clear hV;have hbg:=OwnR.base (hF.own 2 _ rfl) g8 rfl;replace hB:=(bT hB Bz).trans (hg2.below (zi (zw hB Bz)) (rowB hbg));have hF2:FT V92 w.heap.size [roT g6 n n V,roB g7 n (OB.set r false),roB g8 n (OC.set c false),roI H10 m c10 L10,roI H11 m c11 L11] 1900 V:=FT.upd (i:=2) (r':=roB g8 n (OC.set c false)) hF rfl hx2 hg2;clear hF;have hF:=hF2;clear hF2 hx2 hg2 Bz hbg;have Bz:=zr V92;clear pC0 fC0 y52;go_wp2_with (at_builtin;refine And.left (b:=True) ?_)
      refine⟨?_,trivial⟩;obtain⟨V93,hW,x0,hN⟩:=zAe V92 #[.int .i64 (r:Int)] 3;rw[←hW];clear hW;obtain⟨v0,hb0⟩:=ze V92.heap.size;rw[←hb0] at x0 ⊢;have ow_0:w.heap.size≤v0:=zi (zw hB Bz);replace hF:=hF.below hN;replace hB:=bT (bT hB Bz) hN;have HX0:=zh x0;clear x0 hN Bz hb0;have Bz:=zr V93;have hdr:V93.drew.heap.size=V93.heap.size:=rfl;have hdr2:V93.drew.drew.heap.size=V93.heap.size:=rfl;refine Elt.app elt_ics rfl (.tmp 152) (.tmp 154) rfl w.heap.size (.slice H10 m c10) (m) (L10) rfl ((FT.below hF).own 3 _ rfl) (.slice (some ⟨v0,0,none⟩) 1 1) 1 ([(r:Int)]) rfl (From.one (HX0.out.below (bT Bz)) (r:Int) rfl (elt_ics.len _)) zo (zi (zw hB Bz)) ?_;intro H91 c91 w91 ho91 hg91;replace hB:=(bT (bT hB Bz)).trans (hg91.below (zi (zw hB Bz)) (fun g hg=>(hF.own 3 _ rfl).base g hg));have hF2:FT w91 w.heap.size [roT g6 n n V,roB g7 n (OB.set r false),roB g8 n (OC.set c false),roI H91 (m+1) c91 (L10++[(r:Int)]),roI H11 m c11 L11] 1900 V:=FT.upd (i:=3) (r':=roI H91 (m+1) c91 (L10++[(r:Int)])) (FT.below hF) rfl ho91 hg91;clear hF;have hF:=hF2;clear hF2 ho91 hg91 hdr hdr2 Bz HX0;have Bz:=zr w91;go_wp2_with (at_builtin;refine And.left (b:=True) ?_)
      refine⟨?_,trivial⟩;obtain⟨V94,hW,x0,hN⟩:=zAe w91 #[.int .i64 (c:Int)] 3;rw[←hW];clear hW;obtain⟨v0,hb0⟩:=ze w91.heap.size;rw[←hb0] at x0 ⊢;have ow_0:w.heap.size≤v0:=zi (zw hB Bz);replace hF:=hF.below hN;replace hB:=bT (bT hB Bz) hN;have HX0:=zh x0;clear x0 hN Bz hb0;have Bz:=zr V94;have hdr:V94.drew.heap.size=V94.heap.size:=rfl;have hdr2:V94.drew.drew.heap.size=V94.heap.size:=rfl;refine Elt.app elt_ics rfl (.tmp 156) (.tmp 158) rfl w.heap.size (.slice H11 m c11) (m) (L11) rfl ((FT.below hF).own 4 _ rfl) (.slice (some ⟨v0,0,none⟩) 1 1) 1 ([(c:Int)]) rfl (From.one (HX0.out.below (bT Bz)) (c:Int) rfl (elt_ics.len _)) zo (zi (zw hB Bz)) ?_;intro H92 c92 w92 ho92 hg92;replace hB:=(bT (bT hB Bz)).trans (hg92.below (zi (zw hB Bz)) (fun g hg=>(hF.own 4 _ rfl).base g hg));have hF2:FT w92 w.heap.size [roT g6 n n V,roB g7 n (OB.set r false),roB g8 n (OC.set c false),roI H91 (m+1) c91 (L10++[(r:Int)]),roI H92 (m+1) c92 (L11++[(c:Int)])] 1900 V:=FT.upd (i:=4) (r':=roI H92 (m+1) c92 (L11++[(c:Int)])) (FT.below hF) rfl ho92 hg92;clear hF;have hF:=hF2;clear hF2 ho92 hg92 hdr hdr2 Bz HX0;have Bz:=zr w92;go_wp2_with fail
      go_roundg (n-(s+1))
      case measure=>have:=HGS.out;omega
      case rel=>exact RO2.next HST.out HPK.out zo rfl (by rw[HVT.out];rfl) rfl rfl (by go_num) HM.out HLS.out rfl rfl (by have h9:=FT.below hF;rw[HL10.out,HL11.out] at h9;exact h9) (bT (bT hB Bz))
  ·obtain rfl:n=s:=zo;have i1:¬(n:Int)<(n:Int):=zo;have HPF:Hid (P=PF):=zh (by rw[←hP.out,HST.out]);obtain rfl:=HPF.out;obtain rfl:=HM.out;have hs10:Sl ics 1 wr H10 P.length c10 (P.map fun p=>p.1):=by rw[←HL10.out];exact OwnR.sl' elt_ics (HF.out.own 3 _ rfl) (by rw[HL10.out,cB])
   have hs11:Sl ics 1 wr H11 P.length c11 (P.map fun p=>p.2):=by rw[←HL11.out];exact OwnR.sl' elt_ics (HF.out.own 4 _ rfl) (by rw[HL11.out,cB])
   have HS10:=zh hs10;have HS11:=zh hs11;clear hs10 hs11 hF;have Bz:=zr wr;go_wp2_with fail
   go_ret2
   have hF:=bT (c:=wr) hB Bz;exact⟨_,_,_,_,rfl,HS10.out.below (by go_grown),HS11.out.below (by go_grown),bT hF⟩
end Go.Proofs.YteggjbgbknkoiaaGreatDoor
