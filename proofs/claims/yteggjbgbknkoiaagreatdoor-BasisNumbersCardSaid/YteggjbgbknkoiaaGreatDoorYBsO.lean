import Derived.Test.YteggjbgbknkoiaaGreatDoorYBs3
import Derived.Test.YteggjbgbknkoiaaGreatDoorYMbI
set_option maxHeartbeats 8000000
set_option maxRecDepth 100000
namespace Go.Proofs.YteggjbgbknkoiaaGreatDoor
open Go.RowKit Tw
theorem Ch.kp {w w':World} {b:Nat} (h:Ch w w' b):KP (fun x=>x=b) w w':=⟨h.1.size,h.2,fun x hl hn=>h.1.block x hl (by simpa using hn)⟩
theorem bx_neT {w:World} {a b:Nat} {cs cs':Array Value} {t t':TypeId} (ht:t≠t') (h:Bx w a cs t) (h':Bx w b cs' t'):a≠b:=fun e=>by
 subst e;have h1:some _=some _:=h.symm.trans h';simp only[Option.some.injEq,Obj.cells.injEq] at h1
 exact ht h1.2.1
def bsC (A:Option Addr) (n c most fb:Nat) (H:Option Addr) (m hc:Nat):Array Value:=#[.slice A n c,.int .i64 (n:Int),.int .i64 (most:Int),.pointer (some ⟨fb,0,none⟩),.slice H m hc]
section
variable {A H:Option Addr} {n c most fb m hc:Nat}
theorem no_tm (o:Nat) (x:Tm) (h:∀j u,(Tm.cs x)[j]?=some u→(bsC A n c most fb H m hc)[o+j]?=some u):False:=by
 have h1:=h 0 _ rfl;have h2:=h 1 _ rfl;match o with
 | 0=>simp[bsC] at h1
 | 1=>simp[bsC] at h2
 | 2=>simp[bsC] at h2
 | 3=>simp[bsC] at h1
 | 4=>simp[bsC] at h1
 | o+5=>simp[bsC] at h1
theorem no_st (o:Nat) (x:StM) (h:∀j u,(StM.cs x)[j]?=some u→(bsC A n c most fb H m hc)[o+j]?=some u):False:=by
 have h1:=h 0 _ rfl;have h2:=h 2 _ rfl;match o with
 | 0=>simp[bsC] at h1
 | 1=>simp[bsC] at h2
 | 2=>simp[bsC] at h2
 | 3=>simp[bsC] at h1
 | 4=>simp[bsC] at h1
 | o+5=>simp[bsC] at h1
theorem no_et (o:Nat) (x:EtM) (h:∀j u,(EtM.cs x)[j]?=some u→(bsC A n c most fb H m hc)[o+j]?=some u):False:=by
 have h1:=h 0 _ rfl;match o with
 | 0=>simp[bsC] at h1
 | 1=>simp[bsC] at h1
 | 2=>simp[bsC] at h1
 | 3=>simp[bsC] at h1
 | 4=>simp[bsC] at h1
 | o+5=>simp[bsC] at h1
variable {w w':World} {bb:Nat}
theorem Sl.ch {α:Type} {f:α→List Value} {k:Nat} {A':Option Addr} {n' c':Nat} {L:List α} {cs:Array Value} {t:TypeId} (h:Sl f k w A' n' c' L) (hf:∀x,(f x).length=k) (h0:0<k) (hb:Bx w bb cs t) (hk:Ch w w' bb) (hno:∀(o:Nat) (x:α),(∀j u,(f x)[j]?=some u→cs[o+j]?=some u)→False):Sl f k w' A' n' c' L:=by
 by_cases e:0<n'
 ·obtain⟨b,off,rfl,hel⟩:=h.at hf h0 e;refine hk.kp.sl h fun a ha=>?_;cases ha;intro hbb;simp only at hbb
  subst hbb;obtain⟨x,hx⟩:∃x,L[0]?=some x:=⟨_,cA (by rw[h.1];exact e)⟩;exact hno _ x fun j u hu=>by
   have h1:=hel 0 x hx j u hu;rwa [cell_of_row w b _ _ _ _ hb] at h1
 ·obtain⟨h1,h2,A2,c2,e2,h3,h4⟩:=h;cases e2;refine⟨h1,h2,A',c',rfl,h3,fun a ha j u hu=>?_⟩;exfalso
  have h5:n'=0:=zo;rw[h5,gG] at h2;rw[tC h2] at hu;cases hu
structure Odd (cs:Array Value):Prop where
 tm:∀(o:Nat) (x:Tm),(∀j u,(Tm.cs x)[j]?=some u→cs[o+j]?=some u)→False
 st:∀(o:Nat) (x:StM),(∀j u,(StM.cs x)[j]?=some u→cs[o+j]?=some u)→False
 et:∀(o:Nat) (x:EtM),(∀j u,(EtM.cs x)[j]?=some u→cs[o+j]?=some u)→False
theorem odd_bs:Odd (bsC A n c most fb H m hc):=⟨no_tm,no_st,no_et⟩
variable {cs:Array Value} {t:TypeId}
theorem CN.chO {v:Vc} {M:Nat} (h:CN w v M) (hb:Bx w bb cs t) (ho:Odd cs) (hk:Ch w w' bb):CN w' v M:=⟨h.1.ch Tm.cs_len zo hb hk ho.tm,h.2.1.k hk.2,h.2.2⟩
theorem CM.chO {A':Option Addr} {n' c' M:Nat} {C:List (List (Int×Rat))} (h:CM w A' n' c' C M) (hb:Bx w bb cs t) (ho:Odd cs) (hk:Ch w w' bb) (hA:∀a,A'=some a→a.block≠bb):CM w' A' n' c' C M:=by
 obtain⟨CL,h1,h2,h3⟩:=h;exact⟨CL,hk.kp.sl h1 hA,fun v hv=>(h2 v hv).chO hb ho hk,h3⟩
theorem StRd.chO {K:Nat} {s:StM} (h:StRd w K s) (hb:Bx w bb cs t) (ho:Odd cs) (hk:Ch w w' bb):StRd w' K s:=⟨⟨h.pv.1.k hk.2,h.pv.2⟩,h.r.chO hb ho hk,h.t.chO hb ho hk,fun a ha=>dB (h.ra a ha) hk.1.size,fun a ha=>dB (h.ta a ha) hk.1.size⟩
theorem LuM.chO {fb' n':Nat} {ST:List StepF} {K:Nat→Nat} (h:LuM w fb' n' ST K) (hb:Bx w bb cs t) (ho:Odd cs) (ht:68≠t) (hk:Ch w w' bb):LuM w' fb' n' ST K:=by
 obtain⟨H',hc',LS,h1,h2,h3,h4⟩:=h;exact⟨H',hc',LS,hk.bx h1 (bx_neT ht h1 hb),h2.ch StM.cs_len zo hb hk ho.st,fun i s hs=>(h3 i s hs).chO hb ho hk,h4⟩
theorem LuAt.chO {fb' n' m':Nat} {C:List (List (Int×Rat))} (h:LuAt w fb' n' m' C) (hb:Bx w bb cs t) (ho:Odd cs) (ht:68≠t) (hk:Ch w w' bb):LuAt w' fb' n' m' C:=⟨h.lu.chO hb ho ht hk,h.up,h.hl⟩
theorem EtOk.chO {n' K:Nat} {e:EtM} (h:EtOk w n' K e) (hb:Bx w bb cs t) (ho:Odd cs) (ht:3≠t∧30≠t) (hs:e.sb≠bb) (hk:Ch w w' bb):EtOk w' n' K e :=
 ⟨hk.bx h.rb (bx_neT ht.1 h.rb hb),hk.bx h.pb (bx_neT ht.2 h.pb hb),hk.bx h.sb hs,h.pv.k hk.2,h.pz,h.cn.chO hb ho hk,fun a ha=>dB (h.vb a ha) hk.1.size,h.nrm,h.inn,h.r0,h.rn,h.vn⟩
theorem BsAt.chO {bb' n' most' m' M K c' hc' fb':Nat} {C0 C:List (List (Int×Rat))} {E:List EtM} {A' H':Option Addr} (h:BsAt w bb' n' most' m' M K C0 C E A' H' c' hc' fb') (hb:Bx w bb cs t) (ho:Odd cs) (ht:68≠t∧3≠t∧30≠t) (hs:∀e∈E,e.sb≠bb) (hk:Ch w w' bb) (hne:bb'≠bb) (hA:∀a,A'=some a→a.block≠bb):BsAt w' bb' n' most' m' M K C0 C E A' H' c' hc' fb' :=
 ⟨hk.bx h.bx hne,h.cm.chO hb ho hk hA,h.lu.chO hb ho ht.1 hk,h.et.ch EtM.cs_len zo hb hk ho.et,fun e he=>(h.ok e he).chO hb ho ht.2 (hs e he) hk,h.ch,h.el⟩
theorem CN.ch {v:Vc} {M:Nat} (h:CN w v M) (hb:Bx w bb (bsC A n c most fb H m hc) t) (hk:Ch w w' bb):CN w' v M:=h.chO hb odd_bs hk
theorem CM.ch {A':Option Addr} {n' c' M:Nat} {C:List (List (Int×Rat))} (h:CM w A' n' c' C M) (hb:Bx w bb (bsC A n c most fb H m hc) t) (hk:Ch w w' bb) (hA:∀a,A'=some a→a.block≠bb):CM w' A' n' c' C M:=h.chO hb odd_bs hk hA
theorem LuAt.ch {fb' n' m':Nat} {C:List (List (Int×Rat))} (h:LuAt w fb' n' m' C) (hb:Bx w bb (bsC A n c most fb H m hc) 108) (hk:Ch w w' bb):LuAt w' fb' n' m' C:=h.chO hb odd_bs zd hk
theorem EtOk.ch {n' K:Nat} {e:EtM} (h:EtOk w n' K e) (hb:Bx w bb (bsC A n c most fb H m hc) 108) (hk:Ch w w' bb):EtOk w' n' K e:=h.chO hb odd_bs zd (bx_neT zd h.sb hb) hk
theorem BsAt.chg {bb' n' most' m' M K c' hc' fb':Nat} {C0 C:List (List (Int×Rat))} {E:List EtM} {A' H':Option Addr} (h:BsAt w bb' n' most' m' M K C0 C E A' H' c' hc' fb') (hb:Bx w bb (bsC A n c most fb H m hc) 108) (hk:Ch w w' bb) (hne:bb'≠bb) (hA:∀a,A'=some a→a.block≠bb):BsAt w' bb' n' most' m' M K C0 C E A' H' c' hc' fb' :=
 h.chO hb odd_bs zd (fun e he=>bx_neT zd (h.ok e he).sb hb) hk hne hA
end
section
variable {α:Type} {f:α→List Value} {k:Nat} {t te:TypeId}
theorem Elt.runClip (E:Elt f k t te) (ty:TypeId) {w:World} {A:Option Addr} {n:Nat} {L:List α} (h:Sl f k w A n n L) (x:Value) (m:Nat) (M:List α) (hs:From w k x m (flat f M)) (hm:0<m) (hn:n+m≤100000000000) :
  ∃H c w',(Builtin.append_ #[t,t] ty #[.slice A n n,x]).run Tryz.prog w=.ok (.slice H (n+m) c) w'∧OwnR w' w.heap.size te k (.slice H (n+m) c) (n+m) (flat f (L++M))∧Below w.heap.size w w':=by
 obtain⟨i,z,q1,q2,q3,q4,q5,q6⟩:=E.info;obtain⟨hl,A2,c,rfl,hA,hc⟩:=hs;obtain⟨s1,s2,A3,c3,e,s3,s4⟩:=h;cases e;subst q3;have h63:n+m≤maxLen:=by unfold maxLen;omega
 have hsmall:n+m≤9223372036854775807:=by simp only[maxLen] at h63;omega
 have hbytes:(n+m)*i.bytes≤140737488355328:=wA (eF hn q4) zo;have hlen:(flat f L++flat f M).length=(n+m)*i.size:=by rw[jC,s2,hl,cC]
 have nou:∀N:List α,∀u∈flat f N,∀n,u≠.int .u64 n:=fun N u hu=>by obtain⟨y,_,hy⟩:=flat_mem hu;exact E.nou y u hy
 have grown:∀(old:Nat),old<n+m→
   OwnR (w.drew.alloc (.cells ((flat f L).toArray++(flat f M).toArray++Builtin.zeroCells z.cells (grownCap w (n+m) old te-(n+m))) te)) w.heap.size te i.size
    (.slice (some ⟨w.heap.size,0,none⟩) (n+m) (grownCap w (n+m) old te)) (n+m) (flat f (L++M)):=by
  intro old ho;have hge:=grownCap_ge w (n+m) old te;have hcm:grownCap w (n+m) old te≤maxLen:=grownCap_le_maxLen w (n+m) old te h63;rw[flat_append];refine⟨hlen,.inr ⟨w.heap.size,_,_,rfl,aA _,heap_alloc_new w.drew _,hge,hcm,?_,?_,((NoU.toList (nou L)).append (NoU.toList (nou M))).append (q6.zeros _)⟩⟩
  ·simp only[Array.size_append,List.size_toArray,size_zeroCells,q5,s2,hl,←cC]
   rw[Nat.add_sub_cancel' hge]
  ·simp only[Array.toList_append,qE]
   rw[←qE,←hlen];exact List.take_left
 have kg:∀cs,Below w.heap.size w (w.drew.alloc (.cells cs te)):=fun cs=>bT (b:=w.drew) (Below.drew (Below.refl _ _)) (zAf _ _);cases A2 with
 | none=>exact absurd (hA rfl) zo
 | some a =>
  cases A with
  | none =>
   obtain rfl:=s3 rfl;have hx:L=[]:=tC s1;subst hx;have hr:=run_append_nil (P:=Tryz.prog) w t ty te i z E.ut q1 q2 a m c (flat f M) hl (hc a rfl) hm zo (by have hb:=hbytes;simp only[kC] at hb;omega);have hgr:=grown 0 zo;simp only[kC,bF,flat,List.flatMap_nil,Array.empty_append] at hgr hr ⊢
   exact⟨_,_,_,hr,hgr,kg _⟩
  | some b =>
   have hr:=run_append_grow (P:=Tryz.prog) w t ty te i z E.ut q1 q2 b n n (flat f L) s2 (s4 b rfl) a m c (flat f M) hl (hc a rfl) zo zo (growslice_fits zo hbytes);exact⟨_,_,_,hr,grown n zo,kg _⟩
theorem Elt.appClip (E:Elt f k t te) {w:World} {ops:Array Oper} {rest:List Oper} {o:Oper} {a:Act} {Q:Exit→Act→World→Prop} (hgd:o.guard=none) (s x:Operand) (ho:o.op=.call { callee:=.builtin .append,args:=#[s,x],argTypes:=#[t,t] })
  {A:Option Addr} {n:Nat} {L:List α} (hs:a.eval s=.slice A n n) (h:Sl f k w A n n L) (xv:Value) (m:Nat) (M:List α) (hx:a.eval x=xv) (hf:From w k xv m (flat f M)) (hm:0<m) (hn:n+m≤100000000000)
  (hK:∀H c w',OwnR w' w.heap.size te k (.slice H (n+m) c) (n+m) (flat f (L++M))→Below w.heap.size w w'→wpList Tryz.prog ops Q rest (a.put o.dst (.slice H (n+m) c)) w'):wpList Tryz.prog ops Q (o :: rest) a w :=
 wpList_plain hgd fun _ hK2=>by
  obtain⟨H,c,w',hr,h2,h3⟩:=E.runClip o.type h xv m M hf hm hn;unfold Oper.wp execOp
  simp only[ho,resolve,invoke,builtin,Sem.run_bind,Sem.run_pure,Result.andThen_ok,List.map_toArray,nG,List.map_nil,hs,hx,hr]
  exact hK2 _ _ (hK H c w' h2 h3)
end
theorem clip_e {w:World} {A:Option Addr} {n c:Nat} (hc:n≤c) :
  Calls Tryz.prog 75 #[.slice A n c] w fun e w'=>e=.returned (.slice A n n)∧Below w.heap.size w w':=by
 go_enter Tryz.func75,Tryz.ntmps75
 go_wp2_with fail
 go_ret
 exact⟨rfl,Below.refl _ _⟩
theorem clone_v {w:World} {A:Option Addr} {n c:Nat} {L:List Vc} (h:Sl Vc.cs 1 w A n c L) (hc:A=none→c=0) (hn:n≤1000000000):Calls Tryz.prog 74 #[.slice A n c] w fun e w'=>∃H c',e=.returned (.slice H n c')∧OwnR w' w.heap.size 35 1 (.slice H n c') n (flat Vc.cs L)∧Below w.heap.size w w':=by
 have q42:∀(w:World) (a:Option Addr) (n c n' c':Nat),(binOp .eql 36 (.slice a n c) (.slice none n' c')).run Tryz.prog w=.ok (.bool a.isNone) w:=fun w a n c n' c'=>Lib.run_eql_slice_nil w _ _ a n c n' c' Tryz.underlying36;cases A with
 | none =>
  obtain rfl:=h.none_len;obtain rfl:=hc rfl;obtain rfl:=tC h.1;clear h hc;go_enter Tryz.func74,Tryz.ntmps74
  go_wp2_with fail
  go_ret
  exact⟨none,0,rfl,OwnR.nil _ _ _ _,Below.refl _ _⟩
 | some ad =>
  obtain⟨W,hW,x0,hB⟩:=zAc w #[] 35;have HS:=zh (h.below hB);have ho:OwnR W w.heap.size 35 1 (.slice (some ⟨w.heap.size,0,none⟩) 0 0) 0 (flat Vc.cs []):=⟨by simp[flat],.inr ⟨w.heap.size,0,#[],rfl,aA _,x0,aA _,by unfold maxLen;omega,by simp,by simp[flat],fun u hu=>by simp at hu⟩⟩;have HO:=zh ho;have hbw:w.heap.size≤W.heap.size:=hB.size;clear h x0 ho hc;go_enter Tryz.func74,Tryz.ntmps74
  go_wp2_with (at_builtin;rw[←hW];refine And.left (b:=True) ?_)
  refine⟨?_,trivial⟩;refine Elt.app elt_vcs rfl _ _ rfl w.heap.size (.slice (some ⟨w.heap.size,0,none⟩) 0 0) 0 [] rfl HO.out (.slice (some ad) n c) n L rfl HS.out.2 zo hbw ?_;intro H1 c1 w1 ho1 hg1;rw[kC,bF] at ho1;have HO1:=zh ho1;have hb1:Below w.heap.size w w1:=hB.trans (hg1.below hbw (fun g hg=>HO.out.base g hg));clear ho1 hg1 hW HO HS;rw[kC];go_wp2_with fail
  go_ret
  exact⟨H1,c1,rfl,HO1.out,hb1⟩
theorem bftran_no {w:World} {bb n most M K c hc fb bn bc S:Nat} {C0 C:List (List (Int×Rat))} {E:List EtM} {A H X:Option Addr} {P:List (Int×Rat)} (h:BsAt w bb n most 4 M K C0 C E A H c hc fb) (_hC0:∀x∈C0,Rise x∧∀y∈x,sz y.2+1≤4) (hx:GV w X bn bc P S) (hS2:2≤S) (hS:S≤1999) (hbn:bn≤1000) (hn:n≤14) (hfit:fitsB n (nrm P)=false) (hT:Hid (Tab w)) :
  Calls Tryz.prog 32 #[.pointer (some ⟨bb,0,none⟩),.slice X bn bc] w fun e w'=>e=.returned (.tuple #[.slice none 0 0,.int .i64 2])∧Below w.heap.size w w':=by
 have HBB:=zh h.bx;have hB:=Below.refl w.heap.size w;have Bz:=zr w;go_enter Tryz.func32,Tryz.ntmps32
 go_wp2_with fail
 with_reducible refine(none_not (h.bx.below (bT hB (bT (b:=w) Bz)))).mono ?_
 rintro e w1 ⟨rfl,q⟩;replace q:=zq (a:=w) q;replace Bz:=bT Bz q;clear q;have p90_3:=(HBB.out.below Bz).cell 3 (.pointer (some ⟨fb,0,none⟩)) rfl;go_wp2_with fail
 with_reducible refine(ftranC_no (h.lu.below (bT hB (bT (b:=w1) Bz))) (hx.below (bT hB (bT (b:=w1) Bz))) zo hS2 hbn zo hfit (zt hT hB Bz)).mono ?_
 rintro e w2 ⟨rfl,q⟩;replace q:=zq (a:=w1) q;replace Bz:=bT Bz q;clear q;clear p90_3;go_wp2_with fail
 go_ret2
 have hF:=bT (c:=w2) hB Bz;exact⟨rfl,bT hF⟩
def BF1 (wd:World) (g n KX:Nat) (E:List EtM) (x0:Int→Rat) (gk:Nat) (s:Value) (wr:World):Prop :=
 ∃(i:Nat) (D:List Fr),i≤E.length∧E.length-i=gk∧s=.int .i64 (i:Int)∧OwnR wr wd.heap.size 30 4 (.slice (some ⟨g,0,none⟩) n n) n (flat Fr.cs D)∧AllRn wr KX D∧(∀a:Int,0≤a→a<(n:Int)→numF (qs D) a=etasF ((E.take i).map EtM.f) x0 a)∧Below wd.heap.size wd wr
theorem etaF_congr {e:EtaF} {x y:Int→Rat} {a:Int} (ha:x a=y a) (hr:x e.r=y e.r):etaF e x a=etaF e y a:=by
 unfold etaF spr
 rw[hr];by_cases h:a=e.r
 ·rw[h,upd_at,upd_at]
 ·rw[upd_off h,upd_off h,ha]
theorem take_map_snoc {E:List EtM} {i:Nat} {e:EtM} (h:E[i]?=some e) (x:Int→Rat):etasF ((E.take (i+1)).map EtM.f) x=etaF e.f (etasF ((E.take i).map EtM.f) x):=by
 rw[List.take_add_one,h,Option.toList_some,mG];exact etasF_snoc _ _ _
theorem bftran_q {w:World} {bb n most M K c hc fb bn bc S:Nat} {C0 C:List (List (Int×Rat))} {E:List EtM} {A H X:Option Addr} {P:List (Int×Rat)} (h:BsAt w bb n most 4 M K C0 C E A H c hc fb) (hC0:∀x∈C0,Rise x∧∀y∈x,sz y.2+1≤4) (hx:GV w X bn bc P S) (hS2:2≤S) (hS:S≤1999) (hbn:bn≤1000) (hn:n≤14) (hn1:1≤n) (hfit:fitsB n (nrm P)=true) {KX:Nat} (hKX:500000001≤KX) (hKX2:KX≤1000000000) (hK:K≤1000000000) (hEl:E.length≤100)
  (hKB:Hid (∀i,i≤E.length→∀a,0≤a→a<(n:Int)→sz (etasF ((E.take i).map EtM.f) (back (fwd (facST C0 n) (pget P)) (facST C0 n)) a)+1≤KX)) (hT:Hid (Tab w)) :
  Calls Tryz.prog 32 #[.pointer (some ⟨bb,0,none⟩),.slice X bn bc] w (TellsLX w (layF n (etasF (E.map EtM.f) (back (fwd (facST C0 n) (pget P)) (facST C0 n)))) (KX+2)):=by
 obtain⟨x0,hx0⟩:∃x0,x0=back (fwd (facST C0 n) (pget P)) (facST C0 n):=⟨_,rfl⟩;rw[←hx0] at hKB ⊢;have HBB:=zh h.bx;have hB:=Below.refl w.heap.size w;have Bz:=zr w;go_enter Tryz.func32,Tryz.ntmps32
 go_wp2_with fail
 with_reducible refine(none_not (h.bx.below (bT hB (bT (b:=w) Bz)))).mono ?_
 rintro e w1 ⟨rfl,z⟩;replace z:=zq (a:=w) z;replace Bz:=bT Bz z;clear z;have p90_3:=(HBB.out.below Bz).cell 3 (.pointer (some ⟨fb,0,none⟩)) rfl;go_wp2_with fail
 with_reducible refine((ftranS (h.lu.below (bT hB (bT (b:=w1) Bz))) hC0 (hx.below (bT hB (bT (b:=w1) Bz))) hS2 hS hbn hn hfit (zt hT hB Bz))).mono ?_
 rintro e w2 ⟨A2,n2,c2,rfl,h2,l2,z⟩;replace z:=zq (a:=w1) z;replace Bz:=bT Bz z;clear z;have HVL:Hid (n2≤14):=zh l2;clear l2;clear p90_3;have p90_1:=(HBB.out.below Bz).cell 1 (.int .i64 (n:Int)) rfl;go_wp2_with fail
 have HWD:=zh (bT hB Bz);replace HBB:=zh (HBB.out.below Bz);replace hB:=bT hB Bz;clear Bz;have Bz:=zr w2;with_reducible refine(denseO_q ((NV.below h2).gv (lay_nrm _ _).rise) zd zd (zi HVL.out) hn1 zo (zt hT hB Bz)).mono ?_
 rintro e w3 ⟨g,D,rfl,ho3,ha3,hq3,z⟩;replace z:=zq (a:=w2) z;replace Bz:=bT Bz z;clear z;have HDQ:=zh hq3;clear hq3;clear p90_1;have p90_4:=(HBB.out.below Bz).cell 4 (.slice H E.length hc) rfl;go_wp2_with fail
 have HO:=zh ho3;have HAL:=zh ha3;have HX0:=zh hx0;obtain⟨wd,hwd⟩:∃x:World,x=w2:=⟨_,rfl⟩;subst hwd;have HGB:=zh (OwnR.blk HO.out);have HX1:Hid (∀a:Int,0≤a→a<(n:Int)→numF (qs D) a=x0 a):=zh fun a h8 h9=>by
  unfold numF qs
  rw[zA h8,HDQ.out,HX0.out];unfold denseF
  rw[dA,qB,kF zo];show pget (layF n _) ((a.toNat:Nat):Int)=_
  rw[cG h8];unfold layF
  rw[lay_get,zA ⟨h8,h9⟩]
 have HWB:=zh Bz;have HEd:Hid (∀e∈E,EtOk wd n K e):=zh fun e he=>(h.ok e he).below HWD.out;have HSE:=zh (h.et.below HWD.out);have HTD:Hid (Tab wd):=zh (hT.out.below HWD.out);have HLE:Hid (E.length=E.length):=zh rfl;have HGN:Hid (∀b,b<wd.heap.size→b≠g):=zh fun b hb e=>by have h1:=HGB.out.2;omega
 have hD:4*KX+4*K≤20000000000:=zo;clear hB Bz HBB;go_loopg [36] E.length (fun gk s wr=>BF1 wd g n KX E x0 gk s wr)
 case atStart=>exact⟨0,D,cB _,rfl,rfl,HO.out.below (by go_grown),(AllRn.mono HAL.out hKX).below (by go_grown),fun a h8 h9=>HX1.out a h8 h9,bT HWB.out⟩
 case round =>
  clear HO HAL HX1 HWB HDQ HGB;have zw:=HWD.out.size;obtain⟨i,D,hi,hgk,rfl,ho,hal,hnx,hB⟩:=hrel;have HGK:=zh hgk;have HLD:=zh (ho.eltn elt_frs zo);have HNF:=zh hnx;clear hgk hnx;by_cases hlt:i<E.length
  ·obtain⟨eb,eo,rfl,hel0⟩:=HSE.out.at EtM.cs_len zo zo;obtain⟨e,he⟩:∃e,E[i]?=some e:=⟨_,cA hlt⟩;have hel:ElA wd eb (eo+i*2) (EtM.cs e):=hel0 i e he;have hed:=HEd.out e (eA he);have HET:=zh hed;have het:=hed.below hB;have HNX:Hid (∀D2:List Fr,(∀a:Int,0≤a→a<(n:Int)→numF (qs D2) a=etaF e.f (numF (qs D)) a)→∀a:Int,0≤a→a<(n:Int)→numF (qs D2) a=etasF ((E.take (i+1)).map EtM.f) x0 a):=zh fun D2 h2 a h8 h9=>by
    rw[h2 a h8 h9,take_map_snoc he];exact etaF_congr (HNF.out a h8 h9) (HNF.out _ (Int.natCast_nonneg _) (by have:=hed.rn;show(e.r:Int)<(n:Int);omega))
   have HTI:Hid (∀D2:List Fr,D2.length=n→(∀a:Int,0≤a→a<(n:Int)→numF (qs D2) a=etaF e.f (numF (qs D)) a)→∀(j:Nat) (x:Fr),D2[j]?=some x→sz x.q+1≤KX):=zh fun D2 hl h2 j x hx=>by
    have hj:=(yB.1 hx).1;have h3:=hKB.out (i+1) hlt (j:Int) zo zo;rw[←HNX.out D2 h2 (j:Int) zo zo,numF_at zo (by rw[rE];exact hx)] at h3;exact h3
   have i1:(i:Int)<(E.length:Int):=zo;have i2:(0:Int)≤(i:Int):=zo;clear hel0 he hed;have Bz:=zr wr;have pA0:=(hel.below (bT hB Bz)).c0 (u:=.func (.func 111) #[] #[.pointer (some ⟨e.rb,0,none⟩),.pointer (some ⟨e.pb,0,none⟩),.pointer (some ⟨e.sb,0,none⟩)]) rfl;have pA1:=(hel.below (bT hB Bz)).at 1 (.func (.func 112) #[] #[.pointer (some ⟨e.sb,0,none⟩),.pointer (some ⟨e.rb,0,none⟩),.pointer (some ⟨e.pb,0,none⟩)]) rfl;go_upto_region 10 with(fail)
   obtain⟨V31,hW,x0,hN⟩:=zAc wr #[.func (.func 111) #[] #[.pointer (some ⟨e.rb,0,none⟩),.pointer (some ⟨e.pb,0,none⟩),.pointer (some ⟨e.sb,0,none⟩)],.func (.func 112) #[] #[.pointer (some ⟨e.sb,0,none⟩),.pointer (some ⟨e.rb,0,none⟩),.pointer (some ⟨e.pb,0,none⟩)]] 112;rw[←hW];clear hW;obtain⟨v0,hb0⟩:=ze wr.heap.size;rw[←hb0] at x0 ⊢;have ow_0:w.heap.size≤v0:=zi (zww hB Bz);replace hal:=hal.below hN;replace het:=het.below hN;replace ho:=ho.below hN;replace hB:=bT (bT hB Bz) hN;have HX0:=zh x0;clear x0 hN Bz hb0;have Bz:=zr V31;clear pA0 pA1;have pa0:=(zx HX0 Bz).cell 0 (.func (.func 111) #[] #[.pointer (some ⟨e.rb,0,none⟩),.pointer (some ⟨e.pb,0,none⟩),.pointer (some ⟨e.sb,0,none⟩)]) rfl;go_wp2_with fail
   with_reducible refine(eta_f (w0:=wd) (bT hB (bT Bz)) (EtOk.below het) HGN.out HET.out (OwnR.below ho) (AllRn.below hal) zo hD HTD).mono ?_
   rintro x w31 ⟨rfl,D2,ho2,hl2,hal2,hf2,_,b31⟩;clear HX0;have HF2:=zh hf2;have HL2:=zh hl2;have HO2:=zh ho2;have HA2:=zh hal2;have hB2:=b31;clear ho2 hl2 hal2 hf2 b31;clear Bz hB;have hB:=hB2;clear hB2;have Bz:=zr w31;clear pa0;go_wp2_with fail
   go_roundg (E.length-(i+1))
   case measure=>have:=HGK.out;omega
   case rel=>exact⟨i+1,D2,zo,rfl,by go_num,HO2.out.below (by go_grown),(HA2.out.tight (HTI.out D2 HL2.out HF2.out)).below (by go_grown),HNX.out D2 HF2.out,bT (bT hB Bz)⟩
  ·obtain rfl:i=E.length:=zo;have i1:¬(E.length:Int)<(E.length:Int):=zo;have HSL:=zh (ho.sl' elt_frs HLD.out);have HAL:=zh hal;have HLA:Hid (nrm (idxP (D.map fun x=>x.q))=layF n (etasF (E.map EtM.f) x0)):=zh (by
    have h1:D.map (fun x=>x.q)=(List.range n).map fun(j:Nat)=>etasF (E.map EtM.f) x0 (j:Int):=by
     apply sE
     intro j;rw[qB,qB];by_cases hj:j<n
     ·rw[kF hj,cA (by rw[HLD.out];exact hj)];have h2:=HNF.out (j:Int) zo zo;rw[numF_at zo (by rw[rE];exact cA (by rw[HLD.out];exact hj)),nA (aA _)] at h2;exact congrArg some h2
     ·rw[eB (by rw[HLD.out];omega),eB (by rw[zF];omega)];rfl
    rw[h1];rfl)
   clear ho hal;have HBW:=zh hB;clear hB;have hB:=Below.refl wr.heap.size wr;have Bz:=zr wr;go_wp2_with fail
   with_reducible refine(ofV_q (m:=KX) (HSL.out.below (bT hB (bT (b:=wr) Bz))) (zh ((AllRn.below HAL.out (bT hB (bT (b:=wr) Bz))).fr zo)) zo zo (zh (HTD.out.below (bT HBW.out (bT hB (bT (b:=wr) Bz)))))).mono ?_
   rintro e w61 ⟨A61,n61,c61,rfl,h61,z⟩;replace z:=zq (a:=wr) z;replace Bz:=bT Bz z;clear z;go_wp2_with fail
   go_ret2
   have hF:=bT (c:=w61) hB Bz;refine⟨_,_,_,rfl,?_,bT (bT (bT HWD.out HBW.out))⟩;rw[←HLA.out];exact NV.below h61
theorem bftran_z {w:World} {bb n most M K c hc fb bn bc S:Nat} {C0 C:List (List (Int×Rat))} {E:List EtM} {A H X:Option Addr} {P:List (Int×Rat)} (h:BsAt w bb n most 4 M K C0 C E A H c hc fb) (hC0:∀x∈C0,Rise x∧∀y∈x,sz y.2+1≤4) (hx:GV w X bn bc P S) (hS2:2≤S) (hS:S≤1999) (hbn:bn≤1000) (hn:n≤14) (hn1:n<1) (hfit:fitsB n (nrm P)=true) {KX:Nat} (hKX2:KX≤1000000000) (hEl:E.length<1) (hT:Hid (Tab w)) :
  Calls Tryz.prog 32 #[.pointer (some ⟨bb,0,none⟩),.slice X bn bc] w (TellsLX w [] (KX+2)):=by
 have HBB:=zh h.bx;have hB:=Below.refl w.heap.size w;have Bz:=zr w;go_enter Tryz.func32,Tryz.ntmps32
 go_wp2_with fail
 with_reducible refine(none_not (h.bx.below (bT hB (bT (b:=w) Bz)))).mono ?_
 rintro e w1 ⟨rfl,q⟩;replace q:=zq (a:=w) q;replace Bz:=bT Bz q;clear q;have p90_3:=(HBB.out.below Bz).cell 3 (.pointer (some ⟨fb,0,none⟩)) rfl;go_wp2_with fail
 with_reducible refine((ftranS (h.lu.below (bT hB (bT (b:=w1) Bz))) hC0 (hx.below (bT hB (bT (b:=w1) Bz))) hS2 hS hbn hn hfit (zt hT hB Bz))).mono ?_
 rintro e w2 ⟨A2,n2,c2,rfl,h2,l2,q⟩;replace q:=zq (a:=w1) q;replace Bz:=bT Bz q;clear h2;clear q;clear p90_3;have p90_1:=(HBB.out.below Bz).cell 1 (.int .i64 (n:Int)) rfl;go_wp2_with fail
 with_reducible refine(dense_no (n:Int) zo).mono ?_
 rintro e w3 ⟨rfl,q⟩;replace q:=zq (a:=w2) q;replace Bz:=bT Bz q;clear q;clear p90_1;have p90_4:=(HBB.out.below Bz).cell 4 (.slice H E.length hc) rfl;go_wp2_with fail
 have HWB:=zh (bT hB Bz);clear hB Bz HBB;go_loopg [36] 0 (fun gk s wr=>s=.int .i64 0∧Below w.heap.size w wr)
 case atStart=>exact⟨rfl,bT HWB.out⟩
 case round =>
  clear HWB;obtain⟨rfl,hB⟩:=hrel;have i1:¬(0:Int)<(E.length:Int):=zo;have HBW:=zh hB;clear hB;have hB:=Below.refl wr.heap.size wr;have Bz:=zr wr;go_wp2_with fail
  with_reducible refine(ofV_q (m:=KX) (Sl.nil (f:=Fr.cs) (k:=4) _) (L:=[]) (zh fun x hx=>absurd hx fG) zo zd (zh (hT.out.below (bT HBW.out (bT hB (bT (b:=wr) Bz)))))).mono ?_
  rintro e w61 ⟨A61,n61,c61,rfl,h61,q⟩;replace q:=zq (a:=wr) q;replace Bz:=bT Bz q;clear q;go_wp2_with fail
  go_ret2
  have hF:=bT (c:=w61) hB Bz;refine⟨_,_,_,rfl,NV.below h61,bT (bT HBW.out)⟩
def BTC1 (w:World) (n nm:Nat) (X:Value) (T:List Tm) (M gk:Nat) (x:Value) (wr:World):Prop :=
 ∃i:Nat,i≤nm∧nm-i=gk∧x=.int .i64 (i:Int)∧OwnR wr w.heap.size 32 5 X nm (flat Tm.cs T)∧OnT wr T (fun _=>M)∧(T.take i).all (fitT n)=true∧Below w.heap.size w wr
theorem bbtran_no {w:World} {bb n most M K c hc fb bn bc S:Nat} {C0 C:List (List (Int×Rat))} {E:List EtM} {A H X:Option Addr} {P:List (Int×Rat)} (h:BsAt w bb n most 4 M K C0 C E A H c hc fb) (_hC0:∀x∈C0,Rise x∧∀y∈x,sz y.2+1≤4) (hx:GV w X bn bc P S) (hS2:2≤S) (hS:S≤1999) (hbn:bn≤1000) (_hn:n≤14) (hfit:fitsB n (nrm P)=false) (hT:Hid (Tab w)) :
  Calls Tryz.prog 33 #[.pointer (some ⟨bb,0,none⟩),.slice X bn bc] w fun e w'=>e=.returned (.tuple #[.slice none 0 0,.int .i64 2])∧Below w.heap.size w w':=by
 have HBB:=zh h.bx;have hB:=Below.refl w.heap.size w;have Bz:=zr w;go_enter Tryz.func33,Tryz.ntmps33
 go_wp2_with fail
 with_reducible refine(none_not (h.bx.below (bT hB (bT (b:=w) Bz)))).mono ?_
 rintro e w1 ⟨rfl,q⟩;replace q:=zq (a:=w) q;replace Bz:=bT Bz q;clear q;go_wp2_with fail
 have hz1:w.heap.size≤w1.heap.size:=zi (zww hB Bz);with_reducible refine(normO_q (hx.below (bT hB (bT (b:=w1) Bz))) zo zo (zt hT hB Bz)).mono ?_
 rintro e w2 ⟨Am,nm,cm,T,rfl,ho2,on2,ep2,q⟩;replace q:=zq (a:=w1) q;replace Bz:=bT Bz q;clear q;have HO0:=zh (ho2.rebase hz1);have HN0:=zh on2;have HEP:=zh ep2;clear ho2 on2 ep2;go_wp2_with fail
 have HWB:=zh (bT hB Bz);have HEPF:Hid (T.all (fitT n)=fitsB n (nrm P)):=zh (by rw[fits_prs,HEP.out]);have HTL:=zh (HO0.out.eltn elt_vec zo);have hnm:nm≤1000:=by
  have h1:=nrm_len P;rw[←HEP.out,prs_len,HTL.out,hx.len] at h1;omega
 clear hB Bz HBB hz1;go_loopg [15] nm (fun gk s wr=>BTC1 w n nm (.slice Am nm cm) T S gk s wr)
 case atStart=>exact⟨0,cB _,rfl,rfl,HO0.out.below (by go_grown),HN0.out.below (by go_grown),by rw[yE];rfl,bT HWB.out⟩
 case round =>
  clear HO0 HN0 HWB;obtain⟨i,hi,hgk,rfl,hho,hon,hd,hB⟩:=hrel;have HGK:=zh hgk;have HD:=zh hd;clear hgk hd;by_cases hlt:i<nm
  ·obtain⟨eb,eo,rfl,hel⟩:=(hho.sl' elt_vec HTL.out).at Tm.cs_len zo zo;obtain⟨x,hx9⟩:∃x,T[i]?=some x:=⟨T[i]'(by rw[HTL.out];exact hlt),cA _⟩;have hnd:=hel i x hx9;have HTI:=zh hx9;have i1:(i:Int)<(nm:Int):=zo;have i2:(0:Int)≤(i:Int):=zo;clear hel hx9;by_cases k1:x.at_<0
   ·have HP:Hid (fitT n x=false):=zh (by unfold fitT;rw[fA zo];rfl);have HBB:=zh (h.bx.below hB);have Bz:=zr wr;obtain⟨pA0,pA1,pA2,pA3,pA4,-⟩:=(hnd.below Bz).ez;go_upto_region 6 with(fail)
    obtain⟨V31,hW,x0,hN⟩:=zAc wr #[.int .i64 x.at_,.bool x.x.s,.slice x.x.A x.x.l x.x.c,.bool x.x.s',.slice x.x.A' x.x.l' x.x.c'] 32;rw[←hW];clear hW;obtain⟨v0,hb0⟩:=ze wr.heap.size;rw[←hb0] at x0 ⊢;have ow_0:w.heap.size≤v0:=zi (zww hB Bz);replace hB:=bT (bT hB Bz) hN;replace HBB:=zh ((HBB.out.below Bz).below hN);have HX0:=zh x0;clear x0 hN Bz hb0;have Bz:=zr V31;clear pA0 pA1 pA2 pA3 pA4;have pa0:=(zx HX0 Bz).cell 0 (.int .i64 x.at_) rfl;go_wp2_with fail
    (try simp only[vA,vBa,vC])
    refine zl (zza [0,1,2,3,4,5,6,7,8,9,10,11] .done) [] (zIa pa0) ?_;iterate 4 (refine zUa ?_;try simp only[uW,uX,uY,uZ])
    iterate 7 (refine zN rfl rfl ?_;try simp only[uW,uX,uY,uZ])
    refine zUa ?_;try simp only[uW,uX,uY,uZ]
    refine zAa ?_;go_wp2_with fail
    go_ret2
    have hF:=bT (c:=V31) hB Bz;exact⟨rfl,bT hF⟩
   ·have kb:decide (x.at_<0)=false:=fA k1;by_cases k2:(n:Int)≤x.at_
    ·have HP:Hid (fitT n x=false):=zh (by unfold fitT;rw[fA (p:=x.at_<(n:Int)) zo,Bool.and_false]);have HBB:=zh (h.bx.below hB);have Bz:=zr wr;obtain⟨pA0,pA1,pA2,pA3,pA4,-⟩:=(hnd.below Bz).ez;go_upto_region 6 with(fail)
     obtain⟨V31,hW,x0,hN⟩:=zAc wr #[.int .i64 x.at_,.bool x.x.s,.slice x.x.A x.x.l x.x.c,.bool x.x.s',.slice x.x.A' x.x.l' x.x.c'] 32;rw[←hW];clear hW;obtain⟨v0,hb0⟩:=ze wr.heap.size;rw[←hb0] at x0 ⊢;have ow_0:w.heap.size≤v0:=zi (zww hB Bz);replace hB:=bT (bT hB Bz) hN;replace HBB:=zh ((HBB.out.below Bz).below hN);have HX0:=zh x0;clear x0 hN Bz hb0;have Bz:=zr V31;clear pA0 pA1 pA2 pA3 pA4;have p90_1:=(HBB.out.below Bz).cell 1 (.int .i64 (n:Int)) rfl;have pa0:=(zx HX0 Bz).cell 0 (.int .i64 x.at_) rfl;go_wp2_with fail
     (try simp only[vA,vBa,vC])
     refine zl (zza [0,1,2,3,4,5,6,7,8,9,10,11] .done) [] (zsa pa0 (zIa p90_1)) ?_;iterate 12 (refine zUa ?_;try simp only[uW,uX,uY,uZ])
     refine zAa ?_;go_wp2_with fail
     go_ret2
     have hF:=bT (c:=V31) hB Bz;exact⟨rfl,bT hF⟩
    ·have HP:Hid (fitT n x=true):=zh (by unfold fitT;rw[jA zo,jA zo];rfl);have k3:¬x.at_≥(n:Int):=zo;have HBB:=zh (h.bx.below hB);have Bz:=zr wr;obtain⟨pA0,pA1,pA2,pA3,pA4,-⟩:=(hnd.below Bz).ez;go_upto_region 6 with(fail)
     obtain⟨V31,hW,x0,hN⟩:=zAc wr #[.int .i64 x.at_,.bool x.x.s,.slice x.x.A x.x.l x.x.c,.bool x.x.s',.slice x.x.A' x.x.l' x.x.c'] 32;rw[←hW];clear hW;obtain⟨v0,hb0⟩:=ze wr.heap.size;rw[←hb0] at x0 ⊢;have ow_0:w.heap.size≤v0:=zi (zww hB Bz);replace hho:=hho.below hN;replace hon:=hon.below hN;replace hB:=bT (bT hB Bz) hN;replace HBB:=zh ((HBB.out.below Bz).below hN);have HX0:=zh x0;clear x0 hN Bz hb0;have Bz:=zr V31;clear pA0 pA1 pA2 pA3 pA4;have p90_1:=(HBB.out.below Bz).cell 1 (.int .i64 (n:Int)) rfl;have pa0:=(zx HX0 Bz).cell 0 (.int .i64 x.at_) rfl;go_wp2_with fail
     (try simp only[vA,vBa,vC])
     refine zl (zza [0,1,2,3,4,5,6,7,8,9,10,11] .done) [] (zsa pa0 (zIa p90_1)) ?_;iterate 12 (refine zUa ?_;try simp only[uW,uX,uY,uZ])
     refine zAa ?_;go_wp2_with fail
     go_roundg (nm-(i+1))
     case measure=>have:=HGK.out;omega
     case rel=>exact⟨i+1,zo,rfl,by go_num,OwnR.below hho,OnT.below hon,take_all HD.out HTI.out HP.out,bT (bT hB Bz)⟩
  ·obtain rfl:nm=i:=zo;have h1:=all_yes HTL.out HD.out;rw[HEPF.out,hfit] at h1;cases h1
theorem NV.tight {w:World} {A:Option Addr} {m c M M':Nat} {P:List (Int×Rat)} (h:NV w A m c P M) (hs:∀x∈P,sz x.2+1≤M'):NV w A m c P M':=by
 obtain⟨L,h1,h2,rfl,h4⟩:=h;exact⟨L,h1,fun t ht=>⟨(h2 t ht).1,(h2 t ht).2.1,hs _ (wD (f:=fun t:Tm=>(t.at_,t.x.q)) ht)⟩,rfl,h4⟩
theorem CM.tight {w:World} {A:Option Addr} {n c M M':Nat} {C:List (List (Int×Rat))} (h:CM w A n c C M) (hs:∀x∈C,∀y∈x,sz y.2+1≤M'):CM w A n c C M':=by
 obtain⟨CL,h1,h2,rfl⟩:=h;refine⟨CL,h1,fun v hv=>⟨(h2 v hv).1,fun t ht=>⟨((h2 v hv).2.1 t ht).1,((h2 v hv).2.1 t ht).2.1,?_⟩,(h2 v hv).2.2⟩,rfl⟩;exact hs (prs v.L) (wD (f:=fun v:Vc=>prs v.L) hv) _ (wD (f:=fun t:Tm=>(t.at_,t.x.q)) ht)
theorem layF_congr {n:Nat} {F G:Int→Rat} (h:∀a∈plc n,F a=G a):layF n F=layF n G:=by
 unfold layF
 congr 2
 apply List.map_congr_left
 intro i hi;exact h _ (plc_mem.2 (zi (List.mem_range.1 hi)))
theorem layF_szs {n M:Nat} {F:Int→Rat} (h:∀a∈plc n,sz (F a)+1≤M):∀x∈layF n F,sz x.2+1≤M:=fun x hx=>by
 have h1:=(lay_nrm n F).rise.get hx;have h2:=lay_at n F x hx;have h3:pget (layF n F) x.1=F x.1:=by unfold layF;rw[lay_get,zA h2]
 rw[←h1,h3];exact h _ (plc_mem.2 h2)
theorem nrm_in_len {L:List (Int×Rat)} {n:Nat} (h:Nrm L) (hi:∀t∈L,0≤t.1∧t.1<(n:Int)):L.length≤n:=by
 have h1:layF n (pget L)=nrm L:=layF_ext (by rw[h.self];exact hi) fun _ _=>rfl;rw[h.self] at h1;rw[←h1];exact layF_len _
structure BsOk (av:Nat→Prop) (w:World) (bb n most ne:Nat) (A:Option Addr) (C:List (List (Int×Rat))):Prop where
 ex:∃C0 E H c hc fb,BsAt w bb n most 4 4 500000100 C0 C E A H c hc fb∧E.length=ne∧(∀x∈C0,Rise x∧∀y∈x,sz y.2+1≤4)∧∀e∈E,¬av e.sb
 rc:rightC (n:Int) C=true
 nn:n≤14
 ne:ne≤100
 ha:∀a,A=some a→a.block≠bb∧a.block<w.heap.size
section
variable {av:Nat→Prop} {w w':World} {bb n most ne:Nat} {A:Option Addr} {C:List (List (Int×Rat))}
theorem BsOk.below (h:BsOk av w bb n most ne A C) (hb:Below w.heap.size w w':=by go_grown):BsOk av w' bb n most ne A C:=by
 obtain⟨⟨C0,E,H,c,hc,fb,h1,h2⟩,h3,h4,h5,h6⟩:=h;exact⟨⟨C0,E,H,c,hc,fb,h1.below hb,h2⟩,h3,h4,h5,fun a ha=>⟨(h6 a ha).1,dB (h6 a ha).2 hb.size⟩⟩
theorem BsOk.lt (h:BsOk av w bb n most ne A C):bb<w.heap.size:=by
 obtain⟨⟨C0,E,H,c,hc,fb,h1,h2⟩,_⟩:=h;exact h1.bx.lt
theorem BsOk.len (h:BsOk av w bb n most ne A C):C.length=n:=by
 obtain⟨⟨C0,E,H,c,hc,fb,h1,h2⟩,_⟩:=h;exact h1.cm.len
theorem BsOk.fac (h:BsOk av w bb n most ne A C):(facUp (facT C n) n).isSome=true:=by
 obtain⟨⟨C0,E,H,c,hc,fb,h1,h2⟩,_⟩:=h;obtain⟨t,ht⟩:=h1.lu.up;exact h1.ch.fac h1.lu.hl (by rw[ht];rfl)
theorem BsOk.szs (h:BsOk av w bb n most ne A C):∀x∈C,Rise x∧∀y∈x,sz y.2+1≤4:=by
 obtain⟨⟨C0,E,H,c,hc,fb,h1,h2⟩,h3,_⟩:=h;exact fun x hx=>⟨(rightC_iff.1 h3 x hx).1.rise,h1.cm.szs x hx⟩
theorem BsOk.lens (h:BsOk av w bb n most ne A C):∀x∈C,x.length≤n:=fun x hx=>nrm_in_len (rightC_iff.1 h.rc x hx).1 (rightC_iff.1 h.rc x hx).2
theorem right_map {C:List (List (Int×Rat))} {k:Int} (h:rightC k C=true):C.map nrm=C:=by
 refine(List.map_congr_left (g:=id) fun x hx=>?_).trans (List.map_id C);exact(rightC_iff.1 h x hx).1.self
theorem BsOk.ch (h:BsOk av w bb n most ne A C) {av2:Nat→Prop} {bb2 n2 most2 ne2:Nat} {A2:Option Addr} {C2:List (List (Int×Rat))} (h2:BsOk av2 w bb2 n2 most2 ne2 A2 C2) (hk:Ch w w' bb2) (hne:bb≠bb2) (hA:∀a,A=some a→a.block≠bb2):BsOk av w' bb n most ne A C:=by
 obtain⟨⟨C0,E,H,c,hc,fb,h1,h4⟩,h5,h6,h7,h8⟩:=h;obtain⟨⟨C0',E',H',c',hc',fb',h1',_⟩,_⟩:=h2;exact⟨⟨C0,E,H,c,hc,fb,h1.chg (A:=A2) (H:=H') (n:=n2) (c:=c') (most:=most2) (fb:=fb') (m:=E'.length) (hc:=hc') h1'.bx hk hne hA,h4⟩,h5,h6,h7,fun a ha=>⟨(h8 a ha).1,dB (h8 a ha).2 hk.1.size⟩⟩
theorem bokF (h:BsOk av w bb n most ne A C) {X:Option Addr} {bn bc S:Nat} {P:List (Int×Rat)} (hx:GV w X bn bc P S) (hS2:2≤S) (hS:S≤1999) (hbn:bn≤1000) (hfit:fitsB n (nrm P)=true) (hT:Hid (Tab w)) :
  Calls Tryz.prog 32 #[.pointer (some ⟨bb,0,none⟩),.slice X bn bc] w (TellsL14 w (layF n (back (fwd (facST C n) (pget P)) (facST C n)))):=by
 have hs:=h.szs;have hfa:=h.fac;have hl:=h.len;obtain⟨⟨C0,E,H,c,hc,fb,h1,h2,h3,_⟩,h4,hn,h6,h7⟩:=h;have hup:(facUp (facT C0 n) n).isSome=true:=by obtain⟨t,ht⟩:=h1.lu.up;rw[ht];rfl
 by_cases hn1:1≤n
 ·have hsol:=(sol_small hn (show S+1≤2000 by omega)).1;have hf:∀j∈plc n,sz (pget P j)≤S+1:=fun j _=>hx.getsz j;have hE:∀a∈plc n,etasF (E.map EtM.f) (back (fwd (facST C0 n) (pget P)) (facST C0 n)) a=back (fwd (facST C n) (pget P)) (facST C n) a:=fun a ha=>h1.ch.ftranF h1.lu.hl hup (pget P) a ha;refine(bftran_q (KX:=500000001) h1 h3 hx hS2 hS hbn hn hn1 hfit zo zo zo zo (zh fun i hi a h0 h9=>?_) hT).mono ?_
  ·have:=h1.ch.fsz h1.lu.hl hn1 hup (ma_small h3) hf i (by rw[xB];exact hi) a (plc_mem.2 ⟨h0,h9⟩);rw[List.map_take];omega
  ·rintro e w2 ⟨A',m,c',rfl,q1,q2⟩;rw[layF_congr hE] at q1;refine⟨A',m,c',rfl,q1.tight (layF_szs fun a ha=>?_),by rw[←q1.len];exact wA (layF_len _) hn,q2⟩;obtain⟨u,hu⟩:=vE.1 hfa;rw[facST_eq hu];have:=lu_sz hl hn1 hu (D:=3) (fun j _ b _=>ma_small hs j b) hf a ha;omega
 ·obtain rfl:n=0:=zo;have hE:E.length<1:=by
   cases E with
   | nil=>exact Nat.lt_succ_self 0
   | cons e E=>have:=(h1.ok e qA).rn;omega
  refine(bftran_z (KX:=499999998) h1 h3 hx hS2 hS hbn hn zo hfit zo hE hT).mono ?_;rintro e w2 ⟨A',m,c',rfl,q1,q2⟩;exact⟨A',m,c',rfl,q1,by rw[←q1.len];exact cB _,q2⟩
theorem bokF_no (h:BsOk av w bb n most ne A C) {X:Option Addr} {bn bc S:Nat} {P:List (Int×Rat)} (hx:GV w X bn bc P S) (hS2:2≤S) (hS:S≤1999) (hbn:bn≤1000) (hfit:fitsB n (nrm P)=false) (hT:Hid (Tab w)) :
  Calls Tryz.prog 32 #[.pointer (some ⟨bb,0,none⟩),.slice X bn bc] w fun e w'=>e=.returned (.tuple #[.slice none 0 0,.int .i64 2])∧Below w.heap.size w w':=by
 obtain⟨⟨C0,E,H,c,hc,fb,h1,h2,h3,_⟩,h4,hn,h6,h7⟩:=h;exact bftran_no h1 h3 hx hS2 hS hbn hn hfit hT
theorem bokB_no (h:BsOk av w bb n most ne A C) {X:Option Addr} {bn bc S:Nat} {P:List (Int×Rat)} (hx:GV w X bn bc P S) (hS2:2≤S) (hS:S≤1999) (hbn:bn≤1000) (hfit:fitsB n (nrm P)=false) (hT:Hid (Tab w)) :
  Calls Tryz.prog 33 #[.pointer (some ⟨bb,0,none⟩),.slice X bn bc] w fun e w'=>e=.returned (.tuple #[.slice none 0 0,.int .i64 2])∧Below w.heap.size w w':=by
 obtain⟨⟨C0,E,H,c,hc,fb,h1,h2,h3,_⟩,h4,hn,h6,h7⟩:=h;exact bbtran_no h1 h3 hx hS2 hS hbn hn hfit hT
end
theorem bnew_ok {av:Nat→Prop} {w:World} {A:Option Addr} {n c most:Nat} {C:List (List (Int×Rat))} (h:CM w A n c C 4) (hC:∀x∈C,x.length≤1000) (hn:n≤14) (hr:rightC (n:Int) C=true) (hs:(facUp (facT C n) n).isSome=true) (m1:1≤most) (m2:most≤100) (hT:Hid (Tab w)) :
  Calls Tryz.prog 29 #[.slice A n c,.int .i64 (n:Int),.int .i64 (most:Int)] w fun e w'=>∃bb A',e=.returned (.tuple #[.pointer (some ⟨bb,0,none⟩),.int .i64 0])∧w.heap.size≤bb∧BsOk av w' bb n most 0 A' C∧Below w.heap.size w w':=by
 have q1:¬(most:Int)<1:=zo;have q2:¬(most:Int) > 100:=zo;have kb:decide ((most:Int)<1)=false:=fA q1;have hri:∀x∈C,Rise x:=fun x hx=>(rightC_iff.1 hr x hx).1.rise;have hs4:∀x∈C,Rise x∧∀y∈x,sz y.2+1≤4:=fun x hx=>⟨hri x hx,h.szs x hx⟩;have hM:facM 4 n≤3600000012:=wA (facM_mono 4 hn) zd;have hB:=Below.refl w.heap.size w;have Bz:=zr w;go_enter Tryz.func29,Tryz.ntmps29
 go_wp2_with fail
 with_reducible refine(factorOk (h.below (bT hB (bT (b:=w) Bz))) hC zo hM hr hs _ rfl (zt hT hB Bz)).mono ?_
 rintro e w1 ⟨fb,rfl,hlu1,q⟩;replace q:=zq (a:=w) q;replace Bz:=bT Bz q;clear q;go_wp2_with fail
 with_reducible refine(copied_q (CM.cw (h.below (bT hB (bT (b:=w1) Bz))) hri) (zh hC) zo zo (zt hT hB Bz)).mono ?_
 rintro e w2 ⟨gg,rfl,hgg2,hc2,q⟩;replace q:=zq (a:=w1) q;replace hlu1:=hlu1.below q;replace Bz:=bT Bz q;clear q;have HGG:=zh hgg2;clear hgg2;go_wp2_with fail
 obtain⟨V1,hW,x0,hN⟩:=zAc w2 #[.slice (some ⟨gg,0,none⟩) n n,.int .i64 (n:Int),.int .i64 (most:Int),.pointer (some ⟨fb,0,none⟩),.slice none 0 0] 108;rw[←hW];clear hW;obtain⟨v0,hb0⟩:=ze w2.heap.size;rw[←hb0] at x0 ⊢;have ow_0:w.heap.size≤v0:=zi (zww hB Bz);replace hc2:=hc2.below hN;replace hlu1:=hlu1.below hN;replace hB:=bT (bT hB Bz) hN;have HX0:=zh x0;have ng0:gg<v0:=zi HGG.out.2;clear x0 hN Bz hb0;have Bz:=zr V1;go_ret2
 have hF:=bT (c:=V1) hB Bz;have HX:=HX0.out;exact⟨v0,some ⟨gg,0,none⟩,rfl,zo,⟨⟨C,[],none,n,0,fb,⟨HX.below (by go_grown),by have h9:=CM.below hc2;rw[right_map hr] at h9;exact h9.tight h.szs,LuAt.below hlu1,Sl.nil _,fun e he=>absurd he fG,Chain.nil,aA _⟩,rfl,hs4,fun e he=>absurd he fG⟩,hr,hn,zo,fun a ha=>by obtain rfl:=Option.some.inj ha;have:=HX.lt;exact⟨show gg≠v0 by omega,show gg<_ by omega⟩⟩,bT hF⟩
theorem bnew_most {w:World} {A:Option Addr} {n c:Nat} {z m:Int} (hm:m<1∨100<m) :
  Calls Tryz.prog 29 #[.slice A n c,.int .i64 z,.int .i64 m] w fun e w'=>e=.returned (.tuple #[.pointer none,.int .i64 2])∧Below w.heap.size w w':=by
 rcases hm with i1 | i1
 ·have q1:m<1:=i1;have kb:decide (m<1)=true:=jA q1;have hB:=Below.refl w.heap.size w;have Bz:=zr w;go_enter Tryz.func29,Tryz.ntmps29
  go_wp2_with fail
  go_ret2
  have hF:=bT (c:=w) hB Bz;exact⟨rfl,bT hF⟩
 ·have q1:¬m<1:=zo;have q2:m > 100:=i1;have kb:decide (m<1)=false:=fA q1;have hB:=Below.refl w.heap.size w;have Bz:=zr w;go_enter Tryz.func29,Tryz.ntmps29
  go_wp2_with fail
  go_ret2
  have hF:=bT (c:=w) hB Bz;exact⟨rfl,bT hF⟩
theorem bnew_err2 {w:World} {A:Option Addr} {n c:Nat} {z m:Int} (m1:1≤m) (m2:m≤100) (hF:∀{w1:World},Below w.heap.size w w1→Calls Tryz.prog 6 #[.slice A n c,.int .i64 z] w1 fun e w'=>e=.returned (.tuple #[.pointer none,.int .i64 2])∧Below w1.heap.size w1 w') :
  Calls Tryz.prog 29 #[.slice A n c,.int .i64 z,.int .i64 m] w fun e w'=>e=.returned (.tuple #[.pointer none,.int .i64 2])∧Below w.heap.size w w':=by
 have q1:¬m<1:=zo;have q2:¬m > 100:=zo;have kb:decide (m<1)=false:=fA q1;have hB:=Below.refl w.heap.size w;have Bz:=zr w;go_enter Tryz.func29,Tryz.ntmps29
 go_wp2_with fail
 with_reducible refine(hF ((bT hB (bT (b:=w) Bz)))).mono ?_
 rintro e w1 ⟨rfl,q⟩;replace q:=zq (a:=w) q;replace Bz:=bT Bz q;clear q;go_wp2_with fail
 go_ret2
 have hF':=bT (c:=w1) hB Bz;exact⟨rfl,bT hF'⟩
theorem bnew_err12 {w:World} {A:Option Addr} {n c:Nat} {z m:Int} (m1:1≤m) (m2:m≤100) (hF:∀{w1:World},Below w.heap.size w w1→Calls Tryz.prog 6 #[.slice A n c,.int .i64 z] w1 fun e w'=>e=.returned (.tuple #[.pointer none,.int .i64 12])∧Below w1.heap.size w1 w') :
  Calls Tryz.prog 29 #[.slice A n c,.int .i64 z,.int .i64 m] w fun e w'=>e=.returned (.tuple #[.pointer none,.int .i64 12])∧Below w.heap.size w w':=by
 have q1:¬m<1:=zo;have q2:¬m > 100:=zo;have kb:decide (m<1)=false:=fA q1;have hB:=Below.refl w.heap.size w;have Bz:=zr w;go_enter Tryz.func29,Tryz.ntmps29
 go_wp2_with fail
 with_reducible refine(hF ((bT hB (bT (b:=w) Bz)))).mono ?_
 rintro e w1 ⟨rfl,q⟩;replace q:=zq (a:=w) q;replace Bz:=bT Bz q;clear q;go_wp2_with fail
 go_ret2
 have hF':=bT (c:=w1) hB Bz;exact⟨rfl,bT hF'⟩
theorem bcopy {av:Nat→Prop} {w:World} {bb n most ne:Nat} {A:Option Addr} {C:List (List (Int×Rat))} (h:BsOk av w bb n most ne A C) :
  Calls Tryz.prog 34 #[.pointer (some ⟨bb,0,none⟩)] w fun e w'=>∃cb,e=.returned (.pointer (some ⟨cb,0,none⟩))∧w.heap.size≤cb∧BsOk av w' cb n most ne A C∧Below w.heap.size w w':=by
 obtain⟨⟨C0,E,H,c,hc,fb,h1,rfl,h2⟩,h4,hn,h6,h7⟩:=h;have HBB:=zh h1.bx;have HX:=h1.bx;have hB:=Below.refl w.heap.size w;have Bz:=zr w;go_enter Tryz.func34,Tryz.ntmps34
 go_wp2_with fail
 with_reducible refine(none_not (HX.below (bT hB (bT (b:=w) Bz)))).mono ?_
 rintro e w1 ⟨rfl,q⟩;replace q:=zq (a:=w) q;replace Bz:=bT Bz q;clear q;have p90_0:=(HBB.out.below Bz).cell 0 (.slice A n c) rfl;have p90_1:=(HBB.out.below Bz).cell 1 (.int .i64 (n:Int)) rfl;have p90_2:=(HBB.out.below Bz).cell 2 (.int .i64 (most:Int)) rfl;have p90_3:=(HBB.out.below Bz).cell 3 (.pointer (some ⟨fb,0,none⟩)) rfl;have p90_4:=(HBB.out.below Bz).cell 4 (.slice H E.length hc) rfl;go_upto_region 4 with(fail)
 obtain⟨V1,hW,x0,hN⟩:=zAc w1 #[.slice A n c,.int .i64 (n:Int),.int .i64 (most:Int),.pointer (some ⟨fb,0,none⟩),.slice H E.length hc] 108;rw[←hW];clear hW;obtain⟨v0,hb0⟩:=ze w1.heap.size;rw[←hb0] at x0 ⊢;have ow_0:w.heap.size≤v0:=zi (zww hB Bz);replace hB:=bT (bT hB Bz) hN;replace HBB:=zh ((HBB.out.below Bz).below hN);have HX0:=zh x0;clear x0 hN Bz hb0;have Bz:=zr V1;clear p90_0 p90_1 p90_2 p90_3 p90_4;go_wp2_with fail
 go_ret
 have hF:=bT (c:=V1) hB Bz;exact⟨v0,rfl,zo,⟨⟨C0,E,H,c,hc,fb,⟨HX0.out.below (by go_grown),h1.cm.below (bT hF),h1.lu.below (bT hF),h1.et.below (bT hF),fun e he=>(h1.ok e he).below (bT hF),h1.ch,h1.el⟩,rfl,h2⟩,h4,hn,h6,fun a ha=>⟨by have:=(h7 a ha).2;omega,dB (h7 a ha).2 (Below.size (w:=w) (bT hF))⟩⟩,bT hF⟩
theorem brep_out {av:Nat→Prop} {w:World} {bb n most ne bn bc:Nat} {A X:Option Addr} {C:List (List (Int×Rat))} (hOk:BsOk av w bb n most ne A C) {z:Int} (hz:z<0∨(n:Int)≤z) :
  Calls Tryz.prog 31 #[.pointer (some ⟨bb,0,none⟩),.int .i64 z,.slice X bn bc] w fun e w'=>e=.returned (.int .i64 2)∧Below w.heap.size w w':=by
 obtain⟨⟨C0,E,H,c,hc,fb,h1,rfl,h2,h3⟩,h4,hn,h6,h7⟩:=hOk;rcases hz with i1 | i1
 ·have kb:decide (z<0)=true:=jA i1;have HBB:=zh h1.bx;have HX:=h1.bx;have hB:=Below.refl w.heap.size w;have Bz:=zr w;go_enter Tryz.func31,Tryz.ntmps31
  go_wp2_with fail
  with_reducible refine(none_not (HX.below (bT hB (bT (b:=w) Bz)))).mono ?_
  rintro e w1 ⟨rfl,q⟩;replace q:=zq (a:=w) q;replace Bz:=bT Bz q;clear q;go_wp2_with fail
  go_ret
  have hF:=bT (c:=w1) hB Bz;exact⟨rfl,bT hF⟩
 ·by_cases i2:z<0
  ·have kb:decide (z<0)=true:=jA i2;have HBB:=zh h1.bx;have HX:=h1.bx;have hB:=Below.refl w.heap.size w;have Bz:=zr w;go_enter Tryz.func31,Tryz.ntmps31
   go_wp2_with fail
   with_reducible refine(none_not (HX.below (bT hB (bT (b:=w) Bz)))).mono ?_
   rintro e w1 ⟨rfl,q⟩;replace q:=zq (a:=w) q;replace Bz:=bT Bz q;clear q;go_wp2_with fail
   go_ret
   have hF:=bT (c:=w1) hB Bz;exact⟨rfl,bT hF⟩
  ·have kb:decide (z<0)=false:=fA i2;have i3:z≥(n:Int):=i1;have HBB:=zh h1.bx;have HX:=h1.bx;have hB:=Below.refl w.heap.size w;have Bz:=zr w;go_enter Tryz.func31,Tryz.ntmps31
   go_wp2_with fail
   with_reducible refine(none_not (HX.below (bT hB (bT (b:=w) Bz)))).mono ?_
   rintro e w1 ⟨rfl,q⟩;replace q:=zq (a:=w) q;replace Bz:=bT Bz q;clear q;have p90_1:=(HBB.out.below Bz).cell 1 (.int .i64 (n:Int)) rfl;go_wp2_with fail
   go_ret
   have hF:=bT (c:=w1) hB Bz;exact⟨rfl,bT hF⟩
theorem brep_bad {av:Nat→Prop} {w:World} {bb n most ne bn bc:Nat} {A X:Option Addr} {C:List (List (Int×Rat))} (hOk:BsOk av w bb n most ne A C) {T:List Tm} {r:Nat} (hr:r<n) (hx:Sl Tm.cs 5 w X bn bc T) (hfr:Hid (∀t∈T,FrOk w 2 t.x)) (hbn:bn≤1000) (hR:Hid (rightB T (n:Int)=false)) (hT:Hid (Tab w)) :
  Calls Tryz.prog 31 #[.pointer (some ⟨bb,0,none⟩),.int .i64 (r:Int),.slice X bn bc] w fun e w'=>e=.returned (.int .i64 2)∧Below w.heap.size w w':=by
 obtain⟨⟨C0,E,H,c,hc,fb,h1,rfl,h2,h3⟩,h4,hn,h6,h7⟩:=hOk;have i1:¬(r:Int)<0:=zo;have i2:¬(r:Int)≥(n:Int):=zo;have kb:decide ((r:Int)<0)=false:=fA i1;have kc:decide ((r:Int)≥(n:Int))=false:=fA i2;have HBB:=zh h1.bx;have HX:=h1.bx;have hB:=Below.refl w.heap.size w;have Bz:=zr w;go_enter Tryz.func31,Tryz.ntmps31
 go_wp2_with fail
 with_reducible refine(none_not (HX.below (bT hB (bT (b:=w) Bz)))).mono ?_
 rintro e w1 ⟨rfl,q⟩;replace q:=zq (a:=w) q;replace Bz:=bT Bz q;clear q;have p90_1:=(HBB.out.below Bz).cell 1 (.int .i64 (n:Int)) rfl;go_wp2_with fail
 with_reducible refine(right_q (m:=2) (hx.below (bT hB (bT (b:=w1) Bz))) (fun t ht=>(hfr.out t ht).below (bT hB (bT (b:=w1) Bz))) zo zo false hR (zt hT hB Bz)).mono ?_
 rintro e w2 ⟨rfl,q⟩;replace q:=zq (a:=w1) q;replace Bz:=bT Bz q;clear q;clear p90_1;go_wp2_with fail
 go_ret
 have hF:=bT (c:=w2) hB Bz;exact⟨rfl,bT hF⟩
def exF (C:List (List (Int×Rat))) (n:Nat) (Z:List (Int×Rat)):List (Int×Rat):=layF n (back (fwd (facST C n) (pget Z)) (facST C n))
theorem exF_sol {C:List (List (Int×Rat))} {n:Nat} (hl:C.length=n) (h:(facUp (facT C n) n).isSome=true) (Z:List (Int×Rat)) (j:Int) (hj:j∈plc n):dotV (plc n) (mA C j) (pget (exF C n Z))=pget Z j:=by
 obtain⟨t,ht⟩:=vE.1 h;unfold exF
 rw[layF_dot,facST_eq ht];exact lu_sol hl ht _ j hj
theorem nv_get3 {w:World} {X:Option Addr} {bn bc:Nat} {Z:List (Int×Rat)} (hz:NV w X bn bc Z 4) (hN:Nrm Z) (j:Int):sz (pget Z j)≤3:=by
 by_cases h0:pget Z j=0
 ·rw[h0];exact wA sz_zero zd
 ·obtain⟨t,ht,rfl⟩:=pget_mem h0;rw[hN.rise.get ht];have:=nv_szs hz t ht;omega
theorem exF_sz {av:Nat→Prop} {w:World} {bb n most ne:Nat} {A X:Option Addr} {C:List (List (Int×Rat))} {bn bc:Nat} {Z:List (Int×Rat)} (h:BsOk av w bb n most ne A C) (hz:NV w X bn bc Z 4) (hN:Nrm Z) (a:Int):sz (pget (exF C n Z) a)≤500000000:=by
 unfold exF layF
 rw[lay_get];split
 ·rename_i ha
  obtain⟨u,hu⟩:=vE.1 h.fac;rw[facST_eq hu];have h1:=lu_sz h.len zo hu (D:=3) (fun j _ b _=>ma_small h.szs j b) (f:=pget Z) (S:=6) (fun j _=>(hz.gv hN.rise).getsz j) a (plc_mem.2 ha);have h2:=(sol_small h.nn (show 6≤2000 by omega)).1;omega
 ·exact wA sz_zero zo
theorem bokX {av:Nat→Prop} {w:World} {bb n most ne:Nat} {A X:Option Addr} {C:List (List (Int×Rat))} {bn bc:Nat} {Z:List (Int×Rat)} (h:BsOk av w bb n most ne A C) (hz:NV w X bn bc Z 4) (hN:Nrm Z) (hbn:bn≤1000) (hfit:fitsB n (nrm Z)=true) (hT:Hid (Tab w)) :
  Calls Tryz.prog 32 #[.pointer (some ⟨bb,0,none⟩),.slice X bn bc] w (TellsL14 w (exF C n Z)):=bokF h (hz.gv hN.rise) zo zo hbn hfit hT
theorem exF_nrm (C:List (List (Int×Rat))) (n:Nat) (Z:List (Int×Rat)):Nrm (exF C n Z):=lay_nrm _ _
theorem exF_in (C:List (List (Int×Rat))) (n:Nat) (Z:List (Int×Rat)):∀t∈exF C n Z,0≤t.1∧t.1<(n:Int):=lay_at _ _
theorem piv_some {C:List (List (Int×Rat))} {n r:Nat} {Z:List (Int×Rat)} (hl:C.length=n) (h:(facUp (facT C n) n).isSome=true) (hr:r<n) (hs:∀j,sz (pget Z j)≤3) (h0:pget (exF C n Z) (r:Int)≠0):(facUp (facT (C.set r Z) n) n).isSome=true :=
 (Chain.one hr (fun j hj=>exF_sol hl h Z j hj) (lay_at _ _) h0 hs).fac hl h
theorem piv_none {C:List (List (Int×Rat))} {n r:Nat} {Z:List (Int×Rat)} (hl:C.length=n) (h:(facUp (facT C n) n).isSome=true) (hr:r<n) (h0:pget (exF C n Z) (r:Int)=0):(facUp (facT (C.set r Z) n) n).isNone=true:=by
 cases e:facUp (facT (C.set r Z) n) n with
 | none=>rfl
 | some t =>
  exfalso
  have hrm:(r:Int)∈plc n:=plc_mem.2 zo;have h1:=lu_uniq (by rw[bC];exact hl) e (x:=upd (pget (exF C n Z)) (r:Int) (-1)) (y:=fun _=>0) (fun j hj=>by
   rw[dotV_comm _ _ (fun _=>0),dotV_zero];have h2:dotV (plc n) (mA (C.set r Z) j) (upd (pget (exF C n Z)) (r:Int) (-1))=dotV (plc n) (upd (mA C j) (r:Int) (pget Z j)) (upd (pget (exF C n Z)) (r:Int) (-1)):=dotV_row fun b hb=>mA_put zo Z j b (plc_mem.1 hb).1;rw[h2,dotV_split (plc_nodup n) hrm,dotV_comm,dotV_split (plc_nodup n) hrm,dotV_comm,exF_sol hl h Z j hj,h0,upd_at];grind) (r:Int) hrm
  rw[upd_at] at h1;exact absurd h1 zd
theorem brep_sing {av:Nat→Prop} {w:World} {bb n most ne bn bc:Nat} {A X:Option Addr} {C:List (List (Int×Rat))} (hOk:BsOk av w bb n most ne A C) {Z:List (Int×Rat)} {r:Nat} (hr:r<n) (hz:NV w X bn bc Z 4) (hN:Nrm Z) (hin:∀t∈Z,0≤t.1∧t.1<(n:Int)) (hs:(facUp (facT (C.set r Z) n) n).isNone=true) (hT:Hid (Tab w)) :
  Calls Tryz.prog 31 #[.pointer (some ⟨bb,0,none⟩),.int .i64 (r:Int),.slice X bn bc] w fun e w'=>e=.returned (.int .i64 12)∧Below w.heap.size w w':=by
 have hOk':=hOk;obtain⟨⟨C0,E,H,c,hc,fb,h1,rfl,h2,h3⟩,h4,hn,h6,h7⟩:=hOk';have hbn:bn≤14:=by have h9:=nrm_in_len hN hin;have h8:=hz.len;omega
 have i1:¬(r:Int)<0:=zo;have i2:¬(r:Int)≥(n:Int):=zo;have kb:decide ((r:Int)<0)=false:=fA i1;have kc:decide ((r:Int)≥(n:Int))=false:=fA i2;have hfit:fitsB n (nrm Z)=true:=by rw[hN.self];exact fits_iff.2 hin
 have HSZ:=zh (exF_sz hOk hz hN (r:Int));obtain⟨zz,HZZ⟩:∃zz,Hid ((pget (exF C n Z) (r:Int)).num.sign=zz):=⟨_,zh rfl⟩;have hz0:pget (exF C n Z) (r:Int)=0:=by
  by_cases h0:pget (exF C n Z) (r:Int)=0
  ·exact h0
  ·have h9:=piv_some hOk.len hOk.fac hr (fun j=>nv_get3 hz hN j) h0;rw[Option.isNone_iff_eq_none.1 hs] at h9;cases h9
 obtain rfl:zz=0:=by have h9:=HZZ.out;rw[hz0] at h9;exact h9.symm
 have HBB:=zh h1.bx;have HX:=h1.bx;have hB:=Below.refl w.heap.size w;have Bz:=zr w;go_enter Tryz.func31,Tryz.ntmps31
 go_wp2_with fail
 with_reducible refine(none_not (HX.below (bT hB (bT (b:=w) Bz)))).mono ?_
 rintro e w1 ⟨rfl,q⟩;replace q:=zq (a:=w) q;replace Bz:=bT Bz q;clear q;have p90_1:=(HBB.out.below Bz).cell 1 (.int .i64 (n:Int)) rfl;go_wp2_with fail
 with_reducible refine(rightS (hz.below (bT hB (bT (b:=w1) Bz))) zo zo hN hin (zt hT hB Bz)).mono ?_
 rintro e w2 ⟨rfl,q⟩;replace q:=zq (a:=w1) q;replace Bz:=bT Bz q;clear q;clear p90_1;go_wp2_with fail
 with_reducible refine(bokX (hOk.below (bT hB (bT (b:=w2) Bz))) (hz.below (bT hB (bT (b:=w2) Bz))) hN zo hfit (zt hT hB Bz)).mono ?_
 rintro e w3 ⟨A3,n3,c3,rfl,h3,l3,q⟩;replace q:=zq (a:=w2) q;replace Bz:=bT Bz q;clear q;have HVL:Hid (n3≤14):=zh l3;clear l3;go_wp2_with fail
 with_reducible refine(getV_q (r:Int) ((NV.below h3).gv (exF_nrm C n Z).rise) zo (zi HVL.out) (zt hT hB Bz)).mono ?_
 rintro e w4 ⟨s4,A4,c4,l4,s4r,A4r,c4r,l4r,rfl,h4,q⟩;replace q:=zq (a:=w3) q;replace Bz:=bT Bz q;clear q;go_wp2_with fail
 with_reducible refine(sign_q (R.below h4.r) (wA HSZ.out zo) 0 HZZ).mono ?_
 rintro e w5 ⟨rfl,q⟩;replace q:=zq (a:=w4) q;replace Bz:=bT Bz q;clear q;go_wp2_with fail
 go_ret
 have hF:=bT (c:=w5) hB Bz;exact⟨rfl,bT hF⟩
end Go.Proofs.YteggjbgbknkoiaaGreatDoor
