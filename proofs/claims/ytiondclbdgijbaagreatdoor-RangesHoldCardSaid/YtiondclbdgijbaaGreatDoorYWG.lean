import Derived.Test.YtiondclbdgijbaaGreatDoorYZGcd
import Derived.Test.YtiondclbdgijbaaGreatDoorYStores
set_option maxHeartbeats 4000000
set_option maxRecDepth 100000
namespace Go.Proofs.YtiondclbdgijbaaGreatDoor
open Go.RowKit Tw
section
variable {w:World} {A A':Option Addr} {c c' l l':Nat} {b b':Bool} {z z':Int}
theorem gcd_z (h:I w b A c l z) (h':I w b' A' c' l' z') (hl:l+l'≤800000000000) (hT:Hid (Tab w)) :
  Calls Tryz.prog 72 #[.agg #[.bool b,.slice A l c],.agg #[.bool b',.slice A' l' c']] w (TellsZ w (Int.gcd z z':Int) (l+l')):=by
 obtain⟨n,h1,rfl⟩:=h;obtain⟨n',h1',rfl⟩:=h';have HE:Hid ((Int.gcd (sgn b n) (sgn b' n'):Int)=(Nat.gcd n n':Int)):=by
  show _=_
  unfold Int.gcd
  rw[sgn_abs,sgn_abs]
 obtain⟨W,hW,x0,x1,x2,hB⟩:=box2 w (.bool b) (.slice A l c) (.bool b') (.slice A' l' c') (.bool false) (.slice none 0 0);have HV:=zh (h1.below hB);have HV':=zh (h1'.below hB);have HT:=zh (Tab.below hT.out hB);have HY:=zh x2;obtain⟨⟨a1,a2⟩,_,a4⟩:=x0.look;obtain⟨⟨a1',a2'⟩,_,a4'⟩:=x1.look;clear h1 h1' x0 x1 x2 hT;go_enter Tryz.func72,Tryz.ntmps72
 go_wp2_with fail
 rw[←hW];clear hW;with_reducible refine(gcd_v HV.out HV'.out hl HT).mono ?_
 rintro e w1 ⟨A1,c1,l1,rfl,h1,m1,b1⟩;go_wp2_with fail
 with_reducible refine(signed_c false (Nat.gcd n n':Int) h1 rfl).mono ?_
 rintro e w2 ⟨rfl,b2⟩;have b3:=bT b1 b2;obtain⟨⟨y1,y2⟩,⟨y3,y4⟩,y5⟩:=(HY.out.below b3).look;go_wp2_with fail
 (try simp only[Exit.inBlock,Exit.then])
 refine bodyPost_ret (by simp[results,Tryz.results72,go_sem,y1,y2];try rfl) rfl ?_;exact⟨_,A1,c1,l1,rfl,⟨by rw[HE.out];exact(h1.below b2).box y1 y2 nofun,by rw[HE.out]⟩,m1,((bT hB b3).setCell (by simp only[];omega) _).setCell (by simp only[];omega) _⟩
end
def dn (q:Rat):Int:=if q.den=1 then 0 else q.den
def R (w:World) (s:Bool) (A:Option Addr) (c l:Nat) (s':Bool) (A':Option Addr) (c' l':Nat) (q:Rat) (m:Nat):Prop :=
 ∃n d:Int,I w s A c l n∧I w s' A' c' l' d∧q=(if l'=0 then qof n 1 else qof n d)∧l≤m∧l'≤m
def RN (w:World) (s:Bool) (A:Option Addr) (c l:Nat) (s':Bool) (A':Option Addr) (c' l':Nat) (q:Rat):Prop:=J w s A c l q.num∧J w s' A' c' l' (dn q)
def sz (q:Rat):Nat:=max (nl q.num.natAbs) (nl q.den)
section
variable {w w':World} {s s':Bool} {A A':Option Addr} {c c' l l' m m':Nat} {q:Rat}
theorem R.below (h:R w s A c l s' A' c' l' q m) (hb:Below w.heap.size w w':=by go_grown):R w' s A c l s' A' c' l' q m:=by
 obtain⟨n,d,h1,h2,h3⟩:=h;exact⟨n,d,h1.below hb,h2.below hb,h3⟩
theorem R.k (h:R w s A c l s' A' c' l' q m) (hb:K64 w w'):R w' s A c l s' A' c' l' q m:=by
 obtain⟨n,d,h1,h2,h3⟩:=h;exact⟨n,d,h1.k hb,h2.k hb,h3⟩
theorem R.mono (h:R w s A c l s' A' c' l' q m) (hm:m≤m'):R w s A c l s' A' c' l' q m':=by
 obtain⟨n,d,h1,h2,h3,h4,h5⟩:=h;exact⟨n,d,h1,h2,h3,zo,zo⟩
theorem R.len (h:R w s A c l s' A' c' l' q m):l≤m∧l'≤m:=by obtain⟨n,d,h1,h2,h3,h4,h5⟩:=h;exact⟨h4,h5⟩
theorem RN.below (h:RN w s A c l s' A' c' l' q) (hb:Below w.heap.size w w':=by go_grown):RN w' s A c l s' A' c' l' q:=⟨h.1.below hb,h.2.below hb⟩
theorem RN.k (h:RN w s A c l s' A' c' l' q) (hb:K64 w w'):RN w' s A c l s' A' c' l' q:=⟨h.1.k hb,h.2.k hb⟩
theorem J.len {z:Int} (h:J w s A c l z):l=nl z.natAbs:=h.1.2.symm
theorem RN.len (h:RN w s A c l s' A' c' l' q):l≤sz q∧l'≤sz q:=by
 have h1:=h.1.len;have h2:=h.2.len;unfold sz
 refine⟨zo,?_⟩;rw[h2];unfold dn
 split
 ·show nl 0≤_;rw[nl_zero];omega
 ·rw[Int.natAbs_natCast];omega
theorem RN.r' (h:RN w s A c l s' A' c' l' q) (hm:sz q≤m):R w s A c l s' A' c' l' q m:=by
 have hl:=h.len;refine⟨q.num,dn q,h.1.i,h.2.i,?_,zo,zo⟩;have h2:=h.2.len;by_cases e:q.den=1
 ·rw[bB (by rw[h2];unfold dn;rw[bB e];rfl)];have:=qof_self q;rw[e] at this;exact this.symm
 ·have hd:dn q=q.den:=by unfold dn;rw[dA e]
  rw[dA (by rw[h2,hd,Int.natAbs_natCast];intro h0;have:=nl_eq_zero.1 h0;have:=q.den_pos;omega),hd];exact(qof_self q).symm
theorem RN.r (h:RN w s A c l s' A' c' l' q):R w s A c l s' A' c' l' q (sz q):=h.r' (aA _)
end
def TellsR (w:World) (q:Rat) (e:Ending) (w':World):Prop :=
 ∃s A c l s' A' c' l',e=.returned (.agg #[.bool s,.slice A l c,.bool s',.slice A' l' c'])∧RN w' s A c l s' A' c' l' q∧Below w.heap.size w w'
def TellsP (w:World) (q:Rat) (m m':Nat) (e:Ending) (w':World):Prop :=
 ∃(n d:Int) (s:Bool) (A:Option Addr) (c l:Nat) (s':Bool) (A':Option Addr) (c' l':Nat),e=.returned (.tuple #[.agg #[.bool s,.slice A l c],.agg #[.bool s',.slice A' l' c']])∧
  I w' s A c l n∧I w' s' A' c' l' d∧0<d∧qof n d=q∧l≤m∧l'≤m'∧Below w.heap.size w w'
section
variable {w:World} {s s':Bool} {A A':Option Addr} {c c' l l':Nat}
theorem over_0 {n d:Int} (_h:I w s A c l n) (h':I w s' A' c' l' d) (hl:l≤800000000000) (hl':l'≤800000000000) (hd:d=0) :
  Calls Tryz.prog 62 #[.agg #[.bool s,.slice A l c],.agg #[.bool s',.slice A' l' c']] w (TellsP w (qof n d) l (max l' 1)):=by
 obtain⟨t,ht⟩:∃t:Int,t=0:=⟨_,rfl⟩;have HT:Hid (d.sign=t):=by rw[ht];exact by show _=_;rw[hd];rfl
 have g0:(t==0)=true:=by rw[ht];rfl
 have g1:(t==-1)=false:=by rw[ht];rfl
 clear ht;obtain⟨W,hW,x0,x1,x2,x3,hB⟩:=boxes4 w #[.bool s,.slice A l c] 45 #[.bool s',.slice A' l' c'] 45 #[.bool false,.slice none 0 0] 45 #[.bool false,.slice none 0 0] 45;replace h':=h'.below hB;have HX0:=zh x0;have HX1:=zh x1;have HX2:=zh x2;have HX3:=zh x3;clear x0 x1 x2 x3;have Bz:=zr W;obtain⟨pb0,pb1,-⟩:=(zx HX1 Bz).cz;go_enter Tryz.func62,Tryz.ntmps62
 go_wp2_with fail
 rw[←hW];clear hW;go_wp2_with fail
 with_reducible refine(sign_z (I.below h') zo t HT.out).mono ?_
 rintro e w1 ⟨rfl,q⟩;replace q:=zq (a:=W) q;replace Bz:=bT Bz q;clear q;clear pb0 pb1;go_wp2_with fail
 with_reducible refine(of_z 1 (zh zo)).mono ?_
 rintro e w2 ⟨s2,A2,c2,l2,rfl,h2,m2,q⟩;replace q:=zq (a:=w1) q;replace Bz:=bT Bz q;clear q;obtain⟨pc0,pc1,-⟩:=(zx HX2 Bz).cz;obtain⟨y2,fc0,fc1,-⟩:=(zx HX2 Bz).fz;obtain⟨pd0,pd1,-⟩:=(zx HX3 Bz).cz;obtain⟨y3,fd0,fd1,-⟩:=(zx HX3 Bz).fz;go_wp2_with fail
 have qc0:w2.cell? ⟨w.heap.size+2,0,none⟩=some (.bool false):=pc0;have qc1:w2.cell? ⟨w.heap.size+2,1,none⟩=some (.slice none 0 0):=pc1;have qd0:w2.cell? ⟨w.heap.size+3,0,none⟩=some (.bool false):=pd0;have qd1:w2.cell? ⟨w.heap.size+3,1,none⟩=some (.slice none 0 0):=pd1;(try simp only[Exit.inBlock,Exit.then])
 refine bodyPost_ret (by simp[results,Tryz.results62,go_sem,qc0,qc1,qd0,qd1];try rfl) rfl ?_;obtain⟨V1,hW,x,kk,far,bel⟩:=store2 (.bool false) (.slice none 0 0) (zx HX2 Bz) nofun nofun;rw[←hW];clear hW;replace h2:=h2.k kk;replace hB:=bel w.heap.size w zo (bT hB Bz);replace HX0:=zf far HX0 Bz;replace HX1:=zf far HX1 Bz;replace HX3:=zf far HX3 Bz;replace HX2:=zh x;clear x kk far bel Bz;have Bz:=zr V1;obtain⟨V2,hW,x,kk,far,bel⟩:=store2 (.bool s2) (.slice A2 l2 c2) (zx HX3 Bz) nofun nofun;rw[←hW];clear hW;replace h2:=h2.k kk;replace hB:=bel w.heap.size w zo (bT hB Bz);replace HX0:=zf far HX0 Bz;replace HX1:=zf far HX1 Bz;replace HX2:=zf far HX2 Bz;replace HX3:=zh x;clear x kk far bel Bz;have Bz:=zr V2;have hF:=bT (c:=V2) hB Bz;exact⟨0,1,false,none,0,0,s2,A2,c2,l2,rfl,J.i (J.zero _),(I.below h2.i),zo,by rw[hd];exact(qof_zero n).symm ▸ (qof_one 0),zo,zo,bT hF⟩
theorem over_neg {n d:Int} (h:I w s A c l n) (h':I w s' A' c' l' d) (hl:l≤800000000000) (hl':l'≤800000000000) (hd:d<0) :
  Calls Tryz.prog 62 #[.agg #[.bool s,.slice A l c],.agg #[.bool s',.slice A' l' c']] w (TellsP w (qof n d) l (max l' 1)):=by
 obtain⟨t,ht⟩:∃t:Int,t = -1:=⟨_,rfl⟩;have HT:Hid (d.sign=t):=by rw[ht];exact zh (jE hd)
 have g0:(t==0)=false:=by rw[ht];rfl
 have g1:(t==-1)=true:=by rw[ht];rfl
 clear ht;obtain⟨W,hW,x0,x1,x2,x3,hB⟩:=boxes4 w #[.bool s,.slice A l c] 45 #[.bool s',.slice A' l' c'] 45 #[.bool false,.slice none 0 0] 45 #[.bool false,.slice none 0 0] 45;replace h':=h'.below hB;replace h:=h.below hB;have HX0:=zh x0;have HX1:=zh x1;have HX2:=zh x2;have HX3:=zh x3;clear x0 x1 x2 x3;have Bz:=zr W;obtain⟨pb0,pb1,-⟩:=(zx HX1 Bz).cz;go_enter Tryz.func62,Tryz.ntmps62
 go_wp2_with fail
 rw[←hW];clear hW;go_wp2_with fail
 with_reducible refine(sign_z (I.below h') zo t HT.out).mono ?_
 rintro e w1 ⟨rfl,q⟩;replace q:=zq (a:=W) q;replace h':=h'.below q;replace h:=h.below q;replace Bz:=bT Bz q;clear q;clear pb0 pb1;obtain⟨pa0,pa1,-⟩:=(zx HX0 Bz).cz;obtain⟨pb0,pb1,-⟩:=(zx HX1 Bz).cz;obtain⟨pc0,pc1,-⟩:=(zx HX2 Bz).cz;obtain⟨y2,fc0,fc1,-⟩:=(zx HX2 Bz).fz;obtain⟨pd0,pd1,-⟩:=(zx HX3 Bz).cz;obtain⟨y3,fd0,fd1,-⟩:=(zx HX3 Bz).fz;go_wp2_with fail
 (try simp only[vAa,vBa,vC])
 refine zl (zz [0,2] (.only 1 (.only 3 (.only 4 (.only 5 .done))))) [4,5] (zsa pa0 (zsa pa1 (zsa pb0 (zIa pb1)))) ?_;iterate 2 (refine zUa ?_;try simp only[Act.put,uX,uY,uZ])
 refine zC 15 rfl rfl (fun K hK=>?_);go_simp
 with_reducible refine(neg_z (I.below h) zo).mono ?_
 rintro e w2 ⟨s2,A2,c2,l2,rfl,h2,m2,q⟩;replace q:=zq (a:=w1) q;replace h':=h'.below q;replace Bz:=bT Bz q;clear q;clear pa0 pa1 pb0 pb1 pc0 pc1 fc0 fc1 y2 pd0 pd1 fd0 fd1 y3;obtain⟨pa0,pa1,-⟩:=(zx HX0 Bz).cz;obtain⟨pb0,pb1,-⟩:=(zx HX1 Bz).cz;obtain⟨pc0,pc1,-⟩:=(zx HX2 Bz).cz;obtain⟨y2,fc0,fc1,-⟩:=(zx HX2 Bz).fz;obtain⟨pd0,pd1,-⟩:=(zx HX3 Bz).cz;obtain⟨y3,fd0,fd1,-⟩:=(zx HX3 Bz).fz;refine hK.out _ _ ⟨pa0,pa1,pb0,pb1⟩ (fun _=>?_);try simp only[Act.put,uX,uY,uZ]
 clear hK K;refine zC 17 rfl rfl (fun K hK=>?_);go_simp
 with_reducible refine(neg_z (I.below h') zo).mono ?_
 rintro e w3 ⟨s3,A3,c3,l3,rfl,h3,m3,q⟩;replace q:=zq (a:=w2) q;replace h2:=h2.below q;replace Bz:=bT Bz q;clear q;clear pa0 pa1 pb0 pb1 pc0 pc1 fc0 fc1 y2 pd0 pd1 fd0 fd1 y3;obtain⟨pa0,pa1,-⟩:=(zx HX0 Bz).cz;obtain⟨pb0,pb1,-⟩:=(zx HX1 Bz).cz;obtain⟨pc0,pc1,-⟩:=(zx HX2 Bz).cz;obtain⟨y2,fc0,fc1,-⟩:=(zx HX2 Bz).fz;obtain⟨pd0,pd1,-⟩:=(zx HX3 Bz).cz;obtain⟨y3,fd0,fd1,-⟩:=(zx HX3 Bz).fz;refine hK.out _ _ ⟨pa0,pa1,pb0,pb1⟩ (fun _=>?_);try simp only[Act.put,uX,uY,uZ]
 clear hK K;refine wpPlan_late (o:=⟨none,_,_,_,_,_⟩) rfl rfl zd (fun K hK=>?_);go_simp
 refine hK.out _ _ ?_;try simp only[Act.put,uX,uY,uZ]
 clear hK K;refine wpPlan_late (o:=⟨none,_,_,_,_,_⟩) rfl rfl zd (fun K hK=>?_);go_simp
 refine hK.out _ _ ?_;try simp only[Act.put,uX,uY,uZ]
 clear hK K;refine wpPlan_done ?_;go_wp2_with fail
 have qc0:w3.cell? ⟨w.heap.size+2,0,none⟩=some (.bool false):=pc0;have qc1:w3.cell? ⟨w.heap.size+2,1,none⟩=some (.slice none 0 0):=pc1;have qd0:w3.cell? ⟨w.heap.size+3,0,none⟩=some (.bool false):=pd0;have qd1:w3.cell? ⟨w.heap.size+3,1,none⟩=some (.slice none 0 0):=pd1;(try simp only[Exit.inBlock,Exit.then])
 refine bodyPost_ret (by simp[results,Tryz.results62,go_sem,qc0,qc1,qd0,qd1];try rfl) rfl ?_;obtain⟨V1,hW,x,kk,far,bel⟩:=store2 (.bool s2) (.slice A2 l2 c2) (zx HX2 Bz) nofun nofun;rw[←hW];clear hW;replace h2:=h2.k kk;replace h3:=h3.k kk;replace hB:=bel w.heap.size w zo (bT hB Bz);replace HX0:=zf far HX0 Bz;replace HX1:=zf far HX1 Bz;replace HX3:=zf far HX3 Bz;replace HX2:=zh x;clear x kk far bel Bz;have Bz:=zr V1;obtain⟨V2,hW,x,kk,far,bel⟩:=store2 (.bool s3) (.slice A3 l3 c3) (zx HX3 Bz) nofun nofun;rw[←hW];clear hW;replace h2:=h2.k kk;replace h3:=h3.k kk;replace hB:=bel w.heap.size w zo (bT hB Bz);replace HX0:=zf far HX0 Bz;replace HX1:=zf far HX1 Bz;replace HX2:=zf far HX2 Bz;replace HX3:=zh x;clear x kk far bel Bz;have Bz:=zr V2;have hF:=bT (c:=V2) hB Bz;exact⟨-n,-d,s2,A2,c2,l2,s3,A3,c3,l3,rfl,(I.below h2.i),(I.below h3.i),zo,qof_neg n d,zo,zo,bT hF⟩
theorem over_pos {n d:Int} (h:I w s A c l n) (h':I w s' A' c' l' d) (_hl:l≤800000000000) (hl':l'≤800000000000) (hd:0<d) :
  Calls Tryz.prog 62 #[.agg #[.bool s,.slice A l c],.agg #[.bool s',.slice A' l' c']] w (TellsP w (qof n d) l (max l' 1)):=by
 obtain⟨t,ht⟩:∃t:Int,t=1:=⟨_,rfl⟩;have HT:Hid (d.sign=t):=by rw[ht];exact zh (yE hd)
 have g0:(t==0)=false:=by rw[ht];rfl
 have g1:(t==-1)=false:=by rw[ht];rfl
 clear ht;obtain⟨W,hW,x0,x1,x2,x3,hB⟩:=boxes4 w #[.bool s,.slice A l c] 45 #[.bool s',.slice A' l' c'] 45 #[.bool false,.slice none 0 0] 45 #[.bool false,.slice none 0 0] 45;replace h':=h'.below hB;replace h:=h.below hB;have HX0:=zh x0;have HX1:=zh x1;have HX2:=zh x2;have HX3:=zh x3;clear x0 x1 x2 x3;have Bz:=zr W;obtain⟨pb0,pb1,-⟩:=(zx HX1 Bz).cz;go_enter Tryz.func62,Tryz.ntmps62
 go_wp2_with fail
 rw[←hW];clear hW;go_wp2_with fail
 with_reducible refine(sign_z (I.below h') zo t HT.out).mono ?_
 rintro e w1 ⟨rfl,q⟩;replace q:=zq (a:=W) q;replace h':=h'.below q;replace h:=h.below q;replace Bz:=bT Bz q;clear q;clear pb0 pb1;obtain⟨pa0,pa1,-⟩:=(zx HX0 Bz).cz;obtain⟨pb0,pb1,-⟩:=(zx HX1 Bz).cz;obtain⟨pc0,pc1,-⟩:=(zx HX2 Bz).cz;obtain⟨y2,fc0,fc1,-⟩:=(zx HX2 Bz).fz;obtain⟨pd0,pd1,-⟩:=(zx HX3 Bz).cz;obtain⟨y3,fd0,fd1,-⟩:=(zx HX3 Bz).fz;go_wp2_with fail
 (try simp only[vAa,vBa,vC])
 refine zl (zz [0,1] (.only 2 (.only 3 .done))) [3] (zsa pa0 (zsa pa1 (zsa pb0 (zIa pb1)))) ?_;iterate 2 (refine zUa ?_;try simp only[Act.put,uX,uY,uZ])
 refine wpPlan_call (o:=⟨none,_,_,_,_,_⟩) rfl rfl (fun K hK=>?_);go_simp
 refine hK.out _ _ ⟨(cell_off zo).trans pa0,(cell_off zo).trans pa1,(cell_off zo).trans pb0,(cell_off zo).trans pb1⟩ (fun _=>?_);try simp only[Act.put,uX,uY,uZ]
 clear hK K;refine wpPlan_late (o:=⟨none,_,_,_,_,_⟩) rfl rfl zd (fun K hK=>?_);go_simp
 refine hK.out _ _ ?_;try simp only[Act.put,uX,uY,uZ]
 clear hK K;refine wpPlan_done ?_;go_wp2_with fail
 have qc0:w1.cell? ⟨w.heap.size+2,0,none⟩=some (.bool false):=pc0;have qc1:w1.cell? ⟨w.heap.size+2,1,none⟩=some (.slice none 0 0):=pc1;have qd0:w1.cell? ⟨w.heap.size+3,0,none⟩=some (.bool false):=pd0;have qd1:w1.cell? ⟨w.heap.size+3,1,none⟩=some (.slice none 0 0):=pd1;(try simp only[Exit.inBlock,Exit.then])
 refine bodyPost_ret (by simp[results,Tryz.results62,go_sem,qc0,qc1,qd0,qd1];try rfl) rfl ?_;obtain⟨V1,hW,x,kk,far,bel⟩:=store2 (.bool s) (.slice A l c) (zx HX2 Bz) nofun nofun;rw[←hW];clear hW;replace h':=h'.k kk;replace h:=h.k kk;replace hB:=bel w.heap.size w zo (bT hB Bz);replace HX0:=zf far HX0 Bz;replace HX1:=zf far HX1 Bz;replace HX3:=zf far HX3 Bz;replace HX2:=zh x;clear x kk far bel Bz;have Bz:=zr V1;obtain⟨V2,hW,x,kk,far,bel⟩:=store2 (.bool s') (.slice A' l' c') (zx HX3 Bz) nofun nofun;rw[←hW];clear hW;replace h':=h'.k kk;replace h:=h.k kk;replace hB:=bel w.heap.size w zo (bT hB Bz);replace HX0:=zf far HX0 Bz;replace HX1:=zf far HX1 Bz;replace HX2:=zf far HX2 Bz;replace HX3:=zh x;clear x kk far bel Bz;have Bz:=zr V2;have hF:=bT (c:=V2) hB Bz;exact⟨n,d,s,A,c,l,s',A',c',l',rfl,(I.below h),(I.below h'),hd,rfl,zo,zo,bT hF⟩
theorem over_q {n d:Int} (h:I w s A c l n) (h':I w s' A' c' l' d) (hl:l≤800000000000) (hl':l'≤800000000000) :
  Calls Tryz.prog 62 #[.agg #[.bool s,.slice A l c],.agg #[.bool s',.slice A' l' c']] w (TellsP w (qof n d) l (max l' 1)):=by
 rcases qE d 0 with hd | hd | hd
 ·exact over_neg h h' hl hl' hd
 ·exact over_0 h h' hl hl' hd
 ·exact over_pos h h' hl hl' hd
end
section
variable {w:World} {s s':Bool} {A A':Option Addr} {c c' l l':Nat}
theorem J.pos1 {z:Int} (h:J w false A c 1 z):∃n:Nat,z=n∧n≠0∧n<B:=by
 have h1:=h.1.2;have h2:¬z<0:=by have:=h.2;simpa using this.symm
 refine⟨z.natAbs,zo,fun e=>?_,?_⟩
 ·rw[e,nl_zero] at h1;omega
 ·have:=lt_pow_nl z.natAbs;rw[h1,Nat.pow_one] at this;exact this
theorem one_z {z:Int} (h:J w s A c l z) (t:Bool) (ht:decide (z=1)=t) :
  Calls Tryz.prog 71 #[.agg #[.bool s,.slice A l c]] w fun e w'=>e=.returned (.bool t)∧Below w.heap.size w w':=by
 cases s
 ·by_cases hl:l=1
  ·subst hl;obtain⟨n,rfl,h0,hB⟩:=h.pos1;have hc:=h.1;rw[Int.natAbs_natCast] at hc;obtain⟨_,k,off,rfl,cd⟩:=digit_one hc h0 hB;have cd':(w.alloc (.cells #[.bool false,.slice (some ⟨k,off,none⟩) 1 c] 45)).cell? ⟨k,off,none⟩=some (.int .u64 (n:Int)):=(Below.cell (zAe _ _) (World.block_lt_of_cell? w _ cd)).trans cd;have g1:((n:Int)==1)=t:=by rw[←ht];rfl
   have lt0:(0:Int)<((1:Nat):Int):=zo;clear ht h hc cd h0 hB;go_enter Tryz.func71,Tryz.ntmps71
   go_wp2_with fail
   go_ret
   exact⟨rfl,by go_grown⟩
  ·have g1:((l:Int)==1)=false:=by simp;omega
   have ht':t=false:=by
    rw[←ht];refine yA fun e=>hl ?_;have:=h.1.2;rw[e] at this;rw[←this];decide
   clear ht h hl;subst ht';go_enter Tryz.func71,Tryz.ntmps71
   go_wp2_with fail
   go_ret
   exact⟨rfl,by go_grown⟩
 ·have ht':t=false:=by
   rw[←ht];have:=h.2;exact yA fun e=>by rw[e] at this;cases this
  clear ht h;subst ht';go_enter Tryz.func71,Tryz.ntmps71
  go_wp2_with fail
  go_ret
  exact⟨rfl,by go_grown⟩
theorem I.nl {z:Int} (h:I w s A c l z):Tw.nl z.natAbs≤l:=by
 obtain⟨n,h1,rfl⟩:=h;rw[sgn_abs];exact h1.le
theorem parts_q {q:Rat} {m:Nat} (h:R w s A c l s' A' c' l' q m) (hm:m≤800000000000) :
  Calls Tryz.prog 31 #[.agg #[.bool s,.slice A l c,.bool s',.slice A' l' c']] w (TellsP w q m (max m 1)):=by
 obtain⟨n,d,hn,hd,hq,hl,hl'⟩:=h;by_cases h0:l'=0
 ·rw[bB h0] at hq;subst hq;have g0:((l':Int)==0)=true:=by simp;omega
  clear h0;obtain⟨W,hW,x0,x1,x2,hB⟩:=boxes3 w #[.bool s,.slice A l c,.bool s',.slice A' l' c'] 47 #[.bool false,.slice none 0 0] 45 #[.bool false,.slice none 0 0] 45;replace hn:=hn.below hB;have HX0:=zh x0;have HX1:=zh x1;have HX2:=zh x2;clear x0 x1 x2;have Bz:=zr W;obtain⟨pa0,pa1,-,pa3,-⟩:=(zx HX0 Bz).cz;obtain⟨pb0,pb1,-⟩:=(zx HX1 Bz).cz;obtain⟨y1,f1_0,fb1,-⟩:=(zx HX1 Bz).fz;obtain⟨pc0,pc1,-⟩:=(zx HX2 Bz).cz;obtain⟨y2,fc0,fc1,-⟩:=(zx HX2 Bz).fz;go_enter Tryz.func31,Tryz.ntmps31
  go_wp2_with fail
  rw[←hW];clear hW;go_wp2_with fail
  (try simp only[vAa,vBa,vC])
  refine zl (.pure 0 (.take 1 (.only 2 (.only 3 (.only 4 .done))))) [3,4] (zsa pa0 (zIa pa1)) ?_;iterate 2 ((first|refine zV ?_|refine zUa ?_);try simp only[Act.put,uX,uY,uZ])
  refine zC 11 rfl rfl (fun K hK=>?_);go_simp
  with_reducible refine(of_z 1 (zh zo)).mono ?_
  rintro e w1 ⟨s1,A1,c1,l1,rfl,h1,m1,b⟩;replace b:=zq (a:=W) b;replace hn:=hn.below b;replace Bz:=bT Bz b;clear b;clear pa0 pa1 pa3 pb0 pb1 f1_0 fb1 y1 pc0 pc1 fc0 fc1 y2;obtain⟨pa0,pa1,-⟩:=(zx HX0 Bz).cz;obtain⟨pb0,pb1,-⟩:=(zx HX1 Bz).cz;obtain⟨y1,f1_0,fb1,-⟩:=(zx HX1 Bz).fz;obtain⟨pc0,pc1,-⟩:=(zx HX2 Bz).cz;obtain⟨y2,fc0,fc1,-⟩:=(zx HX2 Bz).fz;refine hK.out _ _ ⟨pa0,pa1⟩ (fun _=>?_);try simp only[Act.put,uX,uY,uZ]
  clear hK K;refine wpPlan_late (o:=⟨none,_,_,_,_,_⟩) rfl rfl zd (fun K hK=>?_);go_simp
  refine hK.out _ _ ?_;try simp only[Act.put,uX,uY,uZ]
  clear hK K;refine wpPlan_late (o:=⟨none,_,_,_,_,_⟩) rfl rfl zd (fun K hK=>?_);go_simp
  refine hK.out _ _ ?_;try simp only[Act.put,uX,uY,uZ]
  clear hK K;refine wpPlan_done ?_;go_wp2_with fail
  have qc0:w1.cell? ⟨w.heap.size+2,0,none⟩=some (.bool false):=pc0;have qc1:w1.cell? ⟨w.heap.size+2,1,none⟩=some (.slice none 0 0):=pc1;(try simp only[Exit.inBlock,Exit.then])
  refine bodyPost_ret (by simp[results,Tryz.results31,go_sem,pb0,pb1,qc0,qc1];try rfl) rfl ?_;obtain⟨V1,hW,x,kk,far,bel⟩:=store2 (.bool s) (.slice A l c) (zx HX1 Bz) nofun nofun;rw[←hW];clear hW;replace h1:=h1.k kk;replace hn:=hn.k kk;replace hB:=bel w.heap.size w zo (bT hB Bz);replace HX0:=zf far HX0 Bz;replace HX2:=zf far HX2 Bz;replace HX1:=zh x;clear x kk far bel Bz;have Bz:=zr V1;obtain⟨V2,hW,x,kk,far,bel⟩:=store2 (.bool s1) (.slice A1 l1 c1) (zx HX2 Bz) nofun nofun;rw[←hW];clear hW;replace h1:=h1.k kk;replace hn:=hn.k kk;replace hB:=bel w.heap.size w zo (bT hB Bz);replace HX0:=zf far HX0 Bz;replace HX1:=zf far HX1 Bz;replace HX2:=zh x;clear x kk far bel Bz;have Bz:=zr V2;have hF:=bT (c:=V2) hB Bz;exact⟨n,1,s,A,c,l,s1,A1,c1,l1,rfl,(I.below hn),(I.below h1.i),zo,rfl,zo,zo,bT hF⟩
 ·rw[dA h0] at hq;subst hq;have g0:((l':Int)==0)=false:=by simp;omega
  clear h0;obtain⟨W,hW,x0,x1,x2,hB⟩:=boxes3 w #[.bool s,.slice A l c,.bool s',.slice A' l' c'] 47 #[.bool false,.slice none 0 0] 45 #[.bool false,.slice none 0 0] 45;replace hd:=hd.below hB;replace hn:=hn.below hB;have HX0:=zh x0;have HX1:=zh x1;have HX2:=zh x2;clear x0 x1 x2;have Bz:=zr W;obtain⟨pa0,pa1,pa2,pa3,-⟩:=(zx HX0 Bz).cz;go_enter Tryz.func31,Tryz.ntmps31
  go_wp2_with fail
  rw[←hW];clear hW;go_wp2_with fail
  with_reducible refine(over_q (I.below hn) (I.below hd) zo zo).mono ?_
  rintro e w1 ⟨n1,d1,s1,A1,c1,l1,s1r,A1r,c1r,l1r,rfl,h1,h1r,e1,q1,m1,m1r,b⟩;replace b:=zq (a:=W) b;replace Bz:=bT Bz b;clear b;clear pa0 pa1 pa2 pa3;obtain⟨pb0,pb1,-⟩:=(zx HX1 Bz).cz;obtain⟨y1,f1_0,fb1,-⟩:=(zx HX1 Bz).fz;obtain⟨pc0,pc1,-⟩:=(zx HX2 Bz).cz;obtain⟨y2,fc0,fc1,-⟩:=(zx HX2 Bz).fz;go_wp2_with fail
  have qc0:w1.cell? ⟨w.heap.size+2,0,none⟩=some (.bool false):=pc0;have qc1:w1.cell? ⟨w.heap.size+2,1,none⟩=some (.slice none 0 0):=pc1;(try simp only[Exit.inBlock,Exit.then])
  refine bodyPost_ret (by simp[results,Tryz.results31,go_sem,pb0,pb1,qc0,qc1];try rfl) rfl ?_;obtain⟨V1,hW,x,kk,far,bel⟩:=store2 (.bool s1) (.slice A1 l1 c1) (zx HX1 Bz) nofun nofun;rw[←hW];clear hW;replace h1:=h1.k kk;replace h1r:=h1r.k kk;replace hB:=bel w.heap.size w zo (bT hB Bz);replace HX0:=zf far HX0 Bz;replace HX2:=zf far HX2 Bz;replace HX1:=zh x;clear x kk far bel Bz;have Bz:=zr V1;obtain⟨V2,hW,x,kk,far,bel⟩:=store2 (.bool s1r) (.slice A1r l1r c1r) (zx HX2 Bz) nofun nofun;rw[←hW];clear hW;replace h1:=h1.k kk;replace h1r:=h1r.k kk;replace hB:=bel w.heap.size w zo (bT hB Bz);replace HX0:=zf far HX0 Bz;replace HX1:=zf far HX1 Bz;replace HX2:=zh x;clear x kk far bel Bz;have Bz:=zr V2;have hF:=bT (c:=V2) hB Bz;exact⟨n1,d1,s1,A1,c1,l1,s1r,A1r,c1r,l1r,rfl,(I.below h1),(I.below h1r),e1,q1,zo,zo,bT hF⟩
theorem lowest_1 {n d:Int} {q:Rat} (h:I w s A c l n) (h':I w s' A' c' l' d) (hl:l+l'≤100000000000) (HN:Hid (q.num=n)) (HD:Hid (dn q=0)) (ho:decide (d=1)=true) (_hT:Hid (Tab w)) :
  Calls Tryz.prog 37 #[.agg #[.bool s,.slice A l c],.agg #[.bool s',.slice A' l' c']] w (TellsR w q):=by
 obtain⟨W,hW,x0,x1,x2,hB⟩:=boxes3 w #[.bool s,.slice A l c] 45 #[.bool s',.slice A' l' c'] 45 #[.bool false,.slice none 0 0,.bool false,.slice none 0 0] 47;replace h':=h'.below hB;replace h:=h.below hB;have HX0:=zh x0;have HX1:=zh x1;have HX2:=zh x2;clear x0 x1 x2;have Bz:=zr W;obtain⟨pa0,pa1,-⟩:=(zx HX0 Bz).cz;obtain⟨y0,fa0,fa1,-⟩:=(zx HX0 Bz).fz;obtain⟨pb0,pb1,-⟩:=(zx HX1 Bz).cz;obtain⟨y1,f1_0,fb1,-⟩:=(zx HX1 Bz).fz;go_enter Tryz.func37,Tryz.ntmps37
 go_wp2_with fail
 rw[←hW];clear hW;go_wp2_with fail
 (try simp only[vAa,vBa,vC])
 refine zl (zz [0,2] (.only 1 (.only 3 (.only 4 (.only 5 .done))))) [4,5] (zsa pa0 (zsa pa1 (zsa pb0 (zIa pb1)))) ?_;iterate 2 (refine zUa ?_;try simp only[Act.put,uX,uY,uZ])
 refine zC 7 rfl rfl (fun K hK=>?_);go_simp
 with_reducible refine(norm_z (I.below h) zo).mono ?_
 rintro e w1 ⟨s1,A1,c1,l1,rfl,h1,m1,b⟩;replace b:=zq (a:=W) b;replace h':=h'.below b;replace Bz:=bT Bz b;clear b;clear pa0 pa1 fa0 fa1 y0 pb0 pb1 f1_0 fb1 y1;obtain⟨pa0,pa1,-⟩:=(zx HX0 Bz).cz;obtain⟨y0,fa0,fa1,-⟩:=(zx HX0 Bz).fz;obtain⟨pb0,pb1,-⟩:=(zx HX1 Bz).cz;obtain⟨y1,f1_0,fb1,-⟩:=(zx HX1 Bz).fz;refine hK.out _ _ ⟨pa0,pa1,pb0,pb1⟩ (fun _=>?_);try simp only[Act.put,uX,uY,uZ]
 clear hK K;refine zC 9 rfl rfl (fun K hK=>?_);go_simp
 with_reducible refine(norm_z (I.below h') zo).mono ?_
 rintro e w2 ⟨s2,A2,c2,l2,rfl,h2,m2,b⟩;replace b:=zq (a:=w1) b;replace h1:=h1.below b;replace Bz:=bT Bz b;clear b;clear pa0 pa1 fa0 fa1 y0 pb0 pb1 f1_0 fb1 y1;obtain⟨pa0,pa1,-⟩:=(zx HX0 Bz).cz;obtain⟨y0,fa0,fa1,-⟩:=(zx HX0 Bz).fz;obtain⟨pb0,pb1,-⟩:=(zx HX1 Bz).cz;obtain⟨y1,f1_0,fb1,-⟩:=(zx HX1 Bz).fz;refine hK.out _ _ ⟨pa0,pa1,pb0,pb1⟩ (fun _=>?_);try simp only[Act.put,uX,uY,uZ]
 clear hK K;refine wpPlan_late (o:=⟨none,_,_,_,_,_⟩) rfl rfl zd (fun K hK=>?_);go_simp
 refine hK.out _ _ ?_;try simp only[Act.put,uX,uY,uZ]
 clear hK K;refine wpPlan_late (o:=⟨none,_,_,_,_,_⟩) rfl rfl zd (fun K hK=>?_);go_simp
 refine hK.out _ _ ?_;try simp only[Act.put,uX,uY,uZ]
 clear hK K;refine wpPlan_done ?_;obtain⟨V1,hW,x,kk,far,bel⟩:=store2 (.bool s1) (.slice A1 l1 c1) (zx HX0 Bz) nofun nofun;rw[←hW];clear hW;replace h1:=h1.k kk;replace h2:=h2.k kk;replace hB:=bel w.heap.size w zo (bT hB Bz);replace HX1:=zf far HX1 Bz;replace HX2:=zf far HX2 Bz;replace HX0:=zh x;clear x kk far bel Bz;have Bz:=zr V1;obtain⟨V2,hW,x,kk,far,bel⟩:=store2 (.bool s2) (.slice A2 l2 c2) (zx HX1 Bz) nofun nofun;rw[←hW];clear hW;replace h1:=h1.k kk;replace h2:=h2.k kk;replace hB:=bel w.heap.size w zo (bT hB Bz);replace HX0:=zf far HX0 Bz;replace HX2:=zf far HX2 Bz;replace HX1:=zh x;clear x kk far bel Bz;have Bz:=zr V2;clear pa0 pa1 fa0 fa1 y0 pb0 pb1 f1_0 fb1 y1;obtain⟨pb0,pb1,-⟩:=(zx HX1 Bz).cz;go_wp2_with fail
 with_reducible refine(one_z (J.below h2) true (ho)).mono ?_
 rintro e w3 ⟨rfl,b⟩;replace b:=zq (a:=V2) b;replace h1:=h1.below b;replace h2:=h2.below b;replace Bz:=bT Bz b;clear b;clear pb0 pb1;obtain⟨pb0,pb1,-⟩:=(zx HX1 Bz).cz;go_wp2_with fail
 with_reducible refine(one_z (J.below h2) true (ho)).mono ?_
 rintro e w4 ⟨rfl,b⟩;replace b:=zq (a:=w3) b;replace h1:=h1.below b;replace Bz:=bT Bz b;clear b;clear pb0 pb1;obtain⟨pa0,pa1,-⟩:=(zx HX0 Bz).cz;obtain⟨pc0,pc1,pc2,pc3,-⟩:=(zx HX2 Bz).cz;obtain⟨y2,fc0,fc1,fc2,fc3,-⟩:=(zx HX2 Bz).fz;go_wp2_with fail
 have qc0:w4.cell? ⟨w.heap.size+2,0,none⟩=some (.bool false):=pc0;have qc1:w4.cell? ⟨w.heap.size+2,1,none⟩=some (.slice none 0 0):=pc1;have qc2:w4.cell? ⟨w.heap.size+2,2,none⟩=some (.bool false):=pc2;have qc3:w4.cell? ⟨w.heap.size+2,3,none⟩=some (.slice none 0 0):=pc3;(try simp only[Exit.inBlock,Exit.then])
 refine bodyPost_ret (by simp[results,Tryz.results37,go_sem,qc0,qc1,qc2,qc3];try rfl) rfl ?_;obtain⟨V3,hW,x,kk,far,bel⟩:=store4 (.bool s1) (.slice A1 l1 c1) (.bool false) (.slice none 0 0) (zx HX2 Bz) nofun nofun nofun nofun;rw[←hW];clear hW;replace h1:=h1.k kk;replace hB:=bel w.heap.size w zo (bT hB Bz);replace HX0:=zf far HX0 Bz;replace HX1:=zf far HX1 Bz;replace HX2:=zh x;clear x kk far bel Bz;have Bz:=zr V3;have hF:=bT (c:=V3) hB Bz;exact⟨s1,A1,c1,l1,false,none,0,0,rfl,⟨by rw[HN.out];exact(J.below h1),by rw[HD.out];exact J.zero _⟩,bT hF⟩
theorem lowest_2 {n d:Int} {q:Rat} (h:I w s A c l n) (h':I w s' A' c' l' d) (hl:l+l'≤100000000000) (HN:Hid (q.num=n)) (HD:Hid (dn q=d)) (ho:decide (d=1)=false) (hg:decide ((Int.gcd n d:Int)=1)=true) (hT:Hid (Tab w)) :
  Calls Tryz.prog 37 #[.agg #[.bool s,.slice A l c],.agg #[.bool s',.slice A' l' c']] w (TellsR w q):=by
 obtain⟨W,hW,x0,x1,x2,hB⟩:=boxes3 w #[.bool s,.slice A l c] 45 #[.bool s',.slice A' l' c'] 45 #[.bool false,.slice none 0 0,.bool false,.slice none 0 0] 47;replace h':=h'.below hB;replace h:=h.below hB;have HX0:=zh x0;have HX1:=zh x1;have HX2:=zh x2;clear x0 x1 x2;have Bz:=zr W;obtain⟨pa0,pa1,-⟩:=(zx HX0 Bz).cz;obtain⟨y0,fa0,fa1,-⟩:=(zx HX0 Bz).fz;obtain⟨pb0,pb1,-⟩:=(zx HX1 Bz).cz;obtain⟨y1,f1_0,fb1,-⟩:=(zx HX1 Bz).fz;go_enter Tryz.func37,Tryz.ntmps37
 go_wp2_with fail
 rw[←hW];clear hW;go_wp2_with fail
 (try simp only[vAa,vBa,vC])
 refine zl (zz [0,2] (.only 1 (.only 3 (.only 4 (.only 5 .done))))) [4,5] (zsa pa0 (zsa pa1 (zsa pb0 (zIa pb1)))) ?_;iterate 2 (refine zUa ?_;try simp only[Act.put,uX,uY,uZ])
 refine zC 7 rfl rfl (fun K hK=>?_);go_simp
 with_reducible refine(norm_z (I.below h) zo).mono ?_
 rintro e w1 ⟨s1,A1,c1,l1,rfl,h1,m1,b⟩;replace b:=zq (a:=W) b;replace h':=h'.below b;replace Bz:=bT Bz b;clear b;clear pa0 pa1 fa0 fa1 y0 pb0 pb1 f1_0 fb1 y1;obtain⟨pa0,pa1,-⟩:=(zx HX0 Bz).cz;obtain⟨y0,fa0,fa1,-⟩:=(zx HX0 Bz).fz;obtain⟨pb0,pb1,-⟩:=(zx HX1 Bz).cz;obtain⟨y1,f1_0,fb1,-⟩:=(zx HX1 Bz).fz;refine hK.out _ _ ⟨pa0,pa1,pb0,pb1⟩ (fun _=>?_);try simp only[Act.put,uX,uY,uZ]
 clear hK K;refine zC 9 rfl rfl (fun K hK=>?_);go_simp
 with_reducible refine(norm_z (I.below h') zo).mono ?_
 rintro e w2 ⟨s2,A2,c2,l2,rfl,h2,m2,b⟩;replace b:=zq (a:=w1) b;replace h1:=h1.below b;replace Bz:=bT Bz b;clear b;clear pa0 pa1 fa0 fa1 y0 pb0 pb1 f1_0 fb1 y1;obtain⟨pa0,pa1,-⟩:=(zx HX0 Bz).cz;obtain⟨y0,fa0,fa1,-⟩:=(zx HX0 Bz).fz;obtain⟨pb0,pb1,-⟩:=(zx HX1 Bz).cz;obtain⟨y1,f1_0,fb1,-⟩:=(zx HX1 Bz).fz;refine hK.out _ _ ⟨pa0,pa1,pb0,pb1⟩ (fun _=>?_);try simp only[Act.put,uX,uY,uZ]
 clear hK K;refine wpPlan_late (o:=⟨none,_,_,_,_,_⟩) rfl rfl zd (fun K hK=>?_);go_simp
 refine hK.out _ _ ?_;try simp only[Act.put,uX,uY,uZ]
 clear hK K;refine wpPlan_late (o:=⟨none,_,_,_,_,_⟩) rfl rfl zd (fun K hK=>?_);go_simp
 refine hK.out _ _ ?_;try simp only[Act.put,uX,uY,uZ]
 clear hK K;refine wpPlan_done ?_;obtain⟨V1,hW,x,kk,far,bel⟩:=store2 (.bool s1) (.slice A1 l1 c1) (zx HX0 Bz) nofun nofun;rw[←hW];clear hW;replace h1:=h1.k kk;replace h2:=h2.k kk;replace hB:=bel w.heap.size w zo (bT hB Bz);replace HX1:=zf far HX1 Bz;replace HX2:=zf far HX2 Bz;replace HX0:=zh x;clear x kk far bel Bz;have Bz:=zr V1;obtain⟨V2,hW,x,kk,far,bel⟩:=store2 (.bool s2) (.slice A2 l2 c2) (zx HX1 Bz) nofun nofun;rw[←hW];clear hW;replace h1:=h1.k kk;replace h2:=h2.k kk;replace hB:=bel w.heap.size w zo (bT hB Bz);replace HX0:=zf far HX0 Bz;replace HX2:=zf far HX2 Bz;replace HX1:=zh x;clear x kk far bel Bz;have Bz:=zr V2;clear pa0 pa1 fa0 fa1 y0 pb0 pb1 f1_0 fb1 y1;obtain⟨pb0,pb1,-⟩:=(zx HX1 Bz).cz;go_wp2_with fail
 with_reducible refine(one_z (J.below h2) false (ho)).mono ?_
 rintro e w3 ⟨rfl,b⟩;replace b:=zq (a:=V2) b;replace h1:=h1.below b;replace h2:=h2.below b;replace Bz:=bT Bz b;clear b;clear pb0 pb1;obtain⟨pa0,pa1,-⟩:=(zx HX0 Bz).cz;obtain⟨pb0,pb1,-⟩:=(zx HX1 Bz).cz;go_wp2_with fail
 with_reducible refine(gcd_z (I.below h1.i) (I.below h2.i) zo (zt hT hB Bz)).mono ?_
 rintro e w4 ⟨s4,A4,c4,l4,rfl,h4,m4,b⟩;replace b:=zq (a:=w3) b;replace h1:=h1.below b;replace h2:=h2.below b;replace Bz:=bT Bz b;clear b;clear pa0 pa1 pb0 pb1;go_upto_region 4 with(fail)
 obtain⟨V3,hW,x3,hN⟩:=zAb w4 #[.bool s4,.slice A4 l4 c4] 45;rw[←hW];clear hW;obtain⟨v3,hb3⟩:=ze w4.heap.size;rw[←hb3] at x3 ⊢;have o0_3:w.heap.size<v3:=zi (zx HX0 Bz).lt;have o1_3:w.heap.size+1<v3:=zi (zx HX1 Bz).lt;have o2_3:w.heap.size+1+1<v3:=zi (zx HX2 Bz).lt;have ow_3:w.heap.size≤v3:=zi (zw hB Bz);replace h1:=h1.below hN;replace h2:=h2.below hN;replace h4:=h4.below hN;replace hB:=bT (bT hB Bz) hN;replace HX0:=zba HX0 Bz hN;replace HX1:=zba HX1 Bz hN;replace HX2:=zba HX2 Bz hN;have HX3:=zh x3;clear x3 hN Bz hb3;have Bz:=zr V3;obtain⟨pd0,pd1,-⟩:=(zx HX3 Bz).cz;go_wp2_with fail
 with_reducible refine(one_z (J.below h4) true (hg)).mono ?_
 rintro e w5 ⟨rfl,b⟩;replace b:=zq (a:=V3) b;replace h1:=h1.below b;replace h2:=h2.below b;replace Bz:=bT Bz b;clear b;clear pd0 pd1;obtain⟨pb0,pb1,-⟩:=(zx HX1 Bz).cz;go_wp2_with fail
 with_reducible refine(one_z (J.below h2) false (ho)).mono ?_
 rintro e w6 ⟨rfl,b⟩;replace b:=zq (a:=w5) b;replace h1:=h1.below b;replace h2:=h2.below b;replace Bz:=bT Bz b;clear b;clear pb0 pb1;obtain⟨pa0,pa1,-⟩:=(zx HX0 Bz).cz;obtain⟨pb0,pb1,-⟩:=(zx HX1 Bz).cz;obtain⟨pc0,pc1,pc2,pc3,-⟩:=(zx HX2 Bz).cz;obtain⟨y2,fc0,fc1,fc2,fc3,-⟩:=(zx HX2 Bz).fz;go_wp2_with fail
 have qc0:w6.cell? ⟨w.heap.size+2,0,none⟩=some (.bool false):=pc0;have qc1:w6.cell? ⟨w.heap.size+2,1,none⟩=some (.slice none 0 0):=pc1;have qc2:w6.cell? ⟨w.heap.size+2,2,none⟩=some (.bool false):=pc2;have qc3:w6.cell? ⟨w.heap.size+2,3,none⟩=some (.slice none 0 0):=pc3;(try simp only[Exit.inBlock,Exit.then])
 refine bodyPost_ret (by simp[results,Tryz.results37,go_sem,qc0,qc1,qc2,qc3];try rfl) rfl ?_;obtain⟨V4,hW,x,kk,far,bel⟩:=store4 (.bool s1) (.slice A1 l1 c1) (.bool s2) (.slice A2 l2 c2) (zx HX2 Bz) nofun nofun nofun nofun;rw[←hW];clear hW;replace h1:=h1.k kk;replace h2:=h2.k kk;replace hB:=bel w.heap.size w zo (bT hB Bz);replace HX0:=zf far HX0 Bz;replace HX1:=zf far HX1 Bz;replace HX3:=zf far HX3 Bz;replace HX2:=zh x;clear x kk far bel Bz;have Bz:=zr V4;have hF:=bT (c:=V4) hB Bz;exact⟨s1,A1,c1,l1,s2,A2,c2,l2,rfl,⟨by rw[HN.out];exact(J.below h1),by rw[HD.out];exact(J.below h2)⟩,bT hF⟩
theorem lowest_3 {n d:Int} {q:Rat} (h:I w s A c l n) (h':I w s' A' c' l' d) (hl:l+l'≤100000000000) (HN:Hid (q.num=n / (Int.gcd n d:Int))) (HD:Hid (dn q=0)) (ho:decide (d=1)=false) (hg:decide ((Int.gcd n d:Int)=1)=false) (hg0:(Int.gcd n d:Int)≠0) (hr:decide (d / (Int.gcd n d:Int)=1)=true) (hT:Hid (Tab w)) :
  Calls Tryz.prog 37 #[.agg #[.bool s,.slice A l c],.agg #[.bool s',.slice A' l' c']] w (TellsR w q):=by
 obtain⟨W,hW,x0,x1,x2,hB⟩:=boxes3 w #[.bool s,.slice A l c] 45 #[.bool s',.slice A' l' c'] 45 #[.bool false,.slice none 0 0,.bool false,.slice none 0 0] 47;replace h':=h'.below hB;replace h:=h.below hB;have HX0:=zh x0;have HX1:=zh x1;have HX2:=zh x2;clear x0 x1 x2;have Bz:=zr W;obtain⟨pa0,pa1,-⟩:=(zx HX0 Bz).cz;obtain⟨y0,fa0,fa1,-⟩:=(zx HX0 Bz).fz;obtain⟨pb0,pb1,-⟩:=(zx HX1 Bz).cz;obtain⟨y1,f1_0,fb1,-⟩:=(zx HX1 Bz).fz;go_enter Tryz.func37,Tryz.ntmps37
 go_wp2_with fail
 rw[←hW];clear hW;go_wp2_with fail
 (try simp only[vAa,vBa,vC])
 refine zl (zz [0,2] (.only 1 (.only 3 (.only 4 (.only 5 .done))))) [4,5] (zsa pa0 (zsa pa1 (zsa pb0 (zIa pb1)))) ?_;iterate 2 (refine zUa ?_;try simp only[Act.put,uX,uY,uZ])
 refine zC 7 rfl rfl (fun K hK=>?_);go_simp
 with_reducible refine(norm_z (I.below h) zo).mono ?_
 rintro e w1 ⟨s1,A1,c1,l1,rfl,h1,m1,b⟩;replace b:=zq (a:=W) b;replace h':=h'.below b;replace Bz:=bT Bz b;clear b;clear pa0 pa1 fa0 fa1 y0 pb0 pb1 f1_0 fb1 y1;obtain⟨pa0,pa1,-⟩:=(zx HX0 Bz).cz;obtain⟨y0,fa0,fa1,-⟩:=(zx HX0 Bz).fz;obtain⟨pb0,pb1,-⟩:=(zx HX1 Bz).cz;obtain⟨y1,f1_0,fb1,-⟩:=(zx HX1 Bz).fz;refine hK.out _ _ ⟨pa0,pa1,pb0,pb1⟩ (fun _=>?_);try simp only[Act.put,uX,uY,uZ]
 clear hK K;refine zC 9 rfl rfl (fun K hK=>?_);go_simp
 with_reducible refine(norm_z (I.below h') zo).mono ?_
 rintro e w2 ⟨s2,A2,c2,l2,rfl,h2,m2,b⟩;replace b:=zq (a:=w1) b;replace h1:=h1.below b;replace Bz:=bT Bz b;clear b;clear pa0 pa1 fa0 fa1 y0 pb0 pb1 f1_0 fb1 y1;obtain⟨pa0,pa1,-⟩:=(zx HX0 Bz).cz;obtain⟨y0,fa0,fa1,-⟩:=(zx HX0 Bz).fz;obtain⟨pb0,pb1,-⟩:=(zx HX1 Bz).cz;obtain⟨y1,f1_0,fb1,-⟩:=(zx HX1 Bz).fz;refine hK.out _ _ ⟨pa0,pa1,pb0,pb1⟩ (fun _=>?_);try simp only[Act.put,uX,uY,uZ]
 clear hK K;refine wpPlan_late (o:=⟨none,_,_,_,_,_⟩) rfl rfl zd (fun K hK=>?_);go_simp
 refine hK.out _ _ ?_;try simp only[Act.put,uX,uY,uZ]
 clear hK K;refine wpPlan_late (o:=⟨none,_,_,_,_,_⟩) rfl rfl zd (fun K hK=>?_);go_simp
 refine hK.out _ _ ?_;try simp only[Act.put,uX,uY,uZ]
 clear hK K;refine wpPlan_done ?_;obtain⟨V1,hW,x,kk,far,bel⟩:=store2 (.bool s1) (.slice A1 l1 c1) (zx HX0 Bz) nofun nofun;rw[←hW];clear hW;replace h1:=h1.k kk;replace h2:=h2.k kk;replace hB:=bel w.heap.size w zo (bT hB Bz);replace HX1:=zf far HX1 Bz;replace HX2:=zf far HX2 Bz;replace HX0:=zh x;clear x kk far bel Bz;have Bz:=zr V1;obtain⟨V2,hW,x,kk,far,bel⟩:=store2 (.bool s2) (.slice A2 l2 c2) (zx HX1 Bz) nofun nofun;rw[←hW];clear hW;replace h1:=h1.k kk;replace h2:=h2.k kk;replace hB:=bel w.heap.size w zo (bT hB Bz);replace HX0:=zf far HX0 Bz;replace HX2:=zf far HX2 Bz;replace HX1:=zh x;clear x kk far bel Bz;have Bz:=zr V2;clear pa0 pa1 fa0 fa1 y0 pb0 pb1 f1_0 fb1 y1;obtain⟨pb0,pb1,-⟩:=(zx HX1 Bz).cz;go_wp2_with fail
 with_reducible refine(one_z (J.below h2) false (ho)).mono ?_
 rintro e w3 ⟨rfl,b⟩;replace b:=zq (a:=V2) b;replace h1:=h1.below b;replace h2:=h2.below b;replace Bz:=bT Bz b;clear b;clear pb0 pb1;obtain⟨pa0,pa1,-⟩:=(zx HX0 Bz).cz;obtain⟨pb0,pb1,-⟩:=(zx HX1 Bz).cz;go_wp2_with fail
 with_reducible refine(gcd_z (I.below h1.i) (I.below h2.i) zo (zt hT hB Bz)).mono ?_
 rintro e w4 ⟨s4,A4,c4,l4,rfl,h4,m4,b⟩;replace b:=zq (a:=w3) b;replace h1:=h1.below b;replace h2:=h2.below b;replace Bz:=bT Bz b;clear b;clear pa0 pa1 pb0 pb1;go_upto_region 4 with(fail)
 obtain⟨V3,hW,x3,hN⟩:=zAb w4 #[.bool s4,.slice A4 l4 c4] 45;rw[←hW];clear hW;obtain⟨v3,hb3⟩:=ze w4.heap.size;rw[←hb3] at x3 ⊢;have o0_3:w.heap.size<v3:=zi (zx HX0 Bz).lt;have o1_3:w.heap.size+1<v3:=zi (zx HX1 Bz).lt;have o2_3:w.heap.size+1+1<v3:=zi (zx HX2 Bz).lt;have ow_3:w.heap.size≤v3:=zi (zw hB Bz);replace h1:=h1.below hN;replace h2:=h2.below hN;replace h4:=h4.below hN;replace hB:=bT (bT hB Bz) hN;replace HX0:=zba HX0 Bz hN;replace HX1:=zba HX1 Bz hN;replace HX2:=zba HX2 Bz hN;have HX3:=zh x3;clear x3 hN Bz hb3;have Bz:=zr V3;obtain⟨pd0,pd1,-⟩:=(zx HX3 Bz).cz;go_wp2_with fail
 with_reducible refine(one_z (J.below h4) false (hg)).mono ?_
 rintro e w5 ⟨rfl,b⟩;replace b:=zq (a:=V3) b;replace h1:=h1.below b;replace h2:=h2.below b;replace h4:=h4.below b;replace Bz:=bT Bz b;clear b;clear pd0 pd1;obtain⟨pa0,pa1,-⟩:=(zx HX0 Bz).cz;obtain⟨pd0,pd1,-⟩:=(zx HX3 Bz).cz;go_wp2_with fail
 with_reducible refine(divmod_z (I.below h1.i) (I.below h4.i) zo hg0).mono ?_
 rintro e w6 ⟨s6,A6,c6,l6,s6r,A6r,c6r,l6r,rfl,h6,h6r,m6,m6r,b⟩;replace b:=zq (a:=w5) b;replace h2:=h2.below b;replace h4:=h4.below b;replace Bz:=bT Bz b;clear h6r;clear b;clear pa0 pa1 pd0 pd1;obtain⟨pa0,pa1,-⟩:=(zx HX0 Bz).cz;obtain⟨y0,fa0,fa1,-⟩:=(zx HX0 Bz).fz;go_upto_region 6 with(fail)
 obtain⟨V4,hW,x,kk,far,bel⟩:=store2 (.bool s6) (.slice A6 l6 c6) (zx HX0 Bz) nofun nofun;rw[←hW];clear hW;replace h2:=h2.k kk;replace h4:=h4.k kk;replace h6:=h6.k kk;replace hB:=bel w.heap.size w zo (bT hB Bz);replace HX1:=zf far HX1 Bz;replace HX2:=zf far HX2 Bz;replace HX3:=zf far HX3 Bz;replace HX0:=zh x;clear x kk far bel Bz;have Bz:=zr V4;clear pa0 pa1 fa0 fa1 y0;obtain⟨pb0,pb1,-⟩:=(zx HX1 Bz).cz;obtain⟨pd0,pd1,-⟩:=(zx HX3 Bz).cz;go_wp2_with fail
 with_reducible refine(divmod_z (I.below h2.i) (I.below h4.i) zo hg0).mono ?_
 rintro e w7 ⟨s7,A7,c7,l7,s7r,A7r,c7r,l7r,rfl,h7,h7r,m7,m7r,b⟩;replace b:=zq (a:=V4) b;replace h6:=h6.below b;replace Bz:=bT Bz b;clear h7r;clear b;clear pb0 pb1 pd0 pd1;obtain⟨pb0,pb1,-⟩:=(zx HX1 Bz).cz;obtain⟨y1,f1_0,fb1,-⟩:=(zx HX1 Bz).fz;go_upto_region 7 with(fail)
 obtain⟨V5,hW,x,kk,far,bel⟩:=store2 (.bool s7) (.slice A7 l7 c7) (zx HX1 Bz) nofun nofun;rw[←hW];clear hW;replace h6:=h6.k kk;replace h7:=h7.k kk;replace hB:=bel w.heap.size w zo (bT hB Bz);replace HX0:=zf far HX0 Bz;replace HX2:=zf far HX2 Bz;replace HX3:=zf far HX3 Bz;replace HX1:=zh x;clear x kk far bel Bz;have Bz:=zr V5;clear pb0 pb1 f1_0 fb1 y1;obtain⟨pb0,pb1,-⟩:=(zx HX1 Bz).cz;go_wp2_with fail
 with_reducible refine(one_z (J.below h7) true (hr)).mono ?_
 rintro e w8 ⟨rfl,b⟩;replace b:=zq (a:=V5) b;replace h6:=h6.below b;replace Bz:=bT Bz b;clear b;clear pb0 pb1;obtain⟨pa0,pa1,-⟩:=(zx HX0 Bz).cz;obtain⟨pc0,pc1,pc2,pc3,-⟩:=(zx HX2 Bz).cz;obtain⟨y2,fc0,fc1,fc2,fc3,-⟩:=(zx HX2 Bz).fz;go_wp2_with fail
 have qc0:w8.cell? ⟨w.heap.size+2,0,none⟩=some (.bool false):=pc0;have qc1:w8.cell? ⟨w.heap.size+2,1,none⟩=some (.slice none 0 0):=pc1;have qc2:w8.cell? ⟨w.heap.size+2,2,none⟩=some (.bool false):=pc2;have qc3:w8.cell? ⟨w.heap.size+2,3,none⟩=some (.slice none 0 0):=pc3;(try simp only[Exit.inBlock,Exit.then])
 refine bodyPost_ret (by simp[results,Tryz.results37,go_sem,qc0,qc1,qc2,qc3];try rfl) rfl ?_;obtain⟨V6,hW,x,kk,far,bel⟩:=store4 (.bool s6) (.slice A6 l6 c6) (.bool false) (.slice none 0 0) (zx HX2 Bz) nofun nofun nofun nofun;rw[←hW];clear hW;replace h6:=h6.k kk;replace hB:=bel w.heap.size w zo (bT hB Bz);replace HX0:=zf far HX0 Bz;replace HX1:=zf far HX1 Bz;replace HX3:=zf far HX3 Bz;replace HX2:=zh x;clear x kk far bel Bz;have Bz:=zr V6;have hF:=bT (c:=V6) hB Bz;exact⟨s6,A6,c6,l6,false,none,0,0,rfl,⟨by rw[HN.out];exact(J.below h6),by rw[HD.out];exact J.zero _⟩,bT hF⟩
theorem lowest_4 {n d:Int} {q:Rat} (h:I w s A c l n) (h':I w s' A' c' l' d) (hl:l+l'≤100000000000) (HN:Hid (q.num=n / (Int.gcd n d:Int))) (HD:Hid (dn q=d / (Int.gcd n d:Int))) (ho:decide (d=1)=false) (hg:decide ((Int.gcd n d:Int)=1)=false) (hg0:(Int.gcd n d:Int)≠0) (hr:decide (d / (Int.gcd n d:Int)=1)=false) (hT:Hid (Tab w)) :
  Calls Tryz.prog 37 #[.agg #[.bool s,.slice A l c],.agg #[.bool s',.slice A' l' c']] w (TellsR w q):=by
 obtain⟨W,hW,x0,x1,x2,hB⟩:=boxes3 w #[.bool s,.slice A l c] 45 #[.bool s',.slice A' l' c'] 45 #[.bool false,.slice none 0 0,.bool false,.slice none 0 0] 47;replace h':=h'.below hB;replace h:=h.below hB;have HX0:=zh x0;have HX1:=zh x1;have HX2:=zh x2;clear x0 x1 x2;have Bz:=zr W;obtain⟨pa0,pa1,-⟩:=(zx HX0 Bz).cz;obtain⟨y0,fa0,fa1,-⟩:=(zx HX0 Bz).fz;obtain⟨pb0,pb1,-⟩:=(zx HX1 Bz).cz;obtain⟨y1,f1_0,fb1,-⟩:=(zx HX1 Bz).fz;go_enter Tryz.func37,Tryz.ntmps37
 go_wp2_with fail
 rw[←hW];clear hW;go_wp2_with fail
 (try simp only[vAa,vBa,vC])
 refine zl (zz [0,2] (.only 1 (.only 3 (.only 4 (.only 5 .done))))) [4,5] (zsa pa0 (zsa pa1 (zsa pb0 (zIa pb1)))) ?_;iterate 2 (refine zUa ?_;try simp only[Act.put,uX,uY,uZ])
 refine zC 7 rfl rfl (fun K hK=>?_);go_simp
 with_reducible refine(norm_z (I.below h) zo).mono ?_
 rintro e w1 ⟨s1,A1,c1,l1,rfl,h1,m1,b⟩;replace b:=zq (a:=W) b;replace h':=h'.below b;replace Bz:=bT Bz b;clear b;clear pa0 pa1 fa0 fa1 y0 pb0 pb1 f1_0 fb1 y1;obtain⟨pa0,pa1,-⟩:=(zx HX0 Bz).cz;obtain⟨y0,fa0,fa1,-⟩:=(zx HX0 Bz).fz;obtain⟨pb0,pb1,-⟩:=(zx HX1 Bz).cz;obtain⟨y1,f1_0,fb1,-⟩:=(zx HX1 Bz).fz;refine hK.out _ _ ⟨pa0,pa1,pb0,pb1⟩ (fun _=>?_);try simp only[Act.put,uX,uY,uZ]
 clear hK K;refine zC 9 rfl rfl (fun K hK=>?_);go_simp
 with_reducible refine(norm_z (I.below h') zo).mono ?_
 rintro e w2 ⟨s2,A2,c2,l2,rfl,h2,m2,b⟩;replace b:=zq (a:=w1) b;replace h1:=h1.below b;replace Bz:=bT Bz b;clear b;clear pa0 pa1 fa0 fa1 y0 pb0 pb1 f1_0 fb1 y1;obtain⟨pa0,pa1,-⟩:=(zx HX0 Bz).cz;obtain⟨y0,fa0,fa1,-⟩:=(zx HX0 Bz).fz;obtain⟨pb0,pb1,-⟩:=(zx HX1 Bz).cz;obtain⟨y1,f1_0,fb1,-⟩:=(zx HX1 Bz).fz;refine hK.out _ _ ⟨pa0,pa1,pb0,pb1⟩ (fun _=>?_);try simp only[Act.put,uX,uY,uZ]
 clear hK K;refine wpPlan_late (o:=⟨none,_,_,_,_,_⟩) rfl rfl zd (fun K hK=>?_);go_simp
 refine hK.out _ _ ?_;try simp only[Act.put,uX,uY,uZ]
 clear hK K;refine wpPlan_late (o:=⟨none,_,_,_,_,_⟩) rfl rfl zd (fun K hK=>?_);go_simp
 refine hK.out _ _ ?_;try simp only[Act.put,uX,uY,uZ]
 clear hK K;refine wpPlan_done ?_;obtain⟨V1,hW,x,kk,far,bel⟩:=store2 (.bool s1) (.slice A1 l1 c1) (zx HX0 Bz) nofun nofun;rw[←hW];clear hW;replace h1:=h1.k kk;replace h2:=h2.k kk;replace hB:=bel w.heap.size w zo (bT hB Bz);replace HX1:=zf far HX1 Bz;replace HX2:=zf far HX2 Bz;replace HX0:=zh x;clear x kk far bel Bz;have Bz:=zr V1;obtain⟨V2,hW,x,kk,far,bel⟩:=store2 (.bool s2) (.slice A2 l2 c2) (zx HX1 Bz) nofun nofun;rw[←hW];clear hW;replace h1:=h1.k kk;replace h2:=h2.k kk;replace hB:=bel w.heap.size w zo (bT hB Bz);replace HX0:=zf far HX0 Bz;replace HX2:=zf far HX2 Bz;replace HX1:=zh x;clear x kk far bel Bz;have Bz:=zr V2;clear pa0 pa1 fa0 fa1 y0 pb0 pb1 f1_0 fb1 y1;obtain⟨pb0,pb1,-⟩:=(zx HX1 Bz).cz;go_wp2_with fail
 with_reducible refine(one_z (J.below h2) false (ho)).mono ?_
 rintro e w3 ⟨rfl,b⟩;replace b:=zq (a:=V2) b;replace h1:=h1.below b;replace h2:=h2.below b;replace Bz:=bT Bz b;clear b;clear pb0 pb1;obtain⟨pa0,pa1,-⟩:=(zx HX0 Bz).cz;obtain⟨pb0,pb1,-⟩:=(zx HX1 Bz).cz;go_wp2_with fail
 with_reducible refine(gcd_z (I.below h1.i) (I.below h2.i) zo (zt hT hB Bz)).mono ?_
 rintro e w4 ⟨s4,A4,c4,l4,rfl,h4,m4,b⟩;replace b:=zq (a:=w3) b;replace h1:=h1.below b;replace h2:=h2.below b;replace Bz:=bT Bz b;clear b;clear pa0 pa1 pb0 pb1;go_upto_region 4 with(fail)
 obtain⟨V3,hW,x3,hN⟩:=zAb w4 #[.bool s4,.slice A4 l4 c4] 45;rw[←hW];clear hW;obtain⟨v3,hb3⟩:=ze w4.heap.size;rw[←hb3] at x3 ⊢;have o0_3:w.heap.size<v3:=zi (zx HX0 Bz).lt;have o1_3:w.heap.size+1<v3:=zi (zx HX1 Bz).lt;have o2_3:w.heap.size+1+1<v3:=zi (zx HX2 Bz).lt;have ow_3:w.heap.size≤v3:=zi (zw hB Bz);replace h1:=h1.below hN;replace h2:=h2.below hN;replace h4:=h4.below hN;replace hB:=bT (bT hB Bz) hN;replace HX0:=zba HX0 Bz hN;replace HX1:=zba HX1 Bz hN;replace HX2:=zba HX2 Bz hN;have HX3:=zh x3;clear x3 hN Bz hb3;have Bz:=zr V3;obtain⟨pd0,pd1,-⟩:=(zx HX3 Bz).cz;go_wp2_with fail
 with_reducible refine(one_z (J.below h4) false (hg)).mono ?_
 rintro e w5 ⟨rfl,b⟩;replace b:=zq (a:=V3) b;replace h1:=h1.below b;replace h2:=h2.below b;replace h4:=h4.below b;replace Bz:=bT Bz b;clear b;clear pd0 pd1;obtain⟨pa0,pa1,-⟩:=(zx HX0 Bz).cz;obtain⟨pd0,pd1,-⟩:=(zx HX3 Bz).cz;go_wp2_with fail
 with_reducible refine(divmod_z (I.below h1.i) (I.below h4.i) zo hg0).mono ?_
 rintro e w6 ⟨s6,A6,c6,l6,s6r,A6r,c6r,l6r,rfl,h6,h6r,m6,m6r,b⟩;replace b:=zq (a:=w5) b;replace h2:=h2.below b;replace h4:=h4.below b;replace Bz:=bT Bz b;clear h6r;clear b;clear pa0 pa1 pd0 pd1;obtain⟨pa0,pa1,-⟩:=(zx HX0 Bz).cz;obtain⟨y0,fa0,fa1,-⟩:=(zx HX0 Bz).fz;go_upto_region 6 with(fail)
 obtain⟨V4,hW,x,kk,far,bel⟩:=store2 (.bool s6) (.slice A6 l6 c6) (zx HX0 Bz) nofun nofun;rw[←hW];clear hW;replace h2:=h2.k kk;replace h4:=h4.k kk;replace h6:=h6.k kk;replace hB:=bel w.heap.size w zo (bT hB Bz);replace HX1:=zf far HX1 Bz;replace HX2:=zf far HX2 Bz;replace HX3:=zf far HX3 Bz;replace HX0:=zh x;clear x kk far bel Bz;have Bz:=zr V4;clear pa0 pa1 fa0 fa1 y0;obtain⟨pb0,pb1,-⟩:=(zx HX1 Bz).cz;obtain⟨pd0,pd1,-⟩:=(zx HX3 Bz).cz;go_wp2_with fail
 with_reducible refine(divmod_z (I.below h2.i) (I.below h4.i) zo hg0).mono ?_
 rintro e w7 ⟨s7,A7,c7,l7,s7r,A7r,c7r,l7r,rfl,h7,h7r,m7,m7r,b⟩;replace b:=zq (a:=V4) b;replace h6:=h6.below b;replace Bz:=bT Bz b;clear h7r;clear b;clear pb0 pb1 pd0 pd1;obtain⟨pb0,pb1,-⟩:=(zx HX1 Bz).cz;obtain⟨y1,f1_0,fb1,-⟩:=(zx HX1 Bz).fz;go_upto_region 7 with(fail)
 obtain⟨V5,hW,x,kk,far,bel⟩:=store2 (.bool s7) (.slice A7 l7 c7) (zx HX1 Bz) nofun nofun;rw[←hW];clear hW;replace h6:=h6.k kk;replace h7:=h7.k kk;replace hB:=bel w.heap.size w zo (bT hB Bz);replace HX0:=zf far HX0 Bz;replace HX2:=zf far HX2 Bz;replace HX3:=zf far HX3 Bz;replace HX1:=zh x;clear x kk far bel Bz;have Bz:=zr V5;clear pb0 pb1 f1_0 fb1 y1;obtain⟨pb0,pb1,-⟩:=(zx HX1 Bz).cz;go_wp2_with fail
 with_reducible refine(one_z (J.below h7) false (hr)).mono ?_
 rintro e w8 ⟨rfl,b⟩;replace b:=zq (a:=V5) b;replace h6:=h6.below b;replace h7:=h7.below b;replace Bz:=bT Bz b;clear b;clear pb0 pb1;obtain⟨pa0,pa1,-⟩:=(zx HX0 Bz).cz;obtain⟨pb0,pb1,-⟩:=(zx HX1 Bz).cz;obtain⟨pc0,pc1,pc2,pc3,-⟩:=(zx HX2 Bz).cz;obtain⟨y2,fc0,fc1,fc2,fc3,-⟩:=(zx HX2 Bz).fz;go_wp2_with fail
 have qc0:w8.cell? ⟨w.heap.size+2,0,none⟩=some (.bool false):=pc0;have qc1:w8.cell? ⟨w.heap.size+2,1,none⟩=some (.slice none 0 0):=pc1;have qc2:w8.cell? ⟨w.heap.size+2,2,none⟩=some (.bool false):=pc2;have qc3:w8.cell? ⟨w.heap.size+2,3,none⟩=some (.slice none 0 0):=pc3;(try simp only[Exit.inBlock,Exit.then])
 refine bodyPost_ret (by simp[results,Tryz.results37,go_sem,qc0,qc1,qc2,qc3];try rfl) rfl ?_;obtain⟨V6,hW,x,kk,far,bel⟩:=store4 (.bool s6) (.slice A6 l6 c6) (.bool s7) (.slice A7 l7 c7) (zx HX2 Bz) nofun nofun nofun nofun;rw[←hW];clear hW;replace h6:=h6.k kk;replace h7:=h7.k kk;replace hB:=bel w.heap.size w zo (bT hB Bz);replace HX0:=zf far HX0 Bz;replace HX1:=zf far HX1 Bz;replace HX3:=zf far HX3 Bz;replace HX2:=zh x;clear x kk far bel Bz;have Bz:=zr V6;have hF:=bT (c:=V6) hB Bz;exact⟨s6,A6,c6,l6,s7,A7,c7,l7,rfl,⟨by rw[HN.out];exact(J.below h6),by rw[HD.out];exact(J.below h7)⟩,bT hF⟩
theorem dn_qof {n d x:Int} (h:0<d) (hx:d / (Int.gcd n d:Int)=x):dn (qof n d)=if x=1 then 0 else x:=by
 have:=qof_den (n:=n) h;rw[hx] at this;unfold dn
 by_cases e:x=1
 ·rw[bB e,bB zo]
 ·rw[dA e,dA zo,this]
theorem lowest_q {n d:Int} (h:I w s A c l n) (h':I w s' A' c' l' d) (hl:l+l'≤100000000000) (hd:0<d) (hT:Hid (Tab w)) :
  Calls Tryz.prog 37 #[.agg #[.bool s,.slice A l c],.agg #[.bool s',.slice A' l' c']] w (TellsR w (qof n d)):=by
 have hg0:(Int.gcd n d:Int)≠0:=by
  intro e;have:=Int.gcd_eq_zero_iff.1 (by omega:Int.gcd n d=0);omega
 have hn:=qof_num (n:=n) hd;have hdn:=dn_qof (n:=n) hd rfl;by_cases ho:d=1
 ·have e1:Int.gcd n d=1:=by rw[ho];exact Int.gcd_one_right n
  rw[e1] at hn hdn;simp only[Int.natCast_one,Int.ediv_one] at hn hdn
  exact lowest_1 h h' hl (zh hn) (zh (by rw[hdn,bB ho])) (jA ho) hT
 ·by_cases hg:(Int.gcd n d:Int)=1
  ·rw[hg] at hn hdn;simp only[Int.ediv_one] at hn hdn
   exact lowest_2 h h' hl (zh hn) (zh (by rw[hdn,dA ho])) (yA ho) (jA hg) hT
  ·by_cases hr:d / (Int.gcd n d:Int)=1
   ·exact lowest_3 h h' hl (zh hn) (zh (by rw[hdn,bB hr])) (yA ho) (yA hg) hg0 (jA hr) hT
   ·exact lowest_4 h h' hl (zh hn) (zh (by rw[hdn,dA hr])) (yA ho) (yA hg) hg0 (yA hr) hT
end
section
variable {w:World} {s s' t t':Bool} {A A' B B':Option Addr} {c c' l l' e e' k k':Nat}
theorem sz_qof {n d:Int} {a b:Nat} (h:0<d) (hn:nl n.natAbs≤a) (hd:nl d.natAbs≤b):sz (qof n d)≤max a b:=by
 have h1:=qof_num (n:=n) h;have h2:=qof_den (n:=n) h;unfold sz
 have h3:(qof n d).num.natAbs≤n.natAbs:=by rw[h1,Int.natAbs_ediv_of_dvd (Int.gcd_dvd_left ..)];exact tE _ _
 have h4:(qof n d).den≤d.natAbs:=by
  have:((qof n d).den:Int).natAbs≤d.natAbs:=by rw[h2,Int.natAbs_ediv_of_dvd (Int.gcd_dvd_right ..)];exact tE _ _
  simpa using this
 have h5:=nl_mono h3;have h6:=nl_mono h4;omega
theorem nl_one:nl 1=1:=by decide
theorem R.sz {q:Rat} {m:Nat} (h:R w s A c l s' A' c' l' q m):Go.Proofs.YtiondclbdgijbaaGreatDoor.sz q≤max m 1:=by
 obtain⟨n,d,h1,h2,rfl,h4,h5⟩:=h;have k1:=h1.nl;have k2:=h2.nl;split
 ·exact wA (sz_qof zo k1 (b:=1) (by show nl 1≤1;rw[nl_one];omega)) zo
 ·rcases qE d 0 with hd | hd | hd
  ·rw[←qof_neg];exact wA (sz_qof zo (by rw[Int.natAbs_neg];exact k1) (by rw[Int.natAbs_neg];exact k2)) zo
  ·subst hd;rw[qof_zero];show max (nl 0) (nl 1)≤_
   rw[nl_zero,nl_one];omega
  ·exact wA (sz_qof hd k1 k2) zo
theorem nl_mul_le {a b x y:Nat} (h:nl a≤x) (h':nl b≤y):nl (a*b)≤x+y:=by
 refine nl_le_of_lt ?_;rw[tC];exact Nat.mul_lt_mul'' (nl_le_iff.1 h) (nl_le_iff.1 h')
theorem nl_add_le {a b x:Nat} (h:nl a≤x) (h':nl b≤x):nl (a+b)≤x+1:=by
 refine nl_le_of_lt ?_;have h1:=nl_le_iff.1 h;have h2:=nl_le_iff.1 h';have:=aC (Tw.B ^ x) B_two;rw[yB];omega
theorem qof_pos {q:Rat}:0<(q.den:Int):=zi q.den_pos
theorem sz_num {q:Rat} {m:Nat} (h:sz q≤m):nl q.num.natAbs≤m∧nl (q.den:Int).natAbs≤m:=by unfold sz at h;rw[Int.natAbs_natCast];omega
theorem sz_mul {q r:Rat} {a b:Nat} (h:sz q≤a) (h':sz r≤b):sz (q*r)≤a+b:=by
 have e:=qof_mul q.num q.den r.num r.den;rw[qof_self,qof_self] at e;rw[←e];have h1:=sz_num h;have h2:=sz_num h';exact wA (sz_qof (gG qof_pos qof_pos) (by rw[Int.natAbs_mul];exact nl_mul_le h1.1 h2.1) (by rw[Int.natAbs_mul];exact nl_mul_le h1.2 h2.2)) zo
theorem sz_add {q r:Rat} {a b:Nat} (h:sz q≤a) (h':sz r≤b):sz (q+r)≤a+b+1:=by
 have e:=qof_add (n:=q.num) (d:=q.den) (m:=r.num) (e:=r.den) (zi q.den_pos) (zi r.den_pos);rw[qof_self,qof_self] at e;rw[←e];have h1:=sz_num h;have h2:=sz_num h';have h3:nl (q.num*r.den+r.num*q.den).natAbs≤a+b+1:=by
  refine wA (nl_mono (Int.natAbs_add_le _ _)) (nl_add_le ?_ ?_)
  ·rw[Int.natAbs_mul];exact nl_mul_le h1.1 h2.2
  ·rw[Int.natAbs_mul,Nat.add_comm];exact nl_mul_le h2.1 h1.2
 exact wA (sz_qof (gG qof_pos qof_pos) h3 (by rw[Int.natAbs_mul];exact nl_mul_le h1.2 h2.2)) zo
theorem sz_neg (q:Rat):sz (-q)=sz q:=by unfold sz;rw[Rat.neg_num,Rat.neg_den,Int.natAbs_neg]
theorem sz_sub {q r:Rat} {a b:Nat} (h:sz q≤a) (h':sz r≤b):sz (q-r)≤a+b+1:=by
 rw[Rat.sub_eq_add_neg];exact sz_add h (by rw[sz_neg];exact h')
theorem cmpI_qof {n d m e:Int} (hd:0<d) (he:0<e):cmpI (n*e) (m*d)=cmpQ (qof n d) (qof m e):=by
 rw[cmpQ_qof hd he];unfold cmpI
 rcases qE (n*e) (m*d) with h | h | h
 ·rw[bB h,bB h]
 ·rw[dA zo,dA zo,dA zo,bB h]
 ·rw[dA zo,bB h,dA zo,dA zo]
theorem sign_num (q:Rat):q.num.sign=if q<0 then -1 else if q=0 then 0 else 1:=by
 have:=qof_sign (n:=q.num) (d:=q.den) qof_pos;rw[qof_self] at this;exact this
theorem sign_mulq (n d:Int):(qof n d).num.sign=n.sign*d.sign:=by
 rcases qE d 0 with hd | hd | hd
 ·rw[←qof_neg,sign_num,←qof_sign zo,jE hd,Int.sign_neg];omega
 ·subst hd;rw[qof_zero];simp
 ·rw[sign_num,←qof_sign hd,yE hd];omega
theorem make_q {n d:Int} (h:I w s A c l n) (h':I w s' A' c' l' d) (hl:l+l'≤90000000000) (hT:Hid (Tab w)) :
  Calls Tryz.prog 45 #[.agg #[.bool s,.slice A l c],.agg #[.bool s',.slice A' l' c']] w (TellsR w (qof n d)):=by
 obtain⟨W,hW,x0,x1,x2,hB⟩:=boxes3 w #[.bool s,.slice A l c] 45 #[.bool s',.slice A' l' c'] 45 #[.bool false,.slice none 0 0,.bool false,.slice none 0 0] 47;replace h':=h'.below hB;replace h:=h.below hB;have HX0:=zh x0;have HX1:=zh x1;have HX2:=zh x2;clear x0 x1 x2;have Bz:=zr W;obtain⟨pa0,pa1,-⟩:=(zx HX0 Bz).cz;obtain⟨pb0,pb1,-⟩:=(zx HX1 Bz).cz;go_enter Tryz.func45,Tryz.ntmps45
 go_wp2_with fail
 rw[←hW];clear hW;go_wp2_with fail
 with_reducible refine(over_q (I.below h) (I.below h') zo zo).mono ?_
 rintro e w1 ⟨n1,d1,s1,A1,c1,l1,s1r,A1r,c1r,l1r,rfl,h1,h1r,e1,q1,m1,m1r,q⟩;replace q:=zq (a:=W) q;replace Bz:=bT Bz q;clear q;clear pa0 pa1 pb0 pb1;go_wp2_with fail
 with_reducible refine(lowest_q (I.below h1) (I.below h1r) zo e1 (zt hT hB Bz)).mono ?_
 rintro e w2 ⟨s2,A2,c2,l2,s2r,A2r,c2r,l2r,rfl,h2,q⟩;replace q:=zq (a:=w1) q;replace Bz:=bT Bz q;clear q;have m2:=h2.len;obtain⟨pc0,pc1,pc2,pc3,-⟩:=(zx HX2 Bz).cz;obtain⟨y2,fc0,fc1,fc2,fc3,-⟩:=(zx HX2 Bz).fz;go_wp2_with fail
 have qc0:w2.cell? ⟨w.heap.size+2,0,none⟩=some (.bool false):=pc0;have qc1:w2.cell? ⟨w.heap.size+2,1,none⟩=some (.slice none 0 0):=pc1;have qc2:w2.cell? ⟨w.heap.size+2,2,none⟩=some (.bool false):=pc2;have qc3:w2.cell? ⟨w.heap.size+2,3,none⟩=some (.slice none 0 0):=pc3;(try simp only[Exit.inBlock,Exit.then])
 refine bodyPost_ret (by simp[results,Tryz.results45,go_sem,qc0,qc1,qc2,qc3];try rfl) rfl ?_;obtain⟨V1,hW,x,kk,far,bel⟩:=store4 (.bool s2) (.slice A2 l2 c2) (.bool s2r) (.slice A2r l2r c2r) (zx HX2 Bz) nofun nofun nofun nofun;rw[←hW];clear hW;replace h2:=h2.k kk;replace hB:=bel w.heap.size w zo (bT hB Bz);replace HX0:=zf far HX0 Bz;replace HX1:=zf far HX1 Bz;replace HX2:=zh x;clear x kk far bel Bz;have Bz:=zr V1;have hF:=bT (c:=V1) hB Bz;exact⟨s2,A2,c2,l2,s2r,A2r,c2r,l2r,rfl,by rw[←q1];exact(RN.below h2),bT hF⟩
theorem norm_q {q:Rat} {m:Nat} (h:R w s A c l s' A' c' l' q m) (hm:m≤40000000000) (hT:Hid (Tab w)) :
  Calls Tryz.prog 20 #[.agg #[.bool s,.slice A l c,.bool s',.slice A' l' c']] w (TellsR w q):=by
 obtain⟨W,hW,x0,x1,hB⟩:=zAh w #[.bool s,.slice A l c,.bool s',.slice A' l' c'] 47 #[.bool false,.slice none 0 0,.bool false,.slice none 0 0] 47;replace h:=h.below hB;have HX0:=zh x0;have HX1:=zh x1;clear x0 x1;have Bz:=zr W;obtain⟨pa0,pa1,pa2,pa3,-⟩:=(zx HX0 Bz).cz;go_enter Tryz.func20,Tryz.ntmps20
 go_wp2_with fail
 rw[←hW];clear hW;go_wp2_with fail
 with_reducible refine(parts_q (R.below h) zo).mono ?_
 rintro e w1 ⟨n1,d1,s1,A1,c1,l1,s1r,A1r,c1r,l1r,rfl,h1,h1r,e1,q1,m1,m1r,b⟩;replace b:=zq (a:=W) b;replace Bz:=bT Bz b;clear b;clear pa0 pa1 pa2 pa3;go_wp2_with fail
 with_reducible refine(lowest_q (I.below h1) (I.below h1r) zo e1 (zt hT hB Bz)).mono ?_
 rintro e w2 ⟨s2,A2,c2,l2,s2r,A2r,c2r,l2r,rfl,h2,b⟩;replace b:=zq (a:=w1) b;replace Bz:=bT Bz b;clear b;have m2:=h2.len;obtain⟨pb0,pb1,pb2,pb3,-⟩:=(zx HX1 Bz).cz;obtain⟨y1,f1_0,fb1,fb2,fb3,-⟩:=(zx HX1 Bz).fz;go_wp2_with fail
 (try simp only[Exit.inBlock,Exit.then])
 refine bodyPost_ret (by simp[results,Tryz.results20,go_sem,pb0,pb1,pb2,pb3];try rfl) rfl ?_;obtain⟨V1,hW,x,kk,far,bel⟩:=store4 (.bool s2) (.slice A2 l2 c2) (.bool s2r) (.slice A2r l2r c2r) (zx HX1 Bz) nofun nofun nofun nofun;rw[←hW];clear hW;replace h2:=h2.k kk;replace hB:=bel w.heap.size w zo (bT hB Bz);replace HX0:=zf far HX0 Bz;replace HX1:=zh x;clear x kk far bel Bz;have Bz:=zr V1;have hF:=bT (c:=V1) hB Bz;exact⟨s2,A2,c2,l2,s2r,A2r,c2r,l2r,rfl,by rw[←q1];exact(RN.below h2),bT hF⟩
theorem of_q (x y:Int) (h:Hid (-9223372036854775808≤x∧x≤9223372036854775807)) (h':Hid (-9223372036854775808≤y∧y≤9223372036854775807)) (hT:Hid (Tab w)) :
  Calls Tryz.prog 24 #[.int .i64 x,.int .i64 y] w (TellsR w (qof x y)):=by
 obtain⟨W,hW,x0,hB⟩:=zAb w #[.bool false,.slice none 0 0,.bool false,.slice none 0 0] 47;have HX0:=zh x0;clear x0;have Bz:=zr W;go_enter Tryz.func24,Tryz.ntmps24
 go_wp2_with fail
 rw[←hW];clear hW;go_wp2_with fail
 with_reducible refine(of_z x h).mono ?_
 rintro e w1 ⟨s1,A1,c1,l1,rfl,h1,m1,q⟩;replace q:=zq (a:=W) q;replace Bz:=bT Bz q;clear q;go_wp2_with fail
 with_reducible refine(of_z y h').mono ?_
 rintro e w2 ⟨s2,A2,c2,l2,rfl,h2,m2,q⟩;replace q:=zq (a:=w1) q;replace h1:=h1.below q;replace Bz:=bT Bz q;clear q;go_wp2_with fail
 with_reducible refine(make_q (I.below h1.i) (I.below h2.i) zo (zt hT hB Bz)).mono ?_
 rintro e w3 ⟨s3,A3,c3,l3,s3r,A3r,c3r,l3r,rfl,h3,q⟩;replace q:=zq (a:=w2) q;replace Bz:=bT Bz q;clear q;have m3:=h3.len;obtain⟨pa0,pa1,pa2,pa3,-⟩:=(zx HX0 Bz).cz;obtain⟨y0,fa0,fa1,fa2,fa3,-⟩:=(zx HX0 Bz).fz;go_wp2_with fail
 (try simp only[Exit.inBlock,Exit.then])
 refine bodyPost_ret (by simp[results,Tryz.results24,go_sem,pa0,pa1,pa2,pa3];try rfl) rfl ?_;obtain⟨V1,hW,x,kk,far,bel⟩:=store4 (.bool s3) (.slice A3 l3 c3) (.bool s3r) (.slice A3r l3r c3r) (zx HX0 Bz) nofun nofun nofun nofun;rw[←hW];clear hW;replace h3:=h3.k kk;replace hB:=bel w.heap.size w zo (bT hB Bz);replace HX0:=zh x;clear x kk far bel Bz;have Bz:=zr V1;have hF:=bT (c:=V1) hB Bz;exact⟨s3,A3,c3,l3,s3r,A3r,c3r,l3r,rfl,(RN.below h3),bT hF⟩
theorem whole_q {n:Int} (h:I w s A c l n) (hl:l≤800000000000) :
  Calls Tryz.prog 76 #[.agg #[.bool s,.slice A l c]] w (TellsR w (qof n 1)):=by
 obtain⟨W,hW,x0,x1,hB⟩:=zAh w #[.bool s,.slice A l c] 45 #[.bool false,.slice none 0 0,.bool false,.slice none 0 0] 47;replace h:=h.below hB;have HX0:=zh x0;have HX1:=zh x1;clear x0 x1;have Bz:=zr W;obtain⟨pa0,pa1,-⟩:=(zx HX0 Bz).cz;go_enter Tryz.func76,Tryz.ntmps76
 go_wp2_with fail
 rw[←hW];clear hW;go_wp2_with fail
 with_reducible refine(norm_z (I.below h) zo).mono ?_
 rintro e w1 ⟨s1,A1,c1,l1,rfl,h1,m1,q⟩;replace q:=zq (a:=W) q;replace Bz:=bT Bz q;clear q;clear pa0 pa1;obtain⟨pb0,pb1,pb2,pb3,-⟩:=(zx HX1 Bz).cz;obtain⟨y1,f1_0,fb1,fb2,fb3,-⟩:=(zx HX1 Bz).fz;go_wp2_with fail
 (try simp only[Exit.inBlock,Exit.then])
 refine bodyPost_ret (by simp[results,Tryz.results76,go_sem,pb0,pb1,pb2,pb3];try rfl) rfl ?_;obtain⟨V1,hW,x,kk,far,bel⟩:=store4 (.bool s1) (.slice A1 l1 c1) (.bool false) (.slice none 0 0) (zx HX1 Bz) nofun nofun nofun nofun;rw[←hW];clear hW;replace h1:=h1.k kk;replace hB:=bel w.heap.size w zo (bT hB Bz);replace HX0:=zf far HX0 Bz;replace HX1:=zh x;clear x kk far bel Bz;have Bz:=zr V1;have hF:=bT (c:=V1) hB Bz;exact⟨s1,A1,c1,l1,false,none,0,0,rfl,⟨by rw[qof_one];exact(J.below h1),by rw[qof_one];exact J.zero _⟩,bT hF⟩
theorem mul_q {q r:Rat} {m m':Nat} (h:R w s A c l s' A' c' l' q m) (h':R w t B k e t' B' k' e' r m') (hm:m+m'≤40000000000) (hT:Hid (Tab w)) :
  Calls Tryz.prog 23 #[.agg #[.bool s,.slice A l c,.bool s',.slice A' l' c'],.agg #[.bool t,.slice B e k,.bool t',.slice B' e' k']] w (TellsR w (q*r)):=by
 obtain⟨W,hW,x0,x1,x2,hB⟩:=boxes3 w #[.bool s,.slice A l c,.bool s',.slice A' l' c'] 47 #[.bool t,.slice B e k,.bool t',.slice B' e' k'] 47 #[.bool false,.slice none 0 0,.bool false,.slice none 0 0] 47;replace h:=h.below hB;replace h':=h'.below hB;have HX0:=zh x0;have HX1:=zh x1;have HX2:=zh x2;clear x0 x1 x2;have Bz:=zr W;obtain⟨pa0,pa1,pa2,pa3,-⟩:=(zx HX0 Bz).cz;go_enter Tryz.func23,Tryz.ntmps23
 go_wp2_with fail
 rw[←hW];clear hW;go_wp2_with fail
 with_reducible refine(parts_q (R.below h) zo).mono ?_
 rintro e w1 ⟨n1,d1,s1,A1,c1,l1,s1r,A1r,c1r,l1r,rfl,h1,h1r,e1,q1,m1,m1r,b⟩;replace b:=zq (a:=W) b;replace h':=h'.below b;replace Bz:=bT Bz b;clear b;clear pa0 pa1 pa2 pa3;go_upto_region 2 with(fail)
 obtain⟨V1,hW,x3,x4,hN⟩:=zAh w1 #[.bool s1,.slice A1 l1 c1] 45 #[.bool s1r,.slice A1r l1r c1r] 45;rw[←hW];clear hW;obtain⟨v4,hb4⟩:=ze (w1.heap.size+1);rw[←hb4] at x4 ⊢;obtain⟨v3,hb3⟩:=ze w1.heap.size;rw[←hb3] at x3 ⊢;have o2_3:w.heap.size+1+1<v3:=zi (zx HX2 Bz).lt;have ow_3:w.heap.size≤v3:=zi (zw hB Bz);have o2_4:w.heap.size+1+1<v4:=zi (zx HX2 Bz).lt;have ow_4:w.heap.size≤v4:=zi (zw hB Bz);replace h1:=h1.below hN;replace h1r:=h1r.below hN;replace h':=h'.below hN;replace hB:=bT (bT hB Bz) hN;replace HX0:=zba HX0 Bz hN;replace HX1:=zba HX1 Bz hN;replace HX2:=zba HX2 Bz hN;have HX3:=zh x3;have HX4:=zh x4;clear x3 x4 hN Bz hb3 hb4;have Bz:=zr V1;obtain⟨pb0,pb1,pb2,pb3,-⟩:=(zx HX1 Bz).cz;go_wp2_with fail
 with_reducible refine(parts_q (R.below h') zo).mono ?_
 rintro e w2 ⟨n2,d2,s2,A2,c2,l2,s2r,A2r,c2r,l2r,rfl,h2,h2r,e2,q2,m2,m2r,b⟩;replace b:=zq (a:=V1) b;replace h1:=h1.below b;replace h1r:=h1r.below b;replace Bz:=bT Bz b;clear b;clear pb0 pb1 pb2 pb3;go_upto_region 3 with(fail)
 obtain⟨V2,hW,x5,x6,hN⟩:=zAh w2 #[.bool s2,.slice A2 l2 c2] 45 #[.bool s2r,.slice A2r l2r c2r] 45;rw[←hW];clear hW;obtain⟨v6,hb6⟩:=ze (w2.heap.size+1);rw[←hb6] at x6 ⊢;obtain⟨v5,hb5⟩:=ze w2.heap.size;rw[←hb5] at x5 ⊢;have o2_5:w.heap.size+1+1<v5:=zi (zx HX2 Bz).lt;have ow_5:w.heap.size≤v5:=zi (zw hB Bz);have o2_6:w.heap.size+1+1<v6:=zi (zx HX2 Bz).lt;have ow_6:w.heap.size≤v6:=zi (zw hB Bz);replace h1:=h1.below hN;replace h1r:=h1r.below hN;replace h2:=h2.below hN;replace h2r:=h2r.below hN;replace hB:=bT (bT hB Bz) hN;replace HX0:=zba HX0 Bz hN;replace HX1:=zba HX1 Bz hN;replace HX2:=zba HX2 Bz hN;replace HX3:=zba HX3 Bz hN;replace HX4:=zba HX4 Bz hN;have HX5:=zh x5;have HX6:=zh x6;clear x5 x6 hN Bz hb5 hb6;have Bz:=zr V2;obtain⟨pc0,pc1,pc2,pc3,-⟩:=(zx HX2 Bz).cz;obtain⟨y2,fc0,fc1,fc2,fc3,-⟩:=(zx HX2 Bz).fz;obtain⟨pd0,pd1,-⟩:=(zx HX3 Bz).cz;obtain⟨pe0,pe1,-⟩:=(zx HX4 Bz).cz;obtain⟨pf0,pf1,-⟩:=(zx HX5 Bz).cz;obtain⟨pg0,pg1,-⟩:=(zx HX6 Bz).cz;go_wp2_with fail
 (try simp only[vAa,vBa,vC])
 refine zl (zz [0,1,3,4] (.only 2 (.only 5 (.only 6 (.only 7 .done))))) [7] (zsa pd0 (zsa pd1 (zsa pe0 (zsa pe1 (zsa pf0 (zsa pf1 (zsa pg0 (zIa pg1)))))))) ?_;iterate 4 (refine zUa ?_;try simp only[Act.put,uX,uY,uZ])
 refine zC 21 rfl rfl (fun K hK=>?_);go_simp
 with_reducible refine(mul_z (I.below h1) (I.below h2) zo).mono ?_
 rintro e w3 ⟨s3,A3,c3,l3,rfl,h3,m3,b⟩;replace b:=zq (a:=V2) b;replace h1r:=h1r.below b;replace h2r:=h2r.below b;replace Bz:=bT Bz b;clear b;clear pc0 pc1 pc2 pc3 fc0 fc1 fc2 fc3 y2 pd0 pd1 pe0 pe1 pf0 pf1 pg0 pg1;obtain⟨pc0,pc1,pc2,pc3,-⟩:=(zx HX2 Bz).cz;obtain⟨y2,fc0,fc1,fc2,fc3,-⟩:=(zx HX2 Bz).fz;obtain⟨pd0,pd1,-⟩:=(zx HX3 Bz).cz;obtain⟨pe0,pe1,-⟩:=(zx HX4 Bz).cz;obtain⟨pf0,pf1,-⟩:=(zx HX5 Bz).cz;obtain⟨pg0,pg1,-⟩:=(zx HX6 Bz).cz;refine hK.out _ _ ⟨pd0,pd1,pe0,pe1,pf0,pf1,pg0,pg1⟩ (fun _=>?_);try simp only[Act.put,uX,uY,uZ]
 clear hK K;refine zC 24 rfl rfl (fun K hK=>?_);go_simp
 with_reducible refine(mul_z (I.below h1r) (I.below h2r) zo).mono ?_
 rintro e w4 ⟨s4,A4,c4,l4,rfl,h4,m4,b⟩;replace b:=zq (a:=w3) b;replace h3:=h3.below b;replace Bz:=bT Bz b;clear b;clear pc0 pc1 pc2 pc3 fc0 fc1 fc2 fc3 y2 pd0 pd1 pe0 pe1 pf0 pf1 pg0 pg1;obtain⟨pc0,pc1,pc2,pc3,-⟩:=(zx HX2 Bz).cz;obtain⟨y2,fc0,fc1,fc2,fc3,-⟩:=(zx HX2 Bz).fz;obtain⟨pd0,pd1,-⟩:=(zx HX3 Bz).cz;obtain⟨pe0,pe1,-⟩:=(zx HX4 Bz).cz;obtain⟨pf0,pf1,-⟩:=(zx HX5 Bz).cz;obtain⟨pg0,pg1,-⟩:=(zx HX6 Bz).cz;refine hK.out _ _ ⟨pd0,pd1,pe0,pe1,pf0,pf1,pg0,pg1⟩ (fun _=>?_);try simp only[Act.put,uX,uY,uZ]
 clear hK K;refine zC 25 rfl rfl (fun K hK=>?_);go_simp
 with_reducible refine(lowest_q (I.below h3.i) (I.below h4.i) zo (gG e1 e2) (zt hT hB Bz)).mono ?_
 rintro e w5 ⟨s5,A5,c5,l5,s5r,A5r,c5r,l5r,rfl,h5,b⟩;replace b:=zq (a:=w4) b;replace Bz:=bT Bz b;clear b;have m5:=h5.len;clear pc0 pc1 pc2 pc3 fc0 fc1 fc2 fc3 y2 pd0 pd1 pe0 pe1 pf0 pf1 pg0 pg1;obtain⟨pc0,pc1,pc2,pc3,-⟩:=(zx HX2 Bz).cz;obtain⟨y2,fc0,fc1,fc2,fc3,-⟩:=(zx HX2 Bz).fz;obtain⟨pd0,pd1,-⟩:=(zx HX3 Bz).cz;obtain⟨pe0,pe1,-⟩:=(zx HX4 Bz).cz;obtain⟨pf0,pf1,-⟩:=(zx HX5 Bz).cz;obtain⟨pg0,pg1,-⟩:=(zx HX6 Bz).cz;refine hK.out _ _ ⟨pd0,pd1,pe0,pe1,pf0,pf1,pg0,pg1⟩ (fun _=>?_);try simp only[Act.put,uX,uY,uZ]
 clear hK K;refine wpPlan_late (o:=⟨none,_,_,_,_,_⟩) rfl rfl zd (fun K hK=>?_);go_simp
 refine hK.out _ _ ?_;try simp only[Act.put,uX,uY,uZ]
 clear hK K;refine wpPlan_done ?_;go_wp2_with fail
 have qc0:w5.cell? ⟨w.heap.size+2,0,none⟩=some (.bool false):=pc0;have qc1:w5.cell? ⟨w.heap.size+2,1,none⟩=some (.slice none 0 0):=pc1;have qc2:w5.cell? ⟨w.heap.size+2,2,none⟩=some (.bool false):=pc2;have qc3:w5.cell? ⟨w.heap.size+2,3,none⟩=some (.slice none 0 0):=pc3;(try simp only[Exit.inBlock,Exit.then])
 refine bodyPost_ret (by simp[results,Tryz.results23,go_sem,qc0,qc1,qc2,qc3];try rfl) rfl ?_;obtain⟨V3,hW,x,kk,far,bel⟩:=store4 (.bool s5) (.slice A5 l5 c5) (.bool s5r) (.slice A5r l5r c5r) (zx HX2 Bz) nofun nofun nofun nofun;rw[←hW];clear hW;replace h5:=h5.k kk;replace hB:=bel w.heap.size w zo (bT hB Bz);replace HX0:=zf far HX0 Bz;replace HX1:=zf far HX1 Bz;replace HX3:=zf far HX3 Bz;replace HX4:=zf far HX4 Bz;replace HX5:=zf far HX5 Bz;replace HX6:=zf far HX6 Bz;replace HX2:=zh x;clear x kk far bel Bz;have Bz:=zr V3;have hF:=bT (c:=V3) hB Bz;exact⟨s5,A5,c5,l5,s5r,A5r,c5r,l5r,rfl,by rw[←q1,←q2,←qof_mul];exact(RN.below h5),bT hF⟩
theorem cmp_q {q r:Rat} {m m':Nat} (h:R w s A c l s' A' c' l' q m) (h':R w t B k e t' B' k' e' r m') (hm:m+m'≤40000000000) (z:Int) (hz:Hid (cmpQ q r=z)) :
  Calls Tryz.prog 11 #[.agg #[.bool s,.slice A l c,.bool s',.slice A' l' c'],.agg #[.bool t,.slice B e k,.bool t',.slice B' e' k']] w fun e w'=>e=.returned (.int .i64 z)∧Below w.heap.size w w':=by
 obtain⟨W,hW,x0,x1,hB⟩:=zAh w #[.bool s,.slice A l c,.bool s',.slice A' l' c'] 47 #[.bool t,.slice B e k,.bool t',.slice B' e' k'] 47;replace h:=h.below hB;replace h':=h'.below hB;have HX0:=zh x0;have HX1:=zh x1;clear x0 x1;have Bz:=zr W;obtain⟨pa0,pa1,pa2,pa3,-⟩:=(zx HX0 Bz).cz;go_enter Tryz.func11,Tryz.ntmps11
 go_wp2_with fail
 rw[←hW];clear hW;go_wp2_with fail
 with_reducible refine(parts_q (R.below h) zo).mono ?_
 rintro e w1 ⟨n1,d1,s1,A1,c1,l1,s1r,A1r,c1r,l1r,rfl,h1,h1r,e1,q1,m1,m1r,b⟩;replace b:=zq (a:=W) b;replace h':=h'.below b;replace Bz:=bT Bz b;clear b;clear pa0 pa1 pa2 pa3;go_upto_region 2 with(fail)
 obtain⟨V1,hW,x2,x3,hN⟩:=zAh w1 #[.bool s1,.slice A1 l1 c1] 45 #[.bool s1r,.slice A1r l1r c1r] 45;rw[←hW];clear hW;obtain⟨v3,hb3⟩:=ze (w1.heap.size+1);rw[←hb3] at x3 ⊢;obtain⟨v2,hb2⟩:=ze w1.heap.size;rw[←hb2] at x2 ⊢;have ow_2:w.heap.size≤v2:=zi (zw hB Bz);have ow_3:w.heap.size≤v3:=zi (zw hB Bz);replace h1:=h1.below hN;replace h1r:=h1r.below hN;replace h':=h'.below hN;replace hB:=bT (bT hB Bz) hN;replace HX0:=zba HX0 Bz hN;replace HX1:=zba HX1 Bz hN;have HX2:=zh x2;have HX3:=zh x3;clear x2 x3 hN Bz hb2 hb3;have Bz:=zr V1;obtain⟨pb0,pb1,pb2,pb3,-⟩:=(zx HX1 Bz).cz;go_wp2_with fail
 with_reducible refine(parts_q (R.below h') zo).mono ?_
 rintro e w2 ⟨n2,d2,s2,A2,c2,l2,s2r,A2r,c2r,l2r,rfl,h2,h2r,e2,q2,m2,m2r,b⟩;replace b:=zq (a:=V1) b;replace h1:=h1.below b;replace h1r:=h1r.below b;replace Bz:=bT Bz b;clear b;clear pb0 pb1 pb2 pb3;go_upto_region 3 with(fail)
 obtain⟨V2,hW,x4,x5,hN⟩:=zAh w2 #[.bool s2,.slice A2 l2 c2] 45 #[.bool s2r,.slice A2r l2r c2r] 45;rw[←hW];clear hW;obtain⟨v5,hb5⟩:=ze (w2.heap.size+1);rw[←hb5] at x5 ⊢;obtain⟨v4,hb4⟩:=ze w2.heap.size;rw[←hb4] at x4 ⊢;have ow_4:w.heap.size≤v4:=zi (zw hB Bz);have ow_5:w.heap.size≤v5:=zi (zw hB Bz);replace h1:=h1.below hN;replace h1r:=h1r.below hN;replace h2:=h2.below hN;replace h2r:=h2r.below hN;replace hB:=bT (bT hB Bz) hN;replace HX0:=zba HX0 Bz hN;replace HX1:=zba HX1 Bz hN;replace HX2:=zba HX2 Bz hN;replace HX3:=zba HX3 Bz hN;have HX4:=zh x4;have HX5:=zh x5;clear x4 x5 hN Bz hb4 hb5;have Bz:=zr V2;obtain⟨pc0,pc1,-⟩:=(zx HX2 Bz).cz;obtain⟨pd0,pd1,-⟩:=(zx HX3 Bz).cz;obtain⟨pe0,pe1,-⟩:=(zx HX4 Bz).cz;obtain⟨pf0,pf1,-⟩:=(zx HX5 Bz).cz;go_wp2_with fail
 (try simp only[vAa,vBa,vC])
 refine zl (zz [0,1,3,4] (.only 2 (.only 5 (.only 6 (.take 7 .done))))) [] (zsa pc0 (zsa pc1 (zsa pd0 (zsa pd1 (zsa pe0 (zsa pe1 (zsa pf0 (zIa pf1)))))))) ?_;iterate 4 (refine zUa ?_;try simp only[Act.put,uX,uY,uZ])
 refine zC 21 rfl rfl (fun K hK=>?_);go_simp
 with_reducible refine(mul_z (I.below h1) (I.below h2r) zo).mono ?_
 rintro e w3 ⟨s3,A3,c3,l3,rfl,h3,m3,b⟩;replace b:=zq (a:=V2) b;replace h1r:=h1r.below b;replace h2:=h2.below b;replace Bz:=bT Bz b;clear b;clear pc0 pc1 pd0 pd1 pe0 pe1 pf0 pf1;obtain⟨pc0,pc1,-⟩:=(zx HX2 Bz).cz;obtain⟨pd0,pd1,-⟩:=(zx HX3 Bz).cz;obtain⟨pe0,pe1,-⟩:=(zx HX4 Bz).cz;obtain⟨pf0,pf1,-⟩:=(zx HX5 Bz).cz;refine hK.out _ _ ⟨pc0,pc1,pd0,pd1,pe0,pe1,pf0,pf1⟩ (fun _=>?_);try simp only[Act.put,uX,uY,uZ]
 clear hK K;refine zC 24 rfl rfl (fun K hK=>?_);go_simp
 with_reducible refine(mul_z (I.below h2) (I.below h1r) zo).mono ?_
 rintro e w4 ⟨s4,A4,c4,l4,rfl,h4,m4,b⟩;replace b:=zq (a:=w3) b;replace h3:=h3.below b;replace Bz:=bT Bz b;clear b;clear pc0 pc1 pd0 pd1 pe0 pe1 pf0 pf1;obtain⟨pc0,pc1,-⟩:=(zx HX2 Bz).cz;obtain⟨pd0,pd1,-⟩:=(zx HX3 Bz).cz;obtain⟨pe0,pe1,-⟩:=(zx HX4 Bz).cz;obtain⟨pf0,pf1,-⟩:=(zx HX5 Bz).cz;refine hK.out _ _ ⟨pc0,pc1,pd0,pd1,pe0,pe1,pf0,pf1⟩ (fun _=>?_);try simp only[Act.put,uX,uY,uZ]
 clear hK K;refine zC 25 rfl rfl (fun K hK=>?_);go_simp
 have HK:Hid (cmpI (n1*d2) (n2*d1)=z):=by show _=_;rw[cmpI_qof e1 e2,q1,q2];exact hz.out
 with_reducible refine(cmp_z (I.below h3.i) (I.below h4.i) zo z HK.out).mono ?_
 rintro e w5 ⟨rfl,b⟩;replace b:=zq (a:=w4) b;replace Bz:=bT Bz b;clear b;clear pc0 pc1 pd0 pd1 pe0 pe1 pf0 pf1;obtain⟨pc0,pc1,-⟩:=(zx HX2 Bz).cz;obtain⟨pd0,pd1,-⟩:=(zx HX3 Bz).cz;obtain⟨pe0,pe1,-⟩:=(zx HX4 Bz).cz;obtain⟨pf0,pf1,-⟩:=(zx HX5 Bz).cz;refine hK.out _ _ ⟨pc0,pc1,pd0,pd1,pe0,pe1,pf0,pf1⟩ (fun _=>?_);try simp only[Act.put,uX,uY,uZ]
 clear hK K;refine zUa ?_;try simp only[Act.put,uX,uY,uZ]
 refine wpPlan_done ?_;go_wp2_with fail
 go_ret
 have hF:=bT (c:=w5) hB Bz;exact⟨rfl,bT hF⟩
end
section
variable {w:World} {s s' t t':Bool} {A A' B B':Option Addr} {c c' l l' e e' k k':Nat}
theorem add_1 {n d:Int} (h:I w s A c l n) (h':I w s' A' c' l' d) (hl:l+l'≤800000000000) :
  Calls Tryz.prog 43 #[.agg #[.bool s,.slice A l c],.agg #[.bool s',.slice A' l' c']] w (TellsZ w (n+d) (max l l'+1)):=by
 obtain⟨W,hW,x0,x1,x2,hB⟩:=boxes3 w #[.bool s,.slice A l c] 45 #[.bool s',.slice A' l' c'] 45 #[.bool false,.slice none 0 0] 45;replace h':=h'.below hB;replace h:=h.below hB;have HX0:=zh x0;have HX1:=zh x1;have HX2:=zh x2;clear x0 x1 x2;have Bz:=zr W;obtain⟨pa0,pa1,-⟩:=(zx HX0 Bz).cz;obtain⟨pb0,pb1,-⟩:=(zx HX1 Bz).cz;go_enter Tryz.func43,Tryz.ntmps43
 go_wp2_with fail
 rw[←hW];clear hW;go_wp2_with fail
 with_reducible refine(add_z (I.below h) (I.below h') zo).mono ?_
 rintro e w1 ⟨s1,A1,c1,l1,rfl,h1,m1,q⟩;replace q:=zq (a:=W) q;replace Bz:=bT Bz q;clear q;clear pa0 pa1 pb0 pb1;obtain⟨pc0,pc1,-⟩:=(zx HX2 Bz).cz;obtain⟨y2,fc0,fc1,-⟩:=(zx HX2 Bz).fz;go_wp2_with fail
 have qc0:w1.cell? ⟨w.heap.size+2,0,none⟩=some (.bool false):=pc0;have qc1:w1.cell? ⟨w.heap.size+2,1,none⟩=some (.slice none 0 0):=pc1;(try simp only[Exit.inBlock,Exit.then])
 refine bodyPost_ret (by simp[results,Tryz.results43,go_sem,qc0,qc1];try rfl) rfl ?_;obtain⟨V1,hW,x,kk,far,bel⟩:=store2 (.bool s1) (.slice A1 l1 c1) (zx HX2 Bz) nofun nofun;rw[←hW];clear hW;replace h1:=h1.k kk;replace hB:=bel w.heap.size w zo (bT hB Bz);replace HX0:=zf far HX0 Bz;replace HX1:=zf far HX1 Bz;replace HX2:=zh x;clear x kk far bel Bz;have Bz:=zr V1;have hF:=bT (c:=V1) hB Bz;exact⟨s1,A1,c1,l1,rfl,(J.below h1),zo,bT hF⟩
theorem add_both1 (g1:((l':Int)==0)=true) (g2:((e':Int)==0)=true) {n n':Int} (hn:I w s A c l n) (hn':I w t B k e n') (hl:l+e≤40000000000) {q:Rat} (HQ:Hid (qof (n+n') 1=q)) (_hT:Hid (Tab w)) :
  Calls Tryz.prog 42 #[.agg #[.bool s,.slice A l c,.bool s',.slice A' l' c'],.agg #[.bool t,.slice B e k,.bool t',.slice B' e' k'],.func (.func 43) #[] #[]] w (TellsR w q):=by
 obtain⟨W,hW,x0,x1,x2,hB⟩:=boxes3 w #[.bool s,.slice A l c,.bool s',.slice A' l' c'] 47 #[.bool t,.slice B e k,.bool t',.slice B' e' k'] 47 #[.bool false,.slice none 0 0,.bool false,.slice none 0 0] 47;replace hn:=hn.below hB;replace hn':=hn'.below hB;have HX0:=zh x0;have HX1:=zh x1;have HX2:=zh x2;clear x0 x1 x2;have Bz:=zr W;obtain⟨pa0,pa1,-,pa3,-⟩:=(zx HX0 Bz).cz;obtain⟨pb0,pb1,-,pb3,-⟩:=(zx HX1 Bz).cz;go_enter Tryz.func42,Tryz.ntmps42
 go_wp2_with fail
 rw[←hW];clear hW;go_wp2_with fail
 with_reducible refine(add_1 (I.below hn) (I.below hn') zo).mono ?_
 rintro e w1 ⟨s1,A1,c1,l1,rfl,h1,m1,b⟩;replace b:=zq (a:=W) b;replace Bz:=bT Bz b;clear b;clear pa0 pa1 pa3 pb0 pb1 pb3;go_wp2_with fail
 with_reducible refine(whole_q (I.below h1.i) zo).mono ?_
 rintro e w2 ⟨s2,A2,c2,l2,s2r,A2r,c2r,l2r,rfl,h2,b⟩;replace b:=zq (a:=w1) b;replace Bz:=bT Bz b;clear b;obtain⟨pc0,pc1,pc2,pc3,-⟩:=(zx HX2 Bz).cz;obtain⟨y2,fc0,fc1,fc2,fc3,-⟩:=(zx HX2 Bz).fz;go_wp2_with fail
 have qc0:w2.cell? ⟨w.heap.size+2,0,none⟩=some (.bool false):=pc0;have qc1:w2.cell? ⟨w.heap.size+2,1,none⟩=some (.slice none 0 0):=pc1;have qc2:w2.cell? ⟨w.heap.size+2,2,none⟩=some (.bool false):=pc2;have qc3:w2.cell? ⟨w.heap.size+2,3,none⟩=some (.slice none 0 0):=pc3;(try simp only[Exit.inBlock,Exit.then])
 refine bodyPost_ret (by simp[results,Tryz.results42,go_sem,qc0,qc1,qc2,qc3];try rfl) rfl ?_;obtain⟨V1,hW,x,kk,far,bel⟩:=store4 (.bool s2) (.slice A2 l2 c2) (.bool s2r) (.slice A2r l2r c2r) (zx HX2 Bz) nofun nofun nofun nofun;rw[←hW];clear hW;replace h2:=h2.k kk;replace hB:=bel w.heap.size w zo (bT hB Bz);replace HX0:=zf far HX0 Bz;replace HX1:=zf far HX1 Bz;replace HX2:=zh x;clear x kk far bel Bz;have Bz:=zr V1;have hF:=bT (c:=V1) hB Bz;exact⟨s2,A2,c2,l2,s2r,A2r,c2r,l2r,rfl,by rw[←HQ.out];exact(RN.below h2),bT hF⟩
theorem add_both2 (g1:((l':Int)==0)=true) (g2:((e':Int)==0)=false) {q r:Rat} {m m':Nat} (h:R w s A c l s' A' c' l' q m) (h':R w t B k e t' B' k' e' r m') (hm:m+m'≤40000000000) (hT:Hid (Tab w)) :
  Calls Tryz.prog 42 #[.agg #[.bool s,.slice A l c,.bool s',.slice A' l' c'],.agg #[.bool t,.slice B e k,.bool t',.slice B' e' k'],.func (.func 43) #[] #[]] w (TellsR w (q+r)):=by
 obtain⟨W,hW,x0,x1,x2,hB⟩:=boxes3 w #[.bool s,.slice A l c,.bool s',.slice A' l' c'] 47 #[.bool t,.slice B e k,.bool t',.slice B' e' k'] 47 #[.bool false,.slice none 0 0,.bool false,.slice none 0 0] 47;replace h:=h.below hB;replace h':=h'.below hB;have HX0:=zh x0;have HX1:=zh x1;have HX2:=zh x2;clear x0 x1 x2;have Bz:=zr W;obtain⟨pa0,pa1,pa2,pa3,-⟩:=(zx HX0 Bz).cz;have pb3:=(zx HX1 Bz).cell 3 (.slice B' e' k') rfl;go_enter Tryz.func42,Tryz.ntmps42
 go_wp2_with fail
 rw[←hW];clear hW;go_wp2_with fail
 with_reducible refine(parts_q (R.below h) zo).mono ?_
 rintro e w1 ⟨n1,d1,s1,A1,c1,l1,s1r,A1r,c1r,l1r,rfl,h1,h1r,e1,q1,m1,m1r,b⟩;replace b:=zq (a:=W) b;replace h':=h'.below b;replace Bz:=bT Bz b;clear b;clear pa0 pa1 pa2 pa3 pb3;go_upto_region 4 with(fail)
 obtain⟨V1,hW,x3,x4,hN⟩:=zAh w1 #[.bool s1,.slice A1 l1 c1] 45 #[.bool s1r,.slice A1r l1r c1r] 45;rw[←hW];clear hW;obtain⟨v4,hb4⟩:=ze (w1.heap.size+1);rw[←hb4] at x4 ⊢;obtain⟨v3,hb3⟩:=ze w1.heap.size;rw[←hb3] at x3 ⊢;have o2_3:w.heap.size+1+1<v3:=zi (zx HX2 Bz).lt;have ow_3:w.heap.size≤v3:=zi (zw hB Bz);have o2_4:w.heap.size+1+1<v4:=zi (zx HX2 Bz).lt;have ow_4:w.heap.size≤v4:=zi (zw hB Bz);replace h1:=h1.below hN;replace h1r:=h1r.below hN;replace h':=h'.below hN;replace hB:=bT (bT hB Bz) hN;replace HX0:=zba HX0 Bz hN;replace HX1:=zba HX1 Bz hN;replace HX2:=zba HX2 Bz hN;have HX3:=zh x3;have HX4:=zh x4;clear x3 x4 hN Bz hb3 hb4;have Bz:=zr V1;obtain⟨pb0,pb1,pb2,pb3,-⟩:=(zx HX1 Bz).cz;go_wp2_with fail
 with_reducible refine(parts_q (R.below h') zo).mono ?_
 rintro e w2 ⟨n2,d2,s2,A2,c2,l2,s2r,A2r,c2r,l2r,rfl,h2,h2r,e2,q2,m2,m2r,b⟩;replace b:=zq (a:=V1) b;replace h1:=h1.below b;replace h1r:=h1r.below b;replace Bz:=bT Bz b;clear b;clear pb0 pb1 pb2 pb3;go_upto_region 5 with(fail)
 obtain⟨V2,hW,x5,x6,hN⟩:=zAh w2 #[.bool s2,.slice A2 l2 c2] 45 #[.bool s2r,.slice A2r l2r c2r] 45;rw[←hW];clear hW;obtain⟨v6,hb6⟩:=ze (w2.heap.size+1);rw[←hb6] at x6 ⊢;obtain⟨v5,hb5⟩:=ze w2.heap.size;rw[←hb5] at x5 ⊢;have o2_5:w.heap.size+1+1<v5:=zi (zx HX2 Bz).lt;have ow_5:w.heap.size≤v5:=zi (zw hB Bz);have o2_6:w.heap.size+1+1<v6:=zi (zx HX2 Bz).lt;have ow_6:w.heap.size≤v6:=zi (zw hB Bz);replace h1:=h1.below hN;replace h1r:=h1r.below hN;replace h2:=h2.below hN;replace h2r:=h2r.below hN;replace hB:=bT (bT hB Bz) hN;replace HX0:=zba HX0 Bz hN;replace HX1:=zba HX1 Bz hN;replace HX2:=zba HX2 Bz hN;replace HX3:=zba HX3 Bz hN;replace HX4:=zba HX4 Bz hN;have HX5:=zh x5;have HX6:=zh x6;clear x5 x6 hN Bz hb5 hb6;have Bz:=zr V2;obtain⟨pc0,pc1,pc2,pc3,-⟩:=(zx HX2 Bz).cz;obtain⟨y2,fc0,fc1,fc2,fc3,-⟩:=(zx HX2 Bz).fz;obtain⟨pd0,pd1,-⟩:=(zx HX3 Bz).cz;obtain⟨pe0,pe1,-⟩:=(zx HX4 Bz).cz;obtain⟨pf0,pf1,-⟩:=(zx HX5 Bz).cz;obtain⟨pg0,pg1,-⟩:=(zx HX6 Bz).cz;go_wp2_with fail
 (try simp only[vAa,vBa,vC])
 refine zl (.pure 0 (zz [1,2,4,5,8,9] (.only 3 (.only 6 (.only 7 (.only 10 (.only 11 (.only 12 .done)))))))) [12] (zsa pd0 (zsa pd1 (zsa pe0 (zsa pe1 (zsa pf0 (zsa pf1 (zsa pg0 (zIa pg1)))))))) ?_;iterate 7 ((first|refine zV ?_|refine zUa ?_);try simp only[Act.put,uX,uY,uZ])
 refine zC 43 rfl rfl (fun K hK=>?_);go_simp
 with_reducible refine(mul_z (I.below h1) (I.below h2r) zo).mono ?_
 rintro e w3 ⟨s3,A3,c3,l3,rfl,h3,m3,b⟩;replace b:=zq (a:=V2) b;replace h1r:=h1r.below b;replace h2:=h2.below b;replace h2r:=h2r.below b;replace Bz:=bT Bz b;clear b;clear pc0 pc1 pc2 pc3 fc0 fc1 fc2 fc3 y2 pd0 pd1 pe0 pe1 pf0 pf1 pg0 pg1;obtain⟨pc0,pc1,pc2,pc3,-⟩:=(zx HX2 Bz).cz;obtain⟨y2,fc0,fc1,fc2,fc3,-⟩:=(zx HX2 Bz).fz;obtain⟨pd0,pd1,-⟩:=(zx HX3 Bz).cz;obtain⟨pe0,pe1,-⟩:=(zx HX4 Bz).cz;obtain⟨pf0,pf1,-⟩:=(zx HX5 Bz).cz;obtain⟨pg0,pg1,-⟩:=(zx HX6 Bz).cz;refine hK.out _ _ ⟨pd0,pd1,pe0,pe1,pf0,pf1,pg0,pg1⟩ (fun _=>?_);try simp only[Act.put,uX,uY,uZ]
 clear hK K;refine zC 46 rfl rfl (fun K hK=>?_);go_simp
 with_reducible refine(mul_z (I.below h2) (I.below h1r) zo).mono ?_
 rintro e w4 ⟨s4,A4,c4,l4,rfl,h4,m4,b⟩;replace b:=zq (a:=w3) b;replace h1r:=h1r.below b;replace h2r:=h2r.below b;replace h3:=h3.below b;replace Bz:=bT Bz b;clear b;clear pc0 pc1 pc2 pc3 fc0 fc1 fc2 fc3 y2 pd0 pd1 pe0 pe1 pf0 pf1 pg0 pg1;obtain⟨pc0,pc1,pc2,pc3,-⟩:=(zx HX2 Bz).cz;obtain⟨y2,fc0,fc1,fc2,fc3,-⟩:=(zx HX2 Bz).fz;obtain⟨pd0,pd1,-⟩:=(zx HX3 Bz).cz;obtain⟨pe0,pe1,-⟩:=(zx HX4 Bz).cz;obtain⟨pf0,pf1,-⟩:=(zx HX5 Bz).cz;obtain⟨pg0,pg1,-⟩:=(zx HX6 Bz).cz;refine hK.out _ _ ⟨pd0,pd1,pe0,pe1,pf0,pf1,pg0,pg1⟩ (fun _=>?_);try simp only[Act.put,uX,uY,uZ]
 clear hK K;refine zC 47 rfl rfl (fun K hK=>?_);go_simp
 with_reducible refine(add_1 (I.below h3.i) (I.below h4.i) zo).mono ?_
 rintro e w5 ⟨s5,A5,c5,l5,rfl,h5,m5,b⟩;replace b:=zq (a:=w4) b;replace h1r:=h1r.below b;replace h2r:=h2r.below b;replace Bz:=bT Bz b;clear b;clear pc0 pc1 pc2 pc3 fc0 fc1 fc2 fc3 y2 pd0 pd1 pe0 pe1 pf0 pf1 pg0 pg1;obtain⟨pc0,pc1,pc2,pc3,-⟩:=(zx HX2 Bz).cz;obtain⟨y2,fc0,fc1,fc2,fc3,-⟩:=(zx HX2 Bz).fz;obtain⟨pd0,pd1,-⟩:=(zx HX3 Bz).cz;obtain⟨pe0,pe1,-⟩:=(zx HX4 Bz).cz;obtain⟨pf0,pf1,-⟩:=(zx HX5 Bz).cz;obtain⟨pg0,pg1,-⟩:=(zx HX6 Bz).cz;refine hK.out _ _ ⟨pd0,pd1,pe0,pe1,pf0,pf1,pg0,pg1⟩ (fun _=>?_);try simp only[Act.put,uX,uY,uZ]
 clear hK K;refine zC 50 rfl rfl (fun K hK=>?_);go_simp
 with_reducible refine(mul_z (I.below h1r) (I.below h2r) zo).mono ?_
 rintro e w6 ⟨s6,A6,c6,l6,rfl,h6,m6,b⟩;replace b:=zq (a:=w5) b;replace h5:=h5.below b;replace Bz:=bT Bz b;clear b;clear pc0 pc1 pc2 pc3 fc0 fc1 fc2 fc3 y2 pd0 pd1 pe0 pe1 pf0 pf1 pg0 pg1;obtain⟨pc0,pc1,pc2,pc3,-⟩:=(zx HX2 Bz).cz;obtain⟨y2,fc0,fc1,fc2,fc3,-⟩:=(zx HX2 Bz).fz;obtain⟨pd0,pd1,-⟩:=(zx HX3 Bz).cz;obtain⟨pe0,pe1,-⟩:=(zx HX4 Bz).cz;obtain⟨pf0,pf1,-⟩:=(zx HX5 Bz).cz;obtain⟨pg0,pg1,-⟩:=(zx HX6 Bz).cz;refine hK.out _ _ ⟨pd0,pd1,pe0,pe1,pf0,pf1,pg0,pg1⟩ (fun _=>?_);try simp only[Act.put,uX,uY,uZ]
 clear hK K;refine zC 51 rfl rfl (fun K hK=>?_);go_simp
 with_reducible refine(lowest_q (I.below h5.i) (I.below h6.i) zo (gG e1 e2) (zt hT hB Bz)).mono ?_
 rintro e w7 ⟨s7,A7,c7,l7,s7r,A7r,c7r,l7r,rfl,h7,b⟩;replace b:=zq (a:=w6) b;replace Bz:=bT Bz b;clear b;have m7:=h7.len;clear pc0 pc1 pc2 pc3 fc0 fc1 fc2 fc3 y2 pd0 pd1 pe0 pe1 pf0 pf1 pg0 pg1;obtain⟨pc0,pc1,pc2,pc3,-⟩:=(zx HX2 Bz).cz;obtain⟨y2,fc0,fc1,fc2,fc3,-⟩:=(zx HX2 Bz).fz;obtain⟨pd0,pd1,-⟩:=(zx HX3 Bz).cz;obtain⟨pe0,pe1,-⟩:=(zx HX4 Bz).cz;obtain⟨pf0,pf1,-⟩:=(zx HX5 Bz).cz;obtain⟨pg0,pg1,-⟩:=(zx HX6 Bz).cz;refine hK.out _ _ ⟨pd0,pd1,pe0,pe1,pf0,pf1,pg0,pg1⟩ (fun _=>?_);try simp only[Act.put,uX,uY,uZ]
 clear hK K;refine wpPlan_late (o:=⟨none,_,_,_,_,_⟩) rfl rfl zd (fun K hK=>?_);go_simp
 refine hK.out _ _ ?_;try simp only[Act.put,uX,uY,uZ]
 clear hK K;refine wpPlan_done ?_;go_wp2_with fail
 have qc0:w7.cell? ⟨w.heap.size+2,0,none⟩=some (.bool false):=pc0;have qc1:w7.cell? ⟨w.heap.size+2,1,none⟩=some (.slice none 0 0):=pc1;have qc2:w7.cell? ⟨w.heap.size+2,2,none⟩=some (.bool false):=pc2;have qc3:w7.cell? ⟨w.heap.size+2,3,none⟩=some (.slice none 0 0):=pc3;(try simp only[Exit.inBlock,Exit.then])
 refine bodyPost_ret (by simp[results,Tryz.results42,go_sem,qc0,qc1,qc2,qc3];try rfl) rfl ?_;obtain⟨V3,hW,x,kk,far,bel⟩:=store4 (.bool s7) (.slice A7 l7 c7) (.bool s7r) (.slice A7r l7r c7r) (zx HX2 Bz) nofun nofun nofun nofun;rw[←hW];clear hW;replace h7:=h7.k kk;replace hB:=bel w.heap.size w zo (bT hB Bz);replace HX0:=zf far HX0 Bz;replace HX1:=zf far HX1 Bz;replace HX3:=zf far HX3 Bz;replace HX4:=zf far HX4 Bz;replace HX5:=zf far HX5 Bz;replace HX6:=zf far HX6 Bz;replace HX2:=zh x;clear x kk far bel Bz;have Bz:=zr V3;have hF:=bT (c:=V3) hB Bz;exact⟨s7,A7,c7,l7,s7r,A7r,c7r,l7r,rfl,by rw[←q1,←q2,←qof_add zo zo];exact(RN.below h7),bT hF⟩
theorem add_both3 (g1:((l':Int)==0)=false) {q r:Rat} {m m':Nat} (h:R w s A c l s' A' c' l' q m) (h':R w t B k e t' B' k' e' r m') (hm:m+m'≤40000000000) (hT:Hid (Tab w)) :
  Calls Tryz.prog 42 #[.agg #[.bool s,.slice A l c,.bool s',.slice A' l' c'],.agg #[.bool t,.slice B e k,.bool t',.slice B' e' k'],.func (.func 43) #[] #[]] w (TellsR w (q+r)):=by
 obtain⟨W,hW,x0,x1,x2,hB⟩:=boxes3 w #[.bool s,.slice A l c,.bool s',.slice A' l' c'] 47 #[.bool t,.slice B e k,.bool t',.slice B' e' k'] 47 #[.bool false,.slice none 0 0,.bool false,.slice none 0 0] 47;replace h:=h.below hB;replace h':=h'.below hB;have HX0:=zh x0;have HX1:=zh x1;have HX2:=zh x2;clear x0 x1 x2;have Bz:=zr W;obtain⟨pa0,pa1,pa2,pa3,-⟩:=(zx HX0 Bz).cz;go_enter Tryz.func42,Tryz.ntmps42
 go_wp2_with fail
 rw[←hW];clear hW;go_wp2_with fail
 with_reducible refine(parts_q (R.below h) zo).mono ?_
 rintro e w1 ⟨n1,d1,s1,A1,c1,l1,s1r,A1r,c1r,l1r,rfl,h1,h1r,e1,q1,m1,m1r,b⟩;replace b:=zq (a:=W) b;replace h':=h'.below b;replace Bz:=bT Bz b;clear b;clear pa0 pa1 pa2 pa3;go_upto_region 4 with(fail)
 obtain⟨V1,hW,x3,x4,hN⟩:=zAh w1 #[.bool s1,.slice A1 l1 c1] 45 #[.bool s1r,.slice A1r l1r c1r] 45;rw[←hW];clear hW;obtain⟨v4,hb4⟩:=ze (w1.heap.size+1);rw[←hb4] at x4 ⊢;obtain⟨v3,hb3⟩:=ze w1.heap.size;rw[←hb3] at x3 ⊢;have o2_3:w.heap.size+1+1<v3:=zi (zx HX2 Bz).lt;have ow_3:w.heap.size≤v3:=zi (zw hB Bz);have o2_4:w.heap.size+1+1<v4:=zi (zx HX2 Bz).lt;have ow_4:w.heap.size≤v4:=zi (zw hB Bz);replace h1:=h1.below hN;replace h1r:=h1r.below hN;replace h':=h'.below hN;replace hB:=bT (bT hB Bz) hN;replace HX0:=zba HX0 Bz hN;replace HX1:=zba HX1 Bz hN;replace HX2:=zba HX2 Bz hN;have HX3:=zh x3;have HX4:=zh x4;clear x3 x4 hN Bz hb3 hb4;have Bz:=zr V1;obtain⟨pb0,pb1,pb2,pb3,-⟩:=(zx HX1 Bz).cz;go_wp2_with fail
 with_reducible refine(parts_q (R.below h') zo).mono ?_
 rintro e w2 ⟨n2,d2,s2,A2,c2,l2,s2r,A2r,c2r,l2r,rfl,h2,h2r,e2,q2,m2,m2r,b⟩;replace b:=zq (a:=V1) b;replace h1:=h1.below b;replace h1r:=h1r.below b;replace Bz:=bT Bz b;clear b;clear pb0 pb1 pb2 pb3;go_upto_region 5 with(fail)
 obtain⟨V2,hW,x5,x6,hN⟩:=zAh w2 #[.bool s2,.slice A2 l2 c2] 45 #[.bool s2r,.slice A2r l2r c2r] 45;rw[←hW];clear hW;obtain⟨v6,hb6⟩:=ze (w2.heap.size+1);rw[←hb6] at x6 ⊢;obtain⟨v5,hb5⟩:=ze w2.heap.size;rw[←hb5] at x5 ⊢;have o2_5:w.heap.size+1+1<v5:=zi (zx HX2 Bz).lt;have ow_5:w.heap.size≤v5:=zi (zw hB Bz);have o2_6:w.heap.size+1+1<v6:=zi (zx HX2 Bz).lt;have ow_6:w.heap.size≤v6:=zi (zw hB Bz);replace h1:=h1.below hN;replace h1r:=h1r.below hN;replace h2:=h2.below hN;replace h2r:=h2r.below hN;replace hB:=bT (bT hB Bz) hN;replace HX0:=zba HX0 Bz hN;replace HX1:=zba HX1 Bz hN;replace HX2:=zba HX2 Bz hN;replace HX3:=zba HX3 Bz hN;replace HX4:=zba HX4 Bz hN;have HX5:=zh x5;have HX6:=zh x6;clear x5 x6 hN Bz hb5 hb6;have Bz:=zr V2;obtain⟨pc0,pc1,pc2,pc3,-⟩:=(zx HX2 Bz).cz;obtain⟨y2,fc0,fc1,fc2,fc3,-⟩:=(zx HX2 Bz).fz;obtain⟨pd0,pd1,-⟩:=(zx HX3 Bz).cz;obtain⟨pe0,pe1,-⟩:=(zx HX4 Bz).cz;obtain⟨pf0,pf1,-⟩:=(zx HX5 Bz).cz;obtain⟨pg0,pg1,-⟩:=(zx HX6 Bz).cz;go_wp2_with fail
 (try simp only[vAa,vBa,vC])
 refine zl (.pure 0 (zz [1,2,4,5,8,9] (.only 3 (.only 6 (.only 7 (.only 10 (.only 11 (.only 12 .done)))))))) [12] (zsa pd0 (zsa pd1 (zsa pe0 (zsa pe1 (zsa pf0 (zsa pf1 (zsa pg0 (zIa pg1)))))))) ?_;iterate 7 ((first|refine zV ?_|refine zUa ?_);try simp only[Act.put,uX,uY,uZ])
 refine zC 43 rfl rfl (fun K hK=>?_);go_simp
 with_reducible refine(mul_z (I.below h1) (I.below h2r) zo).mono ?_
 rintro e w3 ⟨s3,A3,c3,l3,rfl,h3,m3,b⟩;replace b:=zq (a:=V2) b;replace h1r:=h1r.below b;replace h2:=h2.below b;replace h2r:=h2r.below b;replace Bz:=bT Bz b;clear b;clear pc0 pc1 pc2 pc3 fc0 fc1 fc2 fc3 y2 pd0 pd1 pe0 pe1 pf0 pf1 pg0 pg1;obtain⟨pc0,pc1,pc2,pc3,-⟩:=(zx HX2 Bz).cz;obtain⟨y2,fc0,fc1,fc2,fc3,-⟩:=(zx HX2 Bz).fz;obtain⟨pd0,pd1,-⟩:=(zx HX3 Bz).cz;obtain⟨pe0,pe1,-⟩:=(zx HX4 Bz).cz;obtain⟨pf0,pf1,-⟩:=(zx HX5 Bz).cz;obtain⟨pg0,pg1,-⟩:=(zx HX6 Bz).cz;refine hK.out _ _ ⟨pd0,pd1,pe0,pe1,pf0,pf1,pg0,pg1⟩ (fun _=>?_);try simp only[Act.put,uX,uY,uZ]
 clear hK K;refine zC 46 rfl rfl (fun K hK=>?_);go_simp
 with_reducible refine(mul_z (I.below h2) (I.below h1r) zo).mono ?_
 rintro e w4 ⟨s4,A4,c4,l4,rfl,h4,m4,b⟩;replace b:=zq (a:=w3) b;replace h1r:=h1r.below b;replace h2r:=h2r.below b;replace h3:=h3.below b;replace Bz:=bT Bz b;clear b;clear pc0 pc1 pc2 pc3 fc0 fc1 fc2 fc3 y2 pd0 pd1 pe0 pe1 pf0 pf1 pg0 pg1;obtain⟨pc0,pc1,pc2,pc3,-⟩:=(zx HX2 Bz).cz;obtain⟨y2,fc0,fc1,fc2,fc3,-⟩:=(zx HX2 Bz).fz;obtain⟨pd0,pd1,-⟩:=(zx HX3 Bz).cz;obtain⟨pe0,pe1,-⟩:=(zx HX4 Bz).cz;obtain⟨pf0,pf1,-⟩:=(zx HX5 Bz).cz;obtain⟨pg0,pg1,-⟩:=(zx HX6 Bz).cz;refine hK.out _ _ ⟨pd0,pd1,pe0,pe1,pf0,pf1,pg0,pg1⟩ (fun _=>?_);try simp only[Act.put,uX,uY,uZ]
 clear hK K;refine zC 47 rfl rfl (fun K hK=>?_);go_simp
 with_reducible refine(add_1 (I.below h3.i) (I.below h4.i) zo).mono ?_
 rintro e w5 ⟨s5,A5,c5,l5,rfl,h5,m5,b⟩;replace b:=zq (a:=w4) b;replace h1r:=h1r.below b;replace h2r:=h2r.below b;replace Bz:=bT Bz b;clear b;clear pc0 pc1 pc2 pc3 fc0 fc1 fc2 fc3 y2 pd0 pd1 pe0 pe1 pf0 pf1 pg0 pg1;obtain⟨pc0,pc1,pc2,pc3,-⟩:=(zx HX2 Bz).cz;obtain⟨y2,fc0,fc1,fc2,fc3,-⟩:=(zx HX2 Bz).fz;obtain⟨pd0,pd1,-⟩:=(zx HX3 Bz).cz;obtain⟨pe0,pe1,-⟩:=(zx HX4 Bz).cz;obtain⟨pf0,pf1,-⟩:=(zx HX5 Bz).cz;obtain⟨pg0,pg1,-⟩:=(zx HX6 Bz).cz;refine hK.out _ _ ⟨pd0,pd1,pe0,pe1,pf0,pf1,pg0,pg1⟩ (fun _=>?_);try simp only[Act.put,uX,uY,uZ]
 clear hK K;refine zC 50 rfl rfl (fun K hK=>?_);go_simp
 with_reducible refine(mul_z (I.below h1r) (I.below h2r) zo).mono ?_
 rintro e w6 ⟨s6,A6,c6,l6,rfl,h6,m6,b⟩;replace b:=zq (a:=w5) b;replace h5:=h5.below b;replace Bz:=bT Bz b;clear b;clear pc0 pc1 pc2 pc3 fc0 fc1 fc2 fc3 y2 pd0 pd1 pe0 pe1 pf0 pf1 pg0 pg1;obtain⟨pc0,pc1,pc2,pc3,-⟩:=(zx HX2 Bz).cz;obtain⟨y2,fc0,fc1,fc2,fc3,-⟩:=(zx HX2 Bz).fz;obtain⟨pd0,pd1,-⟩:=(zx HX3 Bz).cz;obtain⟨pe0,pe1,-⟩:=(zx HX4 Bz).cz;obtain⟨pf0,pf1,-⟩:=(zx HX5 Bz).cz;obtain⟨pg0,pg1,-⟩:=(zx HX6 Bz).cz;refine hK.out _ _ ⟨pd0,pd1,pe0,pe1,pf0,pf1,pg0,pg1⟩ (fun _=>?_);try simp only[Act.put,uX,uY,uZ]
 clear hK K;refine zC 51 rfl rfl (fun K hK=>?_);go_simp
 with_reducible refine(lowest_q (I.below h5.i) (I.below h6.i) zo (gG e1 e2) (zt hT hB Bz)).mono ?_
 rintro e w7 ⟨s7,A7,c7,l7,s7r,A7r,c7r,l7r,rfl,h7,b⟩;replace b:=zq (a:=w6) b;replace Bz:=bT Bz b;clear b;have m7:=h7.len;clear pc0 pc1 pc2 pc3 fc0 fc1 fc2 fc3 y2 pd0 pd1 pe0 pe1 pf0 pf1 pg0 pg1;obtain⟨pc0,pc1,pc2,pc3,-⟩:=(zx HX2 Bz).cz;obtain⟨y2,fc0,fc1,fc2,fc3,-⟩:=(zx HX2 Bz).fz;obtain⟨pd0,pd1,-⟩:=(zx HX3 Bz).cz;obtain⟨pe0,pe1,-⟩:=(zx HX4 Bz).cz;obtain⟨pf0,pf1,-⟩:=(zx HX5 Bz).cz;obtain⟨pg0,pg1,-⟩:=(zx HX6 Bz).cz;refine hK.out _ _ ⟨pd0,pd1,pe0,pe1,pf0,pf1,pg0,pg1⟩ (fun _=>?_);try simp only[Act.put,uX,uY,uZ]
 clear hK K;refine wpPlan_late (o:=⟨none,_,_,_,_,_⟩) rfl rfl zd (fun K hK=>?_);go_simp
 refine hK.out _ _ ?_;try simp only[Act.put,uX,uY,uZ]
 clear hK K;refine wpPlan_done ?_;go_wp2_with fail
 have qc0:w7.cell? ⟨w.heap.size+2,0,none⟩=some (.bool false):=pc0;have qc1:w7.cell? ⟨w.heap.size+2,1,none⟩=some (.slice none 0 0):=pc1;have qc2:w7.cell? ⟨w.heap.size+2,2,none⟩=some (.bool false):=pc2;have qc3:w7.cell? ⟨w.heap.size+2,3,none⟩=some (.slice none 0 0):=pc3;(try simp only[Exit.inBlock,Exit.then])
 refine bodyPost_ret (by simp[results,Tryz.results42,go_sem,qc0,qc1,qc2,qc3];try rfl) rfl ?_;obtain⟨V3,hW,x,kk,far,bel⟩:=store4 (.bool s7) (.slice A7 l7 c7) (.bool s7r) (.slice A7r l7r c7r) (zx HX2 Bz) nofun nofun nofun nofun;rw[←hW];clear hW;replace h7:=h7.k kk;replace hB:=bel w.heap.size w zo (bT hB Bz);replace HX0:=zf far HX0 Bz;replace HX1:=zf far HX1 Bz;replace HX3:=zf far HX3 Bz;replace HX4:=zf far HX4 Bz;replace HX5:=zf far HX5 Bz;replace HX6:=zf far HX6 Bz;replace HX2:=zh x;clear x kk far bel Bz;have Bz:=zr V3;have hF:=bT (c:=V3) hB Bz;exact⟨s7,A7,c7,l7,s7r,A7r,c7r,l7r,rfl,by rw[←q1,←q2,←qof_add zo zo];exact(RN.below h7),bT hF⟩
theorem add_both {q r:Rat} {m m':Nat} (h:R w s A c l s' A' c' l' q m) (h':R w t B k e t' B' k' e' r m') (hm:m+m'≤40000000000) (hT:Hid (Tab w)) :
  Calls Tryz.prog 42 #[.agg #[.bool s,.slice A l c,.bool s',.slice A' l' c'],.agg #[.bool t,.slice B e k,.bool t',.slice B' e' k'],.func (.func 43) #[] #[]] w (TellsR w (q+r)):=by
 have hl:=h.len;have hl':=h'.len;by_cases g1:l'=0
 ·by_cases g2:e'=0
  ·obtain⟨n,d,h1,h2,rfl,h4,h5⟩:=h;obtain⟨n',d',h1',h2',rfl,h4',h5'⟩:=h';refine add_both1 (by simp;omega) (by simp;omega) h1 h1' zo (zh ?_) hT;rw[bB g1,bB g2,qof_one,qof_one,qof_one,Rat.intCast_add]
  ·exact add_both2 (by simp;omega) (by simp;omega) h h' hm hT
 ·exact add_both3 (by simp;omega) h h' hm hT
theorem add_q {q r:Rat} {m m':Nat} (h:R w s A c l s' A' c' l' q m) (h':R w t B k e t' B' k' e' r m') (hm:m+m'≤40000000000) (hT:Hid (Tab w)) :
  Calls Tryz.prog 22 #[.agg #[.bool s,.slice A l c,.bool s',.slice A' l' c'],.agg #[.bool t,.slice B e k,.bool t',.slice B' e' k']] w (TellsR w (q+r)):=by
 obtain⟨W,hW,x0,x1,x2,hB⟩:=boxes3 w #[.bool s,.slice A l c,.bool s',.slice A' l' c'] 47 #[.bool t,.slice B e k,.bool t',.slice B' e' k'] 47 #[.bool false,.slice none 0 0,.bool false,.slice none 0 0] 47;replace h:=h.below hB;replace h':=h'.below hB;have HX0:=zh x0;have HX1:=zh x1;have HX2:=zh x2;clear x0 x1 x2;have Bz:=zr W;obtain⟨pa0,pa1,pa2,pa3,-⟩:=(zx HX0 Bz).cz;obtain⟨pb0,pb1,pb2,pb3,-⟩:=(zx HX1 Bz).cz;go_enter Tryz.func22,Tryz.ntmps22
 go_wp2_with fail
 rw[←hW];clear hW;go_wp2_with fail
 with_reducible refine(add_both (R.below h) (R.below h') zo (zt hT hB Bz)).mono ?_
 rintro e w1 ⟨s1,A1,c1,l1,s1r,A1r,c1r,l1r,rfl,h1,b⟩;replace b:=zq (a:=W) b;replace Bz:=bT Bz b;clear b;have m1:=h1.len;clear pa0 pa1 pa2 pa3 pb0 pb1 pb2 pb3;obtain⟨pc0,pc1,pc2,pc3,-⟩:=(zx HX2 Bz).cz;obtain⟨y2,fc0,fc1,fc2,fc3,-⟩:=(zx HX2 Bz).fz;go_wp2_with fail
 have qc0:w1.cell? ⟨w.heap.size+2,0,none⟩=some (.bool false):=pc0;have qc1:w1.cell? ⟨w.heap.size+2,1,none⟩=some (.slice none 0 0):=pc1;have qc2:w1.cell? ⟨w.heap.size+2,2,none⟩=some (.bool false):=pc2;have qc3:w1.cell? ⟨w.heap.size+2,3,none⟩=some (.slice none 0 0):=pc3;(try simp only[Exit.inBlock,Exit.then])
 refine bodyPost_ret (by simp[results,Tryz.results22,go_sem,qc0,qc1,qc2,qc3];try rfl) rfl ?_;obtain⟨V1,hW,x,kk,far,bel⟩:=store4 (.bool s1) (.slice A1 l1 c1) (.bool s1r) (.slice A1r l1r c1r) (zx HX2 Bz) nofun nofun nofun nofun;rw[←hW];clear hW;replace h1:=h1.k kk;replace hB:=bel w.heap.size w zo (bT hB Bz);replace HX0:=zf far HX0 Bz;replace HX1:=zf far HX1 Bz;replace HX2:=zh x;clear x kk far bel Bz;have Bz:=zr V1;have hF:=bT (c:=V1) hB Bz;exact⟨s1,A1,c1,l1,s1r,A1r,c1r,l1r,rfl,(RN.below h1),bT hF⟩
theorem cmpQ_zero (q r:Rat):(cmpQ q r==0)=decide (q=r):=by
 unfold cmpQ
 by_cases h:q<r
 ·have:q≠r:=Rat.ne_of_lt h;rw[bB h,yA this];rfl
 ·rw[dA h];by_cases e:q=r
  ·rw[bB e,jA e];rfl
  ·rw[dA e,yA e];rfl
theorem same_q {q r:Rat} {m m':Nat} (h:R w s A c l s' A' c' l' q m) (h':R w t B k e t' B' k' e' r m') (hm:m+m'≤40000000000) (b:Bool) (hb:Hid (decide (q=r)=b)) :
  Calls Tryz.prog 12 #[.agg #[.bool s,.slice A l c,.bool s',.slice A' l' c'],.agg #[.bool t,.slice B e k,.bool t',.slice B' e' k']] w fun e w'=>e=.returned (.bool b)∧Below w.heap.size w w':=by
 obtain⟨z,HZ⟩:∃z,Hid (cmpQ q r=z):=⟨_,zh rfl⟩;have g1:(z==0)=b:=by rw[←HZ.out,cmpQ_zero];exact hb.out
 obtain⟨W,hW,x0,x1,hB⟩:=zAh w #[.bool s,.slice A l c,.bool s',.slice A' l' c'] 47 #[.bool t,.slice B e k,.bool t',.slice B' e' k'] 47;replace h:=h.below hB;replace h':=h'.below hB;have HX0:=zh x0;have HX1:=zh x1;clear x0 x1;have Bz:=zr W;obtain⟨pa0,pa1,pa2,pa3,-⟩:=(zx HX0 Bz).cz;obtain⟨pb0,pb1,pb2,pb3,-⟩:=(zx HX1 Bz).cz;go_enter Tryz.func12,Tryz.ntmps12
 go_wp2_with fail
 rw[←hW];clear hW;go_wp2_with fail
 with_reducible refine(cmp_q (R.below h) (R.below h') zo z HZ).mono ?_
 rintro e w1 ⟨rfl,j⟩;replace j:=zq (a:=W) j;replace Bz:=bT Bz j;clear j;clear pa0 pa1 pa2 pa3 pb0 pb1 pb2 pb3;go_wp2_with fail
 go_ret
 have hF:=bT (c:=w1) hB Bz;exact⟨rfl,bT hF⟩
theorem sign_0 {n d:Int} (hn:I w s A c l n) (_hd:I w s' A' c' l' d) (hl:l≤800000000000) (_hl':l'≤800000000000) (_g1:decide ((0:Int)<(l':Int))=false) (g2:decide (0<l')=false) (x:Int) (HX:Hid (n.sign=x)) :
  Calls Tryz.prog 86 #[.agg #[.bool s,.slice A l c,.bool s',.slice A' l' c']] w fun e w'=>e=.returned (.int .i64 x)∧Below w.heap.size w w':=by
 obtain⟨W,hW,x0,hB⟩:=zAb w #[.bool s,.slice A l c,.bool s',.slice A' l' c'] 47;replace hn:=hn.below hB;have HX0:=zh x0;clear x0;have Bz:=zr W;obtain⟨pa0,pa1,-⟩:=(zx HX0 Bz).cz;go_enter Tryz.func86,Tryz.ntmps86
 go_wp2_with fail
 rw[←hW];clear hW;go_wp2_with fail
 with_reducible refine(sign_z (I.below hn) zo x HX.out).mono ?_
 rintro e w1 ⟨rfl,q⟩;replace q:=zq (a:=W) q;replace Bz:=bT Bz q;clear q;clear pa0 pa1;have pa3:=(zx HX0 Bz).cell 3 (.slice A' l' c') rfl;go_wp2_with fail
 go_ret
 have hF:=bT (c:=w1) hB Bz;exact⟨rfl,bT hF⟩
theorem sign_1 {n d:Int} (hn:I w s A c l n) (hd:I w s' A' c' l' d) (hl:l≤800000000000) (hl':l'≤800000000000) (_g1:decide ((0:Int)<(l':Int))=true) (g2:decide (0<l')=true) (x y z:Int) (HX:Hid (n.sign=x)) (HY:Hid (d.sign=y)) (u1:IntKind.i64.wrap (x*y)=z) (_v1:wrap64 (x*y)=z) :
  Calls Tryz.prog 86 #[.agg #[.bool s,.slice A l c,.bool s',.slice A' l' c']] w fun e w'=>e=.returned (.int .i64 z)∧Below w.heap.size w w':=by
 obtain⟨W,hW,x0,hB⟩:=zAb w #[.bool s,.slice A l c,.bool s',.slice A' l' c'] 47;replace hd:=hd.below hB;replace hn:=hn.below hB;have HX0:=zh x0;clear x0;have Bz:=zr W;obtain⟨pa0,pa1,-⟩:=(zx HX0 Bz).cz;go_enter Tryz.func86,Tryz.ntmps86
 go_wp2_with fail
 rw[←hW];clear hW;go_wp2_with fail
 with_reducible refine(sign_z (I.below hn) zo x HX.out).mono ?_
 rintro e w1 ⟨rfl,q⟩;replace q:=zq (a:=W) q;replace hd:=hd.below q;replace Bz:=bT Bz q;clear q;clear pa0 pa1;obtain⟨-,-,pa2,pa3,-⟩:=(zx HX0 Bz).cz;go_wp2_with fail
 with_reducible refine(sign_z (I.below hd) zo y HY.out).mono ?_
 rintro e w2 ⟨rfl,q⟩;replace q:=zq (a:=w1) q;replace Bz:=bT Bz q;clear q;clear pa2 pa3;go_wp2_with fail
 go_ret
 have hF:=bT (c:=w2) hB Bz;exact⟨rfl,bT hF⟩
theorem sign_q {q:Rat} {m:Nat} (h:R w s A c l s' A' c' l' q m) (hm:m≤800000000000) (z:Int) (hz:Hid (q.num.sign=z)) :
  Calls Tryz.prog 86 #[.agg #[.bool s,.slice A l c,.bool s',.slice A' l' c']] w fun e w'=>e=.returned (.int .i64 z)∧Below w.heap.size w w':=by
 have hl:=h.len;obtain⟨n,d,h1,h2,rfl,h4,h5⟩:=h;by_cases g1:l'=0
 ·have hz:=hz.out;rw[bB g1,qof_one] at hz;exact sign_0 h1 h2 zo zo (by simp;omega) (by simp;omega) z (zh hz)
 ·have hz:=hz.out;rw[dA g1,sign_mulq] at hz;have b1:=sign_range n;have b2:=sign_range d;have b3:-1≤n.sign*d.sign∧n.sign*d.sign≤1:=by
   obtain e | e | e:n.sign = -1∨n.sign=0∨n.sign=1:=zo;all_goals rw[e];omega
  exact sign_1 h1 h2 zo zo (by simp;omega) (by simp;omega) _ _ z (zh rfl) (zh rfl) (by rw[IntWalk.i64_in _ zo];exact hz) (by rw[IntWalk.wrap64_in _ ⟨zo,zo⟩];exact hz)
end
theorem Nums.inj {w:World} {A:Option Addr} {c c':Nat} {xs ys:List Nat} (h:Nums w A c xs) (h':Nums w A c' ys) (hl:xs.length=ys.length):xs=ys:=by
 apply jF 
 intro i;rcases eB i xs.length with hi | hi
 ·rw[dg_get hi,dg_get zo];obtain⟨b,off,rfl,hc⟩:=h.cells zo;obtain⟨b',off',e,hc'⟩:=h'.cells zo;cases e;have h1:=hc i hi;rw[hc' i zo] at h1;simp only[Option.some.injEq,Value.int.injEq,true_and] at h1
  congr 1
  omega
 ·rw[cB hi,cB zo]
theorem dg_ext {xs ys:List Nat} (hl:xs.length=ys.length) (h:∀j,j<xs.length→dg xs j=dg ys j):xs=ys:=by
 apply jF
 intro i;rcases eB i xs.length with hi | hi
 ·rw[dg_get hi,dg_get zo,h i hi]
 ·rw[cB hi,cB zo]
def EQ1 (w:World) (xs ys:List Nat) (n gk:Nat) (s:Value) (wr:World):Prop:=∃i:Nat,i≤n∧n-i=gk∧s=.int .i64 (i:Int)∧Below w.heap.size w wr∧∀j,j<i→dg xs j=dg ys j
def Dx (w:World) (A:Option Addr) (c l:Nat) (xs:List Nat):Prop:=Nums w A c xs∧xs.length=l
theorem Dx.below {w w':World} {A:Option Addr} {c l:Nat} {xs:List Nat} (h:Dx w A c l xs) (hb:Below w.heap.size w w':=by go_grown):Dx w' A c l xs:=⟨h.1.below hb,h.2⟩
theorem Dx.k {w w':World} {A:Option Addr} {c l:Nat} {xs:List Nat} (h:Dx w A c l xs) (hb:K64 w w'):Dx w' A c l xs:=⟨h.1.k hb,h.2⟩
theorem Dx.inj {w:World} {A:Option Addr} {c c' l:Nat} {xs ys:List Nat} (h:Dx w A c l xs) (h':Dx w A c' l ys):xs=ys:=h.1.inj h'.1 (h.2.trans h'.2.symm)
theorem J.dx {w:World} {b:Bool} {A:Option Addr} {c l:Nat} {z:Int} (h:J w b A c l z):Dx w A c l (limbs z.natAbs):=⟨h.1.1,h.1.2⟩
theorem R.dx {w:World} {s s':Bool} {A A':Option Addr} {c c' l l' m:Nat} {q:Rat} (h:R w s A c l s' A' c' l' q m):∃xs ys,Dx w A c l xs∧Dx w A' c' l' ys:=by
 obtain⟨n,d,⟨_,⟨xs,h1,h2,_⟩,_⟩,⟨_,⟨ys,h3,h4,_⟩,_⟩,_⟩:=h;exact⟨xs,ys,⟨h1,h2⟩,⟨h3,h4⟩⟩
def exB (s:Bool) (xs:List Nat) (s':Bool) (ys:List Nat) (q:Rat):Bool:=((s==decide (q.num<0))&&decide (xs=limbs q.num.natAbs))&&((s'==decide (dn q<0))&&decide (ys=limbs (dn q).natAbs))
theorem J.sg {w:World} {b:Bool} {A:Option Addr} {c l:Nat} {z:Int} (h:J w b A c l z):b=decide (z<0):=h.2
theorem RN.n {w:World} {s s':Bool} {A A':Option Addr} {c c' l l':Nat} {q:Rat} (h:RN w s A c l s' A' c' l' q):J w s A c l q.num:=h.1
theorem RN.d {w:World} {s s':Bool} {A A':Option Addr} {c c' l l':Nat} {q:Rat} (h:RN w s A c l s' A' c' l' q):J w s' A' c' l' (dn q):=h.2
theorem exB_iff {w:World} {s s':Bool} {A A':Option Addr} {c c' l l':Nat} {q:Rat} {xs ys:List Nat} (h:Dx w A c l xs) (h':Dx w A' c' l' ys):exB s xs s' ys q=true↔RN w s A c l s' A' c' l' q:=by
 unfold exB
 simp only[dB,beq_iff_eq,wB]
 constructor
 ·rintro⟨⟨rfl,rfl⟩,rfl,rfl⟩;exact⟨⟨⟨h.1,h.2⟩,rfl⟩,⟨⟨h'.1,h'.2⟩,rfl⟩⟩
 ·rintro⟨h1,h2⟩;exact⟨⟨h1.2,h.inj h1.dx⟩,h2.2,h'.inj h2.dx⟩
theorem equal_any {w:World} {A A':Option Addr} {c c':Nat} {xs ys:List Nat} (h:Nums w A c xs) (h':Nums w A' c' ys) (hl:xs.length≤800000000000) (hl':ys.length≤800000000000) (t:Bool) (ht:decide (xs=ys)=t) :
  Calls Tryz.prog 135 #[.slice A xs.length c,.slice A' ys.length c'] w fun e w'=>e=.returned (.bool t)∧Below w.heap.size w w':=by
 by_cases hn:xs.length=ys.length
 ·obtain⟨n,hn1⟩:∃n,n=xs.length:=⟨_,rfl⟩;rw[←hn,←hn1];rw[←hn1] at hl;have H:=zh h;have H':=zh h';have HN:=zh hn;have HN1:=zh hn1;have HT:=zh ht;have hst:EQ1 w xs ys n n (.int .i64 ((0:Nat):Int)) w:=⟨0,uA _,rfl,rfl,Below.refl _ _,fun j hj=>by omega⟩;have HST:=zh hst;clear h h' hn hn1 ht hst hl';go_enter Tryz.func135,Tryz.ntmps135
  go_wp2_with fail
  go_loopg [13] n (fun gk s wr=>EQ1 w xs ys n gk s wr)
  case atStart=>exact HST.out
  case round =>
   clear HST;obtain⟨i,hi,hgk,rfl,hB,hd⟩:=hrel;have HGK:=zh hgk;have HD:=zh hd;clear hgk hd;by_cases hlt:i<n
   ·obtain⟨b1,o1,rfl,e1⟩:=H.out.cells (by rw[←HN1.out];omega);obtain⟨b2,o2,rfl,e2⟩:=H'.out.cells (by rw[←HN.out,←HN1.out];omega);replace e1:=e1 i (by rw[←HN1.out];exact hlt);replace e2:=e2 i (by rw[←HN.out,←HN1.out];exact hlt);obtain⟨d1,h1⟩:∃d,d=dg xs i:=⟨_,rfl⟩;obtain⟨d2,h2⟩:∃d,d=dg ys i:=⟨_,rfl⟩;rw[←h1] at e1;rw[←h2] at e2;have D1:=zh h1;have D2:=zh h2;replace e1:=(hB.cell (World.block_lt_of_cell? w _ e1)).trans e1;replace e2:=(hB.cell (World.block_lt_of_cell? w _ e2)).trans e2;have i1:(i:Int)<(n:Int):=zo;have i2:(0:Int)≤(i:Int):=zo;clear h1 h2;by_cases he:d1=d2
    ·have g1:((d1:Int) !=(d2:Int))=false:=by simp[he]
     have HE:=zh he;clear he;have Bz:=zr wr;have pB0:=(Bz.cell (World.block_lt_of_cell? wr _ e1)).trans e1;have pC0:=(Bz.cell (World.block_lt_of_cell? wr _ e2)).trans e2;go_wp2_with fail
     (try simp only[vAa,vBa,vC])
     refine zl (zz [0,1,2,3,4,5,6,7,8] .done) [] (zsa pB0 (zIa pC0)) ?_;iterate 9 (refine zUa ?_;try simp only[Act.put,uX,uY,uZ])
     refine wpPlan_done ?_;go_wp2_with fail
     go_roundg (n-(i+1))
     case measure=>have:=HGK.out;omega
     case rel=>exact⟨i+1,zo,rfl,by go_num,bT (bT hB Bz),fun j hj=>by
      rcases eB j i with h1 | h1
      ·exact HD.out j h1
      ·obtain rfl:j=i:=zo;rw[←D1.out,←D2.out];exact HE.out⟩
    ·have g1:((d1:Int) !=(d2:Int))=true:=by simp;omega
     have HE:=zh he;clear he;have Bz:=zr wr;have pB0:=(Bz.cell (World.block_lt_of_cell? wr _ e1)).trans e1;have pC0:=(Bz.cell (World.block_lt_of_cell? wr _ e2)).trans e2;go_wp2_with fail
     (try simp only[vAa,vBa,vC])
     refine zl (zz [0,1,2,3,4,5,6,7,8] .done) [] (zsa pB0 (zIa pC0)) ?_;iterate 9 (refine zUa ?_;try simp only[Act.put,uX,uY,uZ])
     refine wpPlan_done ?_;go_wp2_with fail
     go_ret
     have hF:=bT (c:=wr) hB Bz;obtain rfl:t=false:=by rw[←HT.out];simp;intro e;apply HE.out;rw[D1.out,D2.out,e]
     exact⟨rfl,bT (bT hB Bz)⟩
   ·obtain rfl:i=n:=zo;have i1:¬(i:Int)<(i:Int):=zo;obtain rfl:t=true:=by rw[←HT.out];simp;exact dg_ext HN.out (by rw[←HN1.out];exact HD.out)
    go_wp2_with fail
    go_ret
    exact⟨rfl,hB⟩
 ·obtain rfl:t=false:=by rw[←ht];simp;rintro rfl;exact hn rfl
  have g1:((xs.length:Int) !=(ys.length:Int))=true:=by simp;omega
  clear ht h h' hn;go_enter Tryz.func135,Tryz.ntmps135
  go_wp2_with fail
  go_ret
  exact⟨rfl,Below.refl _ _⟩
theorem equal_i {w:World} {A A':Option Addr} {c c' l l':Nat} {xs ys:List Nat} (h:Dx w A c l xs) (h':Dx w A' c' l' ys) (hl:l≤800000000000) (hl':l'≤800000000000) (t:Bool) (ht:Hid (decide (xs=ys)=t)) :
  Calls Tryz.prog 135 #[.slice A l c,.slice A' l' c'] w fun e w'=>e=.returned (.bool t)∧Below w.heap.size w w':=by
 obtain⟨h1,rfl⟩:=h;obtain⟨h2,rfl⟩:=h';exact equal_any h1 h2 hl hl' t ht.out
theorem ex1_shapes {w:World} {s s':Bool} {A A':Option Addr} {c c' l l':Nat} {xs ys:List Nat} (h:Dx w A c l xs) (h':Dx w A' c' l' ys) (hl:l≤800000000000) (hl':l'≤800000000000) (t:Bool) (ht:((s==s')&&decide (xs=ys))=t) :
  Calls Tryz.prog 134 #[.agg #[.bool s,.slice A l c],.agg #[.bool s',.slice A' l' c']] w fun e w'=>e=.returned (.bool t)∧Below w.heap.size w w':=by
 obtain⟨u,HU⟩:∃u,Hid (decide (xs=ys)=u):=⟨_,zh rfl⟩;rw[HU.out] at ht;by_cases e:s=s'
 ·subst e;obtain rfl:u=t:=by rw[←ht];simp
  clear ht;obtain⟨W,hW,x0,x1,hB⟩:=zAh w #[.bool s,.slice A l c] 45 #[.bool s,.slice A' l' c'] 45;replace h:=h.below hB;replace h':=h'.below hB;have HX0:=zh x0;have HX1:=zh x1;clear x0 x1;have Bz:=zr W;obtain⟨pa0,pa1,-⟩:=(zx HX0 Bz).cz;obtain⟨pb0,pb1,-⟩:=(zx HX1 Bz).cz;go_enter Tryz.func134,Tryz.ntmps134
  go_wp2_with fail
  rw[←hW];clear hW;go_wp2_with fail
  with_reducible refine(equal_i (Dx.below h) (Dx.below h') zo zo u HU).mono ?_
  rintro e w1 ⟨rfl,q⟩;replace q:=zq (a:=W) q;replace Bz:=bT Bz q;clear q;clear pa0 pa1 pb0 pb1;go_wp2_with fail
  go_ret
  have hF:=bT (c:=w1) hB Bz;exact⟨rfl,bT hF⟩
 ·have g1:(s==s')=false:=by simpa using e
  obtain rfl:t=false:=by rw[←ht,g1];rfl
  clear ht e;obtain⟨W,hW,x0,x1,hB⟩:=zAh w #[.bool s,.slice A l c] 45 #[.bool s',.slice A' l' c'] 45;have HX0:=zh x0;have HX1:=zh x1;clear x0 x1;have Bz:=zr W;have pa0:=(zx HX0 Bz).cell 0 (.bool s) rfl;have pb0:=(zx HX1 Bz).cell 0 (.bool s') rfl;go_enter Tryz.func134,Tryz.ntmps134
  go_wp2_with fail
  rw[←hW];clear hW;go_wp2_with fail
  go_ret
  have hF:=bT (c:=W) hB Bz;exact⟨rfl,bT hF⟩
theorem ex1_sparse {w:World} {s s':Bool} {A A':Option Addr} {c c' l l':Nat} {xs ys:List Nat} (h:Dx w A c l xs) (h':Dx w A' c' l' ys) (hl:l≤800000000000) (hl':l'≤800000000000) (t:Bool) (ht:((s==s')&&decide (xs=ys))=t) :
  Calls Tryz.prog 144 #[.agg #[.bool s,.slice A l c],.agg #[.bool s',.slice A' l' c']] w fun e w'=>e=.returned (.bool t)∧Below w.heap.size w w':=by
 obtain⟨u,HU⟩:∃u,Hid (decide (xs=ys)=u):=⟨_,zh rfl⟩;rw[HU.out] at ht;by_cases e:s=s'
 ·subst e;obtain rfl:u=t:=by rw[←ht];simp
  clear ht;obtain⟨W,hW,x0,x1,hB⟩:=zAh w #[.bool s,.slice A l c] 45 #[.bool s,.slice A' l' c'] 45;replace h:=h.below hB;replace h':=h'.below hB;have HX0:=zh x0;have HX1:=zh x1;clear x0 x1;have Bz:=zr W;obtain⟨pa0,pa1,-⟩:=(zx HX0 Bz).cz;obtain⟨pb0,pb1,-⟩:=(zx HX1 Bz).cz;go_enter Tryz.func144,Tryz.ntmps144
  go_wp2_with fail
  rw[←hW];clear hW;go_wp2_with fail
  with_reducible refine(equal_i (Dx.below h) (Dx.below h') zo zo u HU).mono ?_
  rintro e w1 ⟨rfl,q⟩;replace q:=zq (a:=W) q;replace Bz:=bT Bz q;clear q;clear pa0 pa1 pb0 pb1;go_wp2_with fail
  go_ret
  have hF:=bT (c:=w1) hB Bz;exact⟨rfl,bT hF⟩
 ·have g1:(s==s')=false:=by simpa using e
  obtain rfl:t=false:=by rw[←ht,g1];rfl
  clear ht e;obtain⟨W,hW,x0,x1,hB⟩:=zAh w #[.bool s,.slice A l c] 45 #[.bool s',.slice A' l' c'] 45;have HX0:=zh x0;have HX1:=zh x1;clear x0 x1;have Bz:=zr W;have pa0:=(zx HX0 Bz).cell 0 (.bool s) rfl;have pb0:=(zx HX1 Bz).cell 0 (.bool s') rfl;go_enter Tryz.func144,Tryz.ntmps144
  go_wp2_with fail
  rw[←hW];clear hW;go_wp2_with fail
  go_ret
  have hF:=bT (c:=W) hB Bz;exact⟨rfl,bT hF⟩
theorem exact_shapes {w:World} {s s':Bool} {A A':Option Addr} {c c' l l' m:Nat} {q:Rat} {xs ys:List Nat} (h:R w s A c l s' A' c' l' q m) (dx1:Dx w A c l xs) (dx2:Dx w A' c' l' ys) (hm:m≤40000000000) (t:Bool) (ht:Hid (exB s xs s' ys q=t)) (hT:Hid (Tab w)) :
  Calls Tryz.prog 118 #[.agg #[.bool s,.slice A l c,.bool s',.slice A' l' c']] w fun e w'=>e=.returned (.bool t)∧Below w.heap.size w w':=by
 have hlen:=h.len;have hsz:=h.sz;obtain⟨t2,HT2⟩:∃t2,Hid (((s'==decide (dn q<0))&&decide (ys=limbs (dn q).natAbs))=t2):=⟨_,zh rfl⟩;obtain⟨t1,HT1⟩:∃t1,Hid (((s==decide (q.num<0))&&decide (xs=limbs q.num.natAbs))=t1):=⟨_,zh rfl⟩;have ht':(t1&&t2)=t:=by rw[←HT1.out,←HT2.out];exact ht.out
 clear ht;cases t1
 ·obtain rfl:t=false:=by rw[←ht'];rfl
  clear ht';obtain⟨W,hW,x0,hB⟩:=zAb w #[.bool s,.slice A l c,.bool s',.slice A' l' c'] 47;replace h:=h.below hB;replace dx1:=dx1.below hB;have HX0:=zh x0;clear x0;have Bz:=zr W;obtain⟨pa0,pa1,pa2,pa3,-⟩:=(zx HX0 Bz).cz;go_enter Tryz.func118,Tryz.ntmps118
  go_wp2_with fail
  rw[←hW];clear hW;go_wp2_with fail
  with_reducible refine(norm_q (R.below h) zo (zt hT hB Bz)).mono ?_
  rintro e w1 ⟨s1,A1,c1,l1,s1r,A1r,c1r,l1r,rfl,h1,b⟩;replace b:=zq (a:=W) b;replace dx1:=dx1.below b;replace Bz:=bT Bz b;clear b;have m1:=h1.len;have SGn:=zh (J.sg (RN.n h1));have SGd:=zh (J.sg (RN.d h1));clear pa0 pa1 pa2 pa3;go_upto_region 3 with(fail)
  obtain⟨V1,hW,x1,hN⟩:=zAb w1 #[.bool s1,.slice A1 l1 c1,.bool s1r,.slice A1r l1r c1r] 47;rw[←hW];clear hW;obtain⟨v1,hb1⟩:=ze w1.heap.size;rw[←hb1] at x1 ⊢;have ow_1:w.heap.size≤v1:=zi (zw hB Bz);replace h1:=h1.below hN;replace dx1:=dx1.below hN;replace hB:=bT (bT hB Bz) hN;replace HX0:=zba HX0 Bz hN;have HX1:=zh x1;clear x1 hN Bz hb1;have Bz:=zr V1;obtain⟨pa0,pa1,-⟩:=(zx HX0 Bz).cz;obtain⟨pb0,pb1,-⟩:=(zx HX1 Bz).cz;go_wp2_with fail
  with_reducible refine(ex1_shapes (Dx.below dx1) (J.dx (RN.n (RN.below h1))) zo zo false (by rw[SGn.out];exact HT1.out)).mono ?_
  rintro e w2 ⟨rfl,b⟩;replace b:=zq (a:=V1) b;replace Bz:=bT Bz b;clear b;clear pa0 pa1 pb0 pb1;go_wp2_with fail
  go_ret
  have hF:=bT (c:=w2) hB Bz;exact⟨rfl,bT hF⟩
 ·obtain rfl:t=t2:=by rw[←ht'];simp
  clear ht';obtain⟨W,hW,x0,hB⟩:=zAb w #[.bool s,.slice A l c,.bool s',.slice A' l' c'] 47;replace h:=h.below hB;replace dx2:=dx2.below hB;replace dx1:=dx1.below hB;have HX0:=zh x0;clear x0;have Bz:=zr W;obtain⟨pa0,pa1,pa2,pa3,-⟩:=(zx HX0 Bz).cz;go_enter Tryz.func118,Tryz.ntmps118
  go_wp2_with fail
  rw[←hW];clear hW;go_wp2_with fail
  with_reducible refine(norm_q (R.below h) zo (zt hT hB Bz)).mono ?_
  rintro e w1 ⟨s1,A1,c1,l1,s1r,A1r,c1r,l1r,rfl,h1,b⟩;replace b:=zq (a:=W) b;replace dx2:=dx2.below b;replace dx1:=dx1.below b;replace Bz:=bT Bz b;clear b;have m1:=h1.len;have SGn:=zh (J.sg (RN.n h1));have SGd:=zh (J.sg (RN.d h1));clear pa0 pa1 pa2 pa3;go_upto_region 3 with(fail)
  obtain⟨V1,hW,x1,hN⟩:=zAb w1 #[.bool s1,.slice A1 l1 c1,.bool s1r,.slice A1r l1r c1r] 47;rw[←hW];clear hW;obtain⟨v1,hb1⟩:=ze w1.heap.size;rw[←hb1] at x1 ⊢;have ow_1:w.heap.size≤v1:=zi (zw hB Bz);replace h1:=h1.below hN;replace dx2:=dx2.below hN;replace dx1:=dx1.below hN;replace hB:=bT (bT hB Bz) hN;replace HX0:=zba HX0 Bz hN;have HX1:=zh x1;clear x1 hN Bz hb1;have Bz:=zr V1;obtain⟨pa0,pa1,-⟩:=(zx HX0 Bz).cz;obtain⟨pb0,pb1,-⟩:=(zx HX1 Bz).cz;go_wp2_with fail
  with_reducible refine(ex1_shapes (Dx.below dx1) (J.dx (RN.n (RN.below h1))) zo zo true (by rw[SGn.out];exact HT1.out)).mono ?_
  rintro e w2 ⟨rfl,b⟩;replace b:=zq (a:=V1) b;replace h1:=h1.below b;replace dx2:=dx2.below b;replace Bz:=bT Bz b;clear b;clear pa0 pa1 pb0 pb1;obtain⟨-,-,pa2,pa3,-⟩:=(zx HX0 Bz).cz;obtain⟨-,-,pb2,pb3,-⟩:=(zx HX1 Bz).cz;go_wp2_with fail
  with_reducible refine(ex1_shapes (Dx.below dx2) (J.dx (RN.d (RN.below h1))) zo zo t (by rw[SGd.out];exact HT2.out)).mono ?_
  rintro e w3 ⟨rfl,b⟩;replace b:=zq (a:=w2) b;replace Bz:=bT Bz b;clear b;clear pa2 pa3 pb2 pb3;go_wp2_with fail
  go_ret
  have hF:=bT (c:=w3) hB Bz;exact⟨rfl,bT hF⟩
theorem exact_sparse {w:World} {s s':Bool} {A A':Option Addr} {c c' l l' m:Nat} {q:Rat} {xs ys:List Nat} (h:R w s A c l s' A' c' l' q m) (dx1:Dx w A c l xs) (dx2:Dx w A' c' l' ys) (hm:m≤40000000000) (t:Bool) (ht:Hid (exB s xs s' ys q=t)) (hT:Hid (Tab w)) :
  Calls Tryz.prog 133 #[.agg #[.bool s,.slice A l c,.bool s',.slice A' l' c']] w fun e w'=>e=.returned (.bool t)∧Below w.heap.size w w':=by
 have hlen:=h.len;have hsz:=h.sz;obtain⟨t2,HT2⟩:∃t2,Hid (((s'==decide (dn q<0))&&decide (ys=limbs (dn q).natAbs))=t2):=⟨_,zh rfl⟩;obtain⟨t1,HT1⟩:∃t1,Hid (((s==decide (q.num<0))&&decide (xs=limbs q.num.natAbs))=t1):=⟨_,zh rfl⟩;have ht':(t1&&t2)=t:=by rw[←HT1.out,←HT2.out];exact ht.out
 clear ht;cases t1
 ·obtain rfl:t=false:=by rw[←ht'];rfl
  clear ht';obtain⟨W,hW,x0,hB⟩:=zAb w #[.bool s,.slice A l c,.bool s',.slice A' l' c'] 47;replace h:=h.below hB;replace dx1:=dx1.below hB;have HX0:=zh x0;clear x0;have Bz:=zr W;obtain⟨pa0,pa1,pa2,pa3,-⟩:=(zx HX0 Bz).cz;go_enter Tryz.func133,Tryz.ntmps133
  go_wp2_with fail
  rw[←hW];clear hW;go_wp2_with fail
  with_reducible refine(norm_q (R.below h) zo (zt hT hB Bz)).mono ?_
  rintro e w1 ⟨s1,A1,c1,l1,s1r,A1r,c1r,l1r,rfl,h1,b⟩;replace b:=zq (a:=W) b;replace dx1:=dx1.below b;replace Bz:=bT Bz b;clear b;have m1:=h1.len;have SGn:=zh (J.sg (RN.n h1));have SGd:=zh (J.sg (RN.d h1));clear pa0 pa1 pa2 pa3;go_upto_region 3 with(fail)
  obtain⟨V1,hW,x1,hN⟩:=zAb w1 #[.bool s1,.slice A1 l1 c1,.bool s1r,.slice A1r l1r c1r] 47;rw[←hW];clear hW;obtain⟨v1,hb1⟩:=ze w1.heap.size;rw[←hb1] at x1 ⊢;have ow_1:w.heap.size≤v1:=zi (zw hB Bz);replace h1:=h1.below hN;replace dx1:=dx1.below hN;replace hB:=bT (bT hB Bz) hN;replace HX0:=zba HX0 Bz hN;have HX1:=zh x1;clear x1 hN Bz hb1;have Bz:=zr V1;obtain⟨pa0,pa1,-⟩:=(zx HX0 Bz).cz;obtain⟨pb0,pb1,-⟩:=(zx HX1 Bz).cz;go_wp2_with fail
  with_reducible refine(ex1_sparse (Dx.below dx1) (J.dx (RN.n (RN.below h1))) zo zo false (by rw[SGn.out];exact HT1.out)).mono ?_
  rintro e w2 ⟨rfl,b⟩;replace b:=zq (a:=V1) b;replace Bz:=bT Bz b;clear b;clear pa0 pa1 pb0 pb1;go_wp2_with fail
  go_ret
  have hF:=bT (c:=w2) hB Bz;exact⟨rfl,bT hF⟩
 ·obtain rfl:t=t2:=by rw[←ht'];simp
  clear ht';obtain⟨W,hW,x0,hB⟩:=zAb w #[.bool s,.slice A l c,.bool s',.slice A' l' c'] 47;replace h:=h.below hB;replace dx2:=dx2.below hB;replace dx1:=dx1.below hB;have HX0:=zh x0;clear x0;have Bz:=zr W;obtain⟨pa0,pa1,pa2,pa3,-⟩:=(zx HX0 Bz).cz;go_enter Tryz.func133,Tryz.ntmps133
  go_wp2_with fail
  rw[←hW];clear hW;go_wp2_with fail
  with_reducible refine(norm_q (R.below h) zo (zt hT hB Bz)).mono ?_
  rintro e w1 ⟨s1,A1,c1,l1,s1r,A1r,c1r,l1r,rfl,h1,b⟩;replace b:=zq (a:=W) b;replace dx2:=dx2.below b;replace dx1:=dx1.below b;replace Bz:=bT Bz b;clear b;have m1:=h1.len;have SGn:=zh (J.sg (RN.n h1));have SGd:=zh (J.sg (RN.d h1));clear pa0 pa1 pa2 pa3;go_upto_region 3 with(fail)
  obtain⟨V1,hW,x1,hN⟩:=zAb w1 #[.bool s1,.slice A1 l1 c1,.bool s1r,.slice A1r l1r c1r] 47;rw[←hW];clear hW;obtain⟨v1,hb1⟩:=ze w1.heap.size;rw[←hb1] at x1 ⊢;have ow_1:w.heap.size≤v1:=zi (zw hB Bz);replace h1:=h1.below hN;replace dx2:=dx2.below hN;replace dx1:=dx1.below hN;replace hB:=bT (bT hB Bz) hN;replace HX0:=zba HX0 Bz hN;have HX1:=zh x1;clear x1 hN Bz hb1;have Bz:=zr V1;obtain⟨pa0,pa1,-⟩:=(zx HX0 Bz).cz;obtain⟨pb0,pb1,-⟩:=(zx HX1 Bz).cz;go_wp2_with fail
  with_reducible refine(ex1_sparse (Dx.below dx1) (J.dx (RN.n (RN.below h1))) zo zo true (by rw[SGn.out];exact HT1.out)).mono ?_
  rintro e w2 ⟨rfl,b⟩;replace b:=zq (a:=V1) b;replace h1:=h1.below b;replace dx2:=dx2.below b;replace Bz:=bT Bz b;clear b;clear pa0 pa1 pb0 pb1;obtain⟨-,-,pa2,pa3,-⟩:=(zx HX0 Bz).cz;obtain⟨-,-,pb2,pb3,-⟩:=(zx HX1 Bz).cz;go_wp2_with fail
  with_reducible refine(ex1_sparse (Dx.below dx2) (J.dx (RN.d (RN.below h1))) zo zo t (by rw[SGd.out];exact HT2.out)).mono ?_
  rintro e w3 ⟨rfl,b⟩;replace b:=zq (a:=w2) b;replace Bz:=bT Bz b;clear b;clear pa2 pa3 pb2 pb3;go_wp2_with fail
  go_ret
  have hF:=bT (c:=w3) hB Bz;exact⟨rfl,bT hF⟩
def minQ (q r:Rat):Rat:=if r<q then r else q
def maxQ (q r:Rat):Rat:=if q<r then r else q
theorem cmpQ_gt (q r:Rat):0<cmpQ q r↔r<q:=by
 unfold cmpQ
 by_cases h:q<r
 ·rw[bB h];exact⟨fun e=>zo,fun e=>absurd e (Rat.not_lt.2 (Rat.le_of_lt h))⟩
 ·rw[dA h];by_cases e:q=r
  ·subst e;rw[bB rfl];exact⟨fun e=>zo,fun e=>absurd e h⟩
  ·rw[dA e];have:r<q:=Rat.lt_of_le_of_ne (Rat.not_lt.1 h) (fun x=>e x.symm);exact⟨fun _=>this,fun _=>by decide⟩
theorem cmpQ_lt (q r:Rat):cmpQ q r<0↔q<r:=by
 unfold cmpQ
 by_cases h:q<r
 ·rw[bB h];exact⟨fun _=>h,fun _=>by decide⟩
 ·rw[dA h];by_cases e:q=r
  ·rw[bB e];exact⟨fun e=>zo,fun e=>absurd e h⟩
  ·rw[dA e];exact⟨fun e=>zo,fun e=>absurd e h⟩
section
variable {w:World} {s s' t t':Bool} {A A' B B':Option Addr} {c c' l l' e e' k k':Nat}
theorem min_q {q r:Rat} {m m':Nat} (h:R w s A c l s' A' c' l' q m) (h':R w t B k e t' B' k' e' r m') (hm:m+m'≤40000000000) (hT:Hid (Tab w)) :
  Calls Tryz.prog 75 #[.agg #[.bool s,.slice A l c,.bool s',.slice A' l' c'],.agg #[.bool t,.slice B e k,.bool t',.slice B' e' k']] w (TellsR w (minQ q r)):=by
 obtain⟨z,HZ⟩:∃z,Hid (cmpQ q r=z):=⟨_,zh rfl⟩;by_cases g1:0<z
 ·have e9:minQ q r=r:=by unfold minQ;rw[←HZ.out] at g1;rw[bB ((cmpQ_gt q r).1 g1)]
  rw[e9];clear e9;obtain⟨W,hW,x0,x1,x2,hB⟩:=boxes3 w #[.bool s,.slice A l c,.bool s',.slice A' l' c'] 47 #[.bool t,.slice B e k,.bool t',.slice B' e' k'] 47 #[.bool false,.slice none 0 0,.bool false,.slice none 0 0] 47;replace h:=h.below hB;replace h':=h'.below hB;have HX0:=zh x0;have HX1:=zh x1;have HX2:=zh x2;clear x0 x1 x2;have Bz:=zr W;obtain⟨pa0,pa1,pa2,pa3,-⟩:=(zx HX0 Bz).cz;obtain⟨pb0,pb1,pb2,pb3,-⟩:=(zx HX1 Bz).cz;go_enter Tryz.func75,Tryz.ntmps75
  go_wp2_with fail
  rw[←hW];clear hW;go_wp2_with fail
  with_reducible refine(cmp_q (R.below h) (R.below h') zo z HZ).mono ?_
  rintro e w1 ⟨rfl,b⟩;replace b:=zq (a:=W) b;replace h':=h'.below b;replace Bz:=bT Bz b;clear b;clear pa0 pa1 pa2 pa3 pb0 pb1 pb2 pb3;obtain⟨pb0,pb1,pb2,pb3,-⟩:=(zx HX1 Bz).cz;go_wp2_with fail
  with_reducible refine(norm_q (R.below h') zo (zt hT hB Bz)).mono ?_
  rintro e w2 ⟨s2,A2,c2,l2,s2r,A2r,c2r,l2r,rfl,h2,b⟩;replace b:=zq (a:=w1) b;replace Bz:=bT Bz b;clear b;clear pb0 pb1 pb2 pb3;obtain⟨pc0,pc1,pc2,pc3,-⟩:=(zx HX2 Bz).cz;obtain⟨y2,fc0,fc1,fc2,fc3,-⟩:=(zx HX2 Bz).fz;go_wp2_with fail
  have qc0:w2.cell? ⟨w.heap.size+2,0,none⟩=some (.bool false):=pc0;have qc1:w2.cell? ⟨w.heap.size+2,1,none⟩=some (.slice none 0 0):=pc1;have qc2:w2.cell? ⟨w.heap.size+2,2,none⟩=some (.bool false):=pc2;have qc3:w2.cell? ⟨w.heap.size+2,3,none⟩=some (.slice none 0 0):=pc3;(try simp only[Exit.inBlock,Exit.then])
  refine bodyPost_ret (by simp[results,Tryz.results75,go_sem,qc0,qc1,qc2,qc3];try rfl) rfl ?_;obtain⟨V1,hW,x,kk,far,bel⟩:=store4 (.bool s2) (.slice A2 l2 c2) (.bool s2r) (.slice A2r l2r c2r) (zx HX2 Bz) nofun nofun nofun nofun;rw[←hW];clear hW;replace h2:=h2.k kk;replace hB:=bel w.heap.size w zo (bT hB Bz);replace HX0:=zf far HX0 Bz;replace HX1:=zf far HX1 Bz;replace HX2:=zh x;clear x kk far bel Bz;have Bz:=zr V1;have hF:=bT (c:=V1) hB Bz;exact⟨s2,A2,c2,l2,s2r,A2r,c2r,l2r,rfl,(RN.below h2),bT hF⟩
 ·have e9:minQ q r=q:=by unfold minQ;rw[←HZ.out] at g1;rw[dA (fun x=>g1 ((cmpQ_gt q r).2 x))]
  rw[e9];clear e9;obtain⟨W,hW,x0,x1,x2,hB⟩:=boxes3 w #[.bool s,.slice A l c,.bool s',.slice A' l' c'] 47 #[.bool t,.slice B e k,.bool t',.slice B' e' k'] 47 #[.bool false,.slice none 0 0,.bool false,.slice none 0 0] 47;replace h:=h.below hB;replace h':=h'.below hB;have HX0:=zh x0;have HX1:=zh x1;have HX2:=zh x2;clear x0 x1 x2;have Bz:=zr W;obtain⟨pa0,pa1,pa2,pa3,-⟩:=(zx HX0 Bz).cz;obtain⟨pb0,pb1,pb2,pb3,-⟩:=(zx HX1 Bz).cz;go_enter Tryz.func75,Tryz.ntmps75
  go_wp2_with fail
  rw[←hW];clear hW;go_wp2_with fail
  with_reducible refine(cmp_q (R.below h) (R.below h') zo z HZ).mono ?_
  rintro e w1 ⟨rfl,b⟩;replace b:=zq (a:=W) b;replace h:=h.below b;replace Bz:=bT Bz b;clear b;clear pa0 pa1 pa2 pa3 pb0 pb1 pb2 pb3;obtain⟨pa0,pa1,pa2,pa3,-⟩:=(zx HX0 Bz).cz;go_wp2_with fail
  with_reducible refine(norm_q (R.below h) zo (zt hT hB Bz)).mono ?_
  rintro e w2 ⟨s2,A2,c2,l2,s2r,A2r,c2r,l2r,rfl,h2,b⟩;replace b:=zq (a:=w1) b;replace Bz:=bT Bz b;clear b;clear pa0 pa1 pa2 pa3;obtain⟨pc0,pc1,pc2,pc3,-⟩:=(zx HX2 Bz).cz;obtain⟨y2,fc0,fc1,fc2,fc3,-⟩:=(zx HX2 Bz).fz;go_wp2_with fail
  have qc0:w2.cell? ⟨w.heap.size+2,0,none⟩=some (.bool false):=pc0;have qc1:w2.cell? ⟨w.heap.size+2,1,none⟩=some (.slice none 0 0):=pc1;have qc2:w2.cell? ⟨w.heap.size+2,2,none⟩=some (.bool false):=pc2;have qc3:w2.cell? ⟨w.heap.size+2,3,none⟩=some (.slice none 0 0):=pc3;(try simp only[Exit.inBlock,Exit.then])
  refine bodyPost_ret (by simp[results,Tryz.results75,go_sem,qc0,qc1,qc2,qc3];try rfl) rfl ?_;obtain⟨V1,hW,x,kk,far,bel⟩:=store4 (.bool s2) (.slice A2 l2 c2) (.bool s2r) (.slice A2r l2r c2r) (zx HX2 Bz) nofun nofun nofun nofun;rw[←hW];clear hW;replace h2:=h2.k kk;replace hB:=bel w.heap.size w zo (bT hB Bz);replace HX0:=zf far HX0 Bz;replace HX1:=zf far HX1 Bz;replace HX2:=zh x;clear x kk far bel Bz;have Bz:=zr V1;have hF:=bT (c:=V1) hB Bz;exact⟨s2,A2,c2,l2,s2r,A2r,c2r,l2r,rfl,(RN.below h2),bT hF⟩
theorem max_q {q r:Rat} {m m':Nat} (h:R w s A c l s' A' c' l' q m) (h':R w t B k e t' B' k' e' r m') (hm:m+m'≤40000000000) (hT:Hid (Tab w)) :
  Calls Tryz.prog 40 #[.agg #[.bool s,.slice A l c,.bool s',.slice A' l' c'],.agg #[.bool t,.slice B e k,.bool t',.slice B' e' k']] w (TellsR w (maxQ q r)):=by
 obtain⟨z,HZ⟩:∃z,Hid (cmpQ q r=z):=⟨_,zh rfl⟩;by_cases g1:z<0
 ·have e9:maxQ q r=r:=by unfold maxQ;rw[←HZ.out] at g1;rw[bB ((cmpQ_lt q r).1 g1)]
  rw[e9];clear e9;obtain⟨W,hW,x0,x1,x2,hB⟩:=boxes3 w #[.bool s,.slice A l c,.bool s',.slice A' l' c'] 47 #[.bool t,.slice B e k,.bool t',.slice B' e' k'] 47 #[.bool false,.slice none 0 0,.bool false,.slice none 0 0] 47;replace h:=h.below hB;replace h':=h'.below hB;have HX0:=zh x0;have HX1:=zh x1;have HX2:=zh x2;clear x0 x1 x2;have Bz:=zr W;obtain⟨pa0,pa1,pa2,pa3,-⟩:=(zx HX0 Bz).cz;obtain⟨pb0,pb1,pb2,pb3,-⟩:=(zx HX1 Bz).cz;go_enter Tryz.func40,Tryz.ntmps40
  go_wp2_with fail
  rw[←hW];clear hW;go_wp2_with fail
  with_reducible refine(cmp_q (R.below h) (R.below h') zo z HZ).mono ?_
  rintro e w1 ⟨rfl,b⟩;replace b:=zq (a:=W) b;replace h':=h'.below b;replace Bz:=bT Bz b;clear b;clear pa0 pa1 pa2 pa3 pb0 pb1 pb2 pb3;obtain⟨pb0,pb1,pb2,pb3,-⟩:=(zx HX1 Bz).cz;go_wp2_with fail
  with_reducible refine(norm_q (R.below h') zo (zt hT hB Bz)).mono ?_
  rintro e w2 ⟨s2,A2,c2,l2,s2r,A2r,c2r,l2r,rfl,h2,b⟩;replace b:=zq (a:=w1) b;replace Bz:=bT Bz b;clear b;clear pb0 pb1 pb2 pb3;obtain⟨pc0,pc1,pc2,pc3,-⟩:=(zx HX2 Bz).cz;obtain⟨y2,fc0,fc1,fc2,fc3,-⟩:=(zx HX2 Bz).fz;go_wp2_with fail
  have qc0:w2.cell? ⟨w.heap.size+2,0,none⟩=some (.bool false):=pc0;have qc1:w2.cell? ⟨w.heap.size+2,1,none⟩=some (.slice none 0 0):=pc1;have qc2:w2.cell? ⟨w.heap.size+2,2,none⟩=some (.bool false):=pc2;have qc3:w2.cell? ⟨w.heap.size+2,3,none⟩=some (.slice none 0 0):=pc3;(try simp only[Exit.inBlock,Exit.then])
  refine bodyPost_ret (by simp[results,Tryz.results40,go_sem,qc0,qc1,qc2,qc3];try rfl) rfl ?_;obtain⟨V1,hW,x,kk,far,bel⟩:=store4 (.bool s2) (.slice A2 l2 c2) (.bool s2r) (.slice A2r l2r c2r) (zx HX2 Bz) nofun nofun nofun nofun;rw[←hW];clear hW;replace h2:=h2.k kk;replace hB:=bel w.heap.size w zo (bT hB Bz);replace HX0:=zf far HX0 Bz;replace HX1:=zf far HX1 Bz;replace HX2:=zh x;clear x kk far bel Bz;have Bz:=zr V1;have hF:=bT (c:=V1) hB Bz;exact⟨s2,A2,c2,l2,s2r,A2r,c2r,l2r,rfl,(RN.below h2),bT hF⟩
 ·have e9:maxQ q r=q:=by unfold maxQ;rw[←HZ.out] at g1;rw[dA (fun x=>g1 ((cmpQ_lt q r).2 x))]
  rw[e9];clear e9;obtain⟨W,hW,x0,x1,x2,hB⟩:=boxes3 w #[.bool s,.slice A l c,.bool s',.slice A' l' c'] 47 #[.bool t,.slice B e k,.bool t',.slice B' e' k'] 47 #[.bool false,.slice none 0 0,.bool false,.slice none 0 0] 47;replace h:=h.below hB;replace h':=h'.below hB;have HX0:=zh x0;have HX1:=zh x1;have HX2:=zh x2;clear x0 x1 x2;have Bz:=zr W;obtain⟨pa0,pa1,pa2,pa3,-⟩:=(zx HX0 Bz).cz;obtain⟨pb0,pb1,pb2,pb3,-⟩:=(zx HX1 Bz).cz;go_enter Tryz.func40,Tryz.ntmps40
  go_wp2_with fail
  rw[←hW];clear hW;go_wp2_with fail
  with_reducible refine(cmp_q (R.below h) (R.below h') zo z HZ).mono ?_
  rintro e w1 ⟨rfl,b⟩;replace b:=zq (a:=W) b;replace h:=h.below b;replace Bz:=bT Bz b;clear b;clear pa0 pa1 pa2 pa3 pb0 pb1 pb2 pb3;obtain⟨pa0,pa1,pa2,pa3,-⟩:=(zx HX0 Bz).cz;go_wp2_with fail
  with_reducible refine(norm_q (R.below h) zo (zt hT hB Bz)).mono ?_
  rintro e w2 ⟨s2,A2,c2,l2,s2r,A2r,c2r,l2r,rfl,h2,b⟩;replace b:=zq (a:=w1) b;replace Bz:=bT Bz b;clear b;clear pa0 pa1 pa2 pa3;obtain⟨pc0,pc1,pc2,pc3,-⟩:=(zx HX2 Bz).cz;obtain⟨y2,fc0,fc1,fc2,fc3,-⟩:=(zx HX2 Bz).fz;go_wp2_with fail
  have qc0:w2.cell? ⟨w.heap.size+2,0,none⟩=some (.bool false):=pc0;have qc1:w2.cell? ⟨w.heap.size+2,1,none⟩=some (.slice none 0 0):=pc1;have qc2:w2.cell? ⟨w.heap.size+2,2,none⟩=some (.bool false):=pc2;have qc3:w2.cell? ⟨w.heap.size+2,3,none⟩=some (.slice none 0 0):=pc3;(try simp only[Exit.inBlock,Exit.then])
  refine bodyPost_ret (by simp[results,Tryz.results40,go_sem,qc0,qc1,qc2,qc3];try rfl) rfl ?_;obtain⟨V1,hW,x,kk,far,bel⟩:=store4 (.bool s2) (.slice A2 l2 c2) (.bool s2r) (.slice A2r l2r c2r) (zx HX2 Bz) nofun nofun nofun nofun;rw[←hW];clear hW;replace h2:=h2.k kk;replace hB:=bel w.heap.size w zo (bT hB Bz);replace HX0:=zf far HX0 Bz;replace HX1:=zf far HX1 Bz;replace HX2:=zh x;clear x kk far bel Bz;have Bz:=zr V1;have hF:=bT (c:=V1) hB Bz;exact⟨s2,A2,c2,l2,s2r,A2r,c2r,l2r,rfl,(RN.below h2),bT hF⟩
end
end Go.Proofs.YtiondclbdgijbaaGreatDoor
