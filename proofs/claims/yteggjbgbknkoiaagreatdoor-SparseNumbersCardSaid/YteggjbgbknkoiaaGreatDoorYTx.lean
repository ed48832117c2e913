import Derived.Test.YteggjbgbknkoiaaGreatDoorYRow
import Derived.Shelf.Strings.Builder1
set_option maxHeartbeats 4000000
set_option maxRecDepth 100000
namespace Go.Proofs
open Go.Shelf
def Tryz.lays166_ren:Go.Shelf.Ren:=⟨fun | 166=>97 | 240=>136 | 276=>169 | n=>n,fun | 0=>0 | 3=>3 | 4=>4 | 5=>5 | 9=>9 | 20=>20 | 37=>128 | 70=>127 | 72=>130 | 75=>132 | 80=>137 | 164=>174 | n=>n,fun | n=>n⟩
theorem Tryz.lays166:Go.Proofs.Lays.n166 Tryz.prog Tryz.lays166_ren:={
 mixed:=by kernel_rfl
 f166:=Tryz.func97.trans (congrArg some (by kernel_rfl))
 f240:=Tryz.func136.trans (congrArg some (by kernel_rfl))
 f276:=Tryz.func169.trans (congrArg some (by kernel_rfl))
 t0:=Tryz.underlying0
 a0:=Tryz.isAgg0
 z0:=Tryz.sizeOf0
 v0:=Tryz.zeroValue0
 t3:=Tryz.underlying3
 a3:=Tryz.isAgg3
 z3:=Tryz.sizeOf3
 v3:=Tryz.zeroValue3
 t4:=Tryz.underlying4
 a4:=Tryz.isAgg4
 z4:=Tryz.sizeOf4
 v4:=Tryz.zeroValue4
 t9:=Tryz.underlying9
 a9:=Tryz.isAgg9
 z9:=Tryz.sizeOf9
 v9:=Tryz.zeroValue9
 t20:=Tryz.underlying20
 a20:=Tryz.isAgg20
 z20:=Tryz.sizeOf20
 v20:=Tryz.zeroValue20
 t37:=Tryz.underlying128
 a37:=Tryz.isAgg128
 z37:=Tryz.sizeOf128
 v37:=Tryz.zeroValue128
 t70:=Tryz.underlying127
 a70:=Tryz.isAgg127
 z70:=Tryz.sizeOf127
 v70:=Tryz.zeroValue127
 t72:=Tryz.underlying130
 a72:=Tryz.isAgg130
 z72:=Tryz.sizeOf130
 v72:=Tryz.zeroValue130
 t75:=Tryz.underlying132
 a75:=Tryz.isAgg132
 z75:=Tryz.sizeOf132
 v75:=Tryz.zeroValue132
 t164:=Tryz.underlying174
 a164:=Tryz.isAgg174
 z164:=Tryz.sizeOf174
 v164:=Tryz.zeroValue174
}
theorem Tryz.bext166:Builder.Extra Tryz.prog Tryz.lays166_ren where
 sizeBuilder:=by kernel_rfl
 liesBuilder:=by kernel_rfl
 t5:=Tryz.underlying5
 a5:=Tryz.isAgg5
 z5:=Tryz.sizeOf5
 v5:=Tryz.zeroValue5
 infoByte:=by kernel_rfl
 cellsByte:=by kernel_rfl
 sizeByte:=by kernel_rfl
 neB5:=by decide
def Tryz.lays169_ren:Go.Shelf.Ren:=⟨fun | 169=>99 | n=>n,fun | 0=>0 | 3=>3 | 5=>5 | 9=>9 | 37=>128 | 70=>127 | 72=>130 | 127=>155 | n=>n,fun | n=>n⟩
theorem Tryz.lays169:Go.Proofs.Lays.n169 Tryz.prog Tryz.lays169_ren:={
 mixed:=by kernel_rfl
 f169:=Tryz.func99.trans (congrArg some (by kernel_rfl))
 t0:=Tryz.underlying0
 a0:=Tryz.isAgg0
 z0:=Tryz.sizeOf0
 v0:=Tryz.zeroValue0
 t3:=Tryz.underlying3
 a3:=Tryz.isAgg3
 z3:=Tryz.sizeOf3
 v3:=Tryz.zeroValue3
 t9:=Tryz.underlying9
 a9:=Tryz.isAgg9
 z9:=Tryz.sizeOf9
 v9:=Tryz.zeroValue9
 t37:=Tryz.underlying128
 a37:=Tryz.isAgg128
 z37:=Tryz.sizeOf128
 v37:=Tryz.zeroValue128
 t70:=Tryz.underlying127
 a70:=Tryz.isAgg127
 z70:=Tryz.sizeOf127
 v70:=Tryz.zeroValue127
 t72:=Tryz.underlying130
 a72:=Tryz.isAgg130
 z72:=Tryz.sizeOf130
 v72:=Tryz.zeroValue130
 t127:=Tryz.underlying155
 a127:=Tryz.isAgg155
 z127:=Tryz.sizeOf155
 v127:=Tryz.zeroValue155
}
theorem Tryz.bext169:Builder.Extra Tryz.prog Tryz.lays169_ren where
 sizeBuilder:=by kernel_rfl
 liesBuilder:=by kernel_rfl
 t5:=Tryz.underlying5
 a5:=Tryz.isAgg5
 z5:=Tryz.sizeOf5
 v5:=Tryz.zeroValue5
 infoByte:=by kernel_rfl
 cellsByte:=by kernel_rfl
 sizeByte:=by kernel_rfl
 neB5:=by decide
end Go.Proofs
namespace Go.Proofs.YteggjbgbknkoiaaGreatDoor
open Go.RowKit Tw
def TellsTx (w:World) (s:ByteArray) (e:Ending) (w':World):Prop:=e=.returned (.string s)∧Below w.heap.size w w'
def strs (s:ByteArray):List Value:=[.string s]
abbrev FmtSays (d:Nat) (s:UInt8):Prop:=∀w,Calls Tryz.prog 95 #[.int .u64 (d:Int),.int .i64 10] w fun e w'=>e=.returned (.string ⟨#[s]⟩)∧Below w.heap.size w w'
theorem elt_str:Elt strs 1 123 9:=Elt.of (.string ⟨#[]⟩) 16 Tryz.underlying123 (by kernel_rfl) zo (by kernel_rfl) (nou_list (by kernel_rfl)) (fun _=>rfl) (fun x u hu=>by simp[strs] at hu;subst hu;rfl) (fun x u hu n=>by simp[strs] at hu;subst hu;simp)
theorem bws_q {w:World} {B b:Nat} {bs:List Value} {s:ByteArray} (h:Lib.IsBuilder 130 5 B b bs w) (hlen:bs.length+s.size≤1000) (hB:B≤w.heap.size):Calls Tryz.prog 97 #[.pointer (some ⟨b,0,none⟩),.string s] w fun e w'=>e=.returned (.tuple #[.int .i64 s.size,.nilIface])∧Lib.IsBuilder 130 5 B b (bs++Lib.strCells s) w'∧Below B w w' :=
 (Any.Builder_WriteString Tryz.lays166 Tryz.bext166 B b bs s w h zo hB).mono fun _ _ ⟨h1,h2,h3⟩=>⟨h1,.inr h2,h3⟩
theorem bstr_q {w:World} {B b:Nat} {l:List UInt8} (h:Lib.IsBuilder 130 5 B b (Lib.byteCells l) w) (h0:l≠[]):Calls Tryz.prog 99 #[.pointer (some ⟨b,0,none⟩)] w fun e w'=>e=.returned (.string ⟨l.toArray⟩)∧Below B w w':=Any.Builder_String Tryz.lays169 Tryz.bext169 B b l w h h0
theorem limbs_one {d:Nat} (h0:0<d) (hd:d<18446744073709551616):limbs d=[d]:=by
 rw[limbs_pos zo,show d % B=d from xB hd,show d / B=0 from fC hd,limbs_zero]
theorem bx_lit {w:World} {b n:Nat} {cs:Array Value} (h:Bx w b cs 53) (hc:cs=#[.int .u64 (n:Int)]) (hn:n<18446744073709551616):V w (some ⟨b,0,none⟩) 1 1 n:=by
 subst hc;refine⟨[n],⟨fun x hx=>by simp at hx;subst hx;exact hn,by simp,fun _=>⟨b,0,rfl,fun k hk=>?_⟩⟩,rfl,by simp[val]⟩;obtain rfl:k=0:=by simp at hk;exact hk
 exact h.cell 0 _ rfl
theorem limb1 {w:World} {A:Option Addr} {c l d:Nat} (h:C w A c l d) (h0:0<d) (hd:d<18446744073709551616):l=1∧∃b o,A=some ⟨b,o,none⟩∧w.cell? ⟨b,o,none⟩=some (.int .u64 (d:Int)):=by
 obtain⟨h1,rfl⟩:=h;have hn:limbs d=[d]:=limbs_one h0 hd;obtain⟨b,o,rfl,h2⟩:=h1.cells (by rw[hn];simp);refine⟨by simp[nl,hn],b,o,rfl,?_⟩;have:=h2 0 (by rw[hn];simp);rw[hn] at this;exact this
theorem own_str {w:World} {B c:Nat} {H:Option Addr} {s:ByteArray} (h:OwnR w B 9 1 (.slice H (0+1) c) (0+1) (flat strs ([]++[s]))):∃g,H=some ⟨g,0,none⟩∧w.cell? ⟨g,0,none⟩=some (.string s):=by
 obtain⟨_,⟨h2,_⟩ | ⟨g,cap,cur,h2,_⟩⟩:=id h
 ·simp at h2
 ·obtain rfl:H=some ⟨g,0,none⟩:=by injection h2
  exact⟨g,rfl,elt_str.cell h (i:=0) (j:=0) rfl zd rfl⟩
theorem small_d1 {w:World}:Calls Tryz.prog 165 #[.int .i64 1] w fun e w'=>e=.returned (.string ⟨#[49]⟩)∧w'=w:=by
 go_enter Tryz.func165,Tryz.ntmps165
 go_wp2_with fail
 go_ret
 exact⟨rfl,rfl⟩
theorem small_d2 {w:World}:Calls Tryz.prog 165 #[.int .i64 2] w fun e w'=>e=.returned (.string ⟨#[50]⟩)∧w'=w:=by
 go_enter Tryz.func165,Tryz.ntmps165
 go_wp2_with fail
 go_ret
 exact⟨rfl,rfl⟩
theorem small_d5 {w:World}:Calls Tryz.prog 165 #[.int .i64 5] w fun e w'=>e=.returned (.string ⟨#[53]⟩)∧w'=w:=by
 go_enter Tryz.func165,Tryz.ntmps165
 go_wp2_with fail
 go_ret
 exact⟨rfl,rfl⟩
theorem fmt_d1 {w:World}:Calls Tryz.prog 95 #[.int .u64 1,.int .i64 10] w fun e w'=>e=.returned (.string ⟨#[49]⟩)∧Below w.heap.size w w':=by
 have hi:Calls Tryz.prog 135 #[.int .u64 1,.int .i64 10] w fun e w'=>e=.returned (.string ⟨#[49]⟩)∧w'=w:=by
  go_enter Tryz.func135,Tryz.ntmps135
  go_wp2_with fail
  with_reducible refine(small_d1).mono ?_
  rintro e w1 ⟨rfl,rfl⟩;go_wp2_with fail
  go_ret
  exact⟨rfl,rfl⟩
 go_enter Tryz.func95,Tryz.ntmps95
 go_wp2_with fail
 with_reducible refine hi.mono ?_
 rintro e w1 ⟨rfl,rfl⟩;go_wp2_with fail
 go_ret
 exact⟨rfl,Below.refl _ _⟩
theorem fmt_d2 {w:World}:Calls Tryz.prog 95 #[.int .u64 2,.int .i64 10] w fun e w'=>e=.returned (.string ⟨#[50]⟩)∧Below w.heap.size w w':=by
 have hi:Calls Tryz.prog 135 #[.int .u64 2,.int .i64 10] w fun e w'=>e=.returned (.string ⟨#[50]⟩)∧w'=w:=by
  go_enter Tryz.func135,Tryz.ntmps135
  go_wp2_with fail
  with_reducible refine(small_d2).mono ?_
  rintro e w1 ⟨rfl,rfl⟩;go_wp2_with fail
  go_ret
  exact⟨rfl,rfl⟩
 go_enter Tryz.func95,Tryz.ntmps95
 go_wp2_with fail
 with_reducible refine hi.mono ?_
 rintro e w1 ⟨rfl,rfl⟩;go_wp2_with fail
 go_ret
 exact⟨rfl,Below.refl _ _⟩
theorem fmt_d5 {w:World}:Calls Tryz.prog 95 #[.int .u64 5,.int .i64 10] w fun e w'=>e=.returned (.string ⟨#[53]⟩)∧Below w.heap.size w w':=by
 have hi:Calls Tryz.prog 135 #[.int .u64 5,.int .i64 10] w fun e w'=>e=.returned (.string ⟨#[53]⟩)∧w'=w:=by
  go_enter Tryz.func135,Tryz.ntmps135
  go_wp2_with fail
  with_reducible refine(small_d5).mono ?_
  rintro e w1 ⟨rfl,rfl⟩;go_wp2_with fail
  go_ret
  exact⟨rfl,rfl⟩
 go_enter Tryz.func95,Tryz.ntmps95
 go_wp2_with fail
 with_reducible refine hi.mono ?_
 rintro e w1 ⟨rfl,rfl⟩;go_wp2_with fail
 go_ret
 exact⟨rfl,Below.refl _ _⟩
theorem dtext_q {w:World} {A:Option Addr} {c l d:Nat} {s:UInt8} (h:V w A c l d) (hl:l≤80000000000) (h0:0<d) (hd:d<10000000000000000000) (hf:FmtSays d s):Calls Tryz.prog 54 #[.agg #[.bool false,.slice A l c]] w (TellsTx w ⟨#[s]⟩):=by
 obtain⟨W,hW,x0,hB⟩:=zAc w #[.bool false,.slice A l c] 28;have HX0:=zh x0;clear x0;have Bz:=zr W;have pa1:=(zx HX0 Bz).cell 1 (.slice A l c) rfl;go_enter Tryz.func54,Tryz.ntmps54
 go_wp2_with fail
 rw[←hW];clear hW;go_wp2_with fail
 with_reducible refine(trim_v (h.below (bT hB (bT (b:=W) Bz))) zo).mono ?_
 rintro e w1 ⟨A1,c1,l1,rfl,hc1,_,q⟩;replace q:=zq (a:=W) q;replace Bz:=bT Bz q;clear q;obtain⟨rfl,_⟩:=limb1 hc1 h0 zo;clear pa1;go_wp2_with fail
 have ho:=OwnR.nil w1 (w.heap.size+1) 9 1;refine wp_loop_rounds 2 ?_;rw[rounds_succ];go_wp2_with fail
 obtain⟨V1,hW,x1,hN⟩:=zAc w1 #[.int .u64 10000000000000000000] 53;rw[←hW];clear hW;obtain⟨v1,hb1⟩:=ze w1.heap.size;rw[←hb1] at x1 ⊢;have ow_1:w.heap.size≤v1:=zi (zw hB Bz);replace hc1:=hc1.below hN;replace ho:=ho.below hN;replace hB:=bT (bT hB Bz) hN;replace HX0:=zba HX0 Bz hN;have HX1:=zh x1;clear x1 hN Bz hb1;have Bz:=zr V1;have hlit:=bx_lit (n:=10000000000000000000) (HX1.out.below (bT Bz)) rfl zd;with_reducible refine(divmod_v (C.below hc1 (by go_grown)).v hlit zo zd).mono ?_
 rintro e w2 ⟨A2,c2,l2,A3,c3,l3,rfl,hc2,hc3,_,_,q⟩;replace q:=zq (a:=V1) q;replace ho:=ho.below q;replace Bz:=bT Bz q;clear q;clear hlit;rw[fC hd] at hc2;rw[xB hd] at hc3;obtain rfl:l2=0:=hc2.2.symm;obtain⟨rfl,rb,ro,rfl,hrc⟩:=limb1 hc3 h0 zo;clear hc2 hc3;have pA0:=hrc;go_wp2_with fail
 with_reducible refine(hf w2).mono ?_
 rintro e w3 ⟨rfl,q⟩;replace q:=zq (a:=w2) q;replace ho:=ho.below q;replace Bz:=bT Bz q;clear q;clear pA0;go_wp2_with (at_builtin;refine And.left (b:=True) ?_)
 refine⟨?_,trivial⟩;obtain⟨V2,hW,x2,hN⟩:=zAc w3 #[.string ⟨#[s]⟩] 9;rw[←hW];clear hW;obtain⟨v2,hb2⟩:=ze w3.heap.size;rw[←hb2] at x2 ⊢;have ow_2:w.heap.size≤v2:=zi (zw hB Bz);replace ho:=ho.below hN;replace hB:=bT (bT hB Bz) hN;replace HX0:=zba HX0 Bz hN;replace HX1:=zba HX1 Bz hN;have HX2:=zh x2;clear x2 hN Bz hb2;have Bz:=zr V2;have hdr:V2.drew.heap.size=V2.heap.size:=rfl;have hdr2:V2.drew.drew.heap.size=V2.heap.size:=rfl;refine Elt.app elt_str rfl (.tmp 31) (.tmp 34) rfl (w.heap.size+1) ((Value.slice none 0 0)) (0) (([]:List ByteArray)) rfl ho (.slice (some ⟨v2,0,none⟩) 1 1) (1) ([⟨#[s]⟩]) rfl (From.one (HX2.out.below (bT Bz)) (⟨#[s]⟩) rfl (elt_str.len _)) zo (zi (zx HX0 Bz).lt) ?_;intro H4 c4 w4 ho4 hg4;replace hB:=(bT (bT hB Bz)).trans (hg4.below (zi (zw hB Bz)) (fun g hg=>by have:=ho.base g hg;omega));replace HX0:=zh (hg4.bx (zx HX0 Bz) (ho.off zo));clear HX1;clear HX2;clear hdr hdr2;clear hg4 Bz;have Bz:=zr w4;go_wp2_with fail
 rw[rounds_succ];go_upto_region 13 with(fail)
 obtain⟨pg,rfl,hpg⟩:=own_str ho4;obtain⟨VB,hVB⟩:∃V,V=w4.alloc (.cells #[.pointer none,.slice none 0 0] 130):=⟨_,rfl⟩;rw[←hVB];have hbd:Lib.IsBuilder 130 5 w4.heap.size w4.heap.size [] VB:=by rw[hVB];exact Lib.fresh_isBuilder _ _ _
 have bB:Below w4.heap.size w4 VB:=by rw[hVB];exact zAf _ _
 have sB:w4.heap.size≤VB.heap.size:=bB.size;have q0:=((zx HX0 Bz).below bB).cell 0 (.bool false) rfl;have q1:=(bB.cell (World.block_lt_of_cell? _ _ hpg)).trans hpg;clear hVB;go_wp2_with fail
 refine wp_loop_rounds 2 ?_;rw[rounds_succ];go_wp2_with fail
 with_reducible refine(bws_q (s:=⟨#[s]⟩) hbd (Nat.le_of_ble_eq_true rfl) sB).mono ?_
 rintro e W1 ⟨rfl,h1,bx1⟩;rw[List.nil_append,Lib.strCells_eq] at h1;go_wp2_with fail
 rw[rounds_succ];go_wp2_with fail
 with_reducible refine(bstr_q (l:=[s]) h1 (by simp)).mono ?_
 rintro e W2 ⟨rfl,bx2⟩;go_wp2_with fail
 go_ret
 exact⟨rfl,(bT hB Bz).trans (((bB.trans bx1).trans bx2).mono (bT hB Bz).size)⟩
theorem rtext0_q {w:World} {q:Rat} {m d:Nat} {b b':Bool} {A A':Option Addr} {c l c' l':Nat} {s:UInt8} (h:R w b A c l b' A' c' l' q m) (hm:m≤40000000000) (hT:Hid (Tab w)) (hn:q.num=(d:Int)) (hdn:dn q=0) (h0:0<d) (hd:d<10000000000000000000) (hf:FmtSays d s):Calls Tryz.prog 19 #[.agg #[.bool b,.slice A l c,.bool b',.slice A' l' c']] w (TellsTx w ⟨#[s]⟩):=by
 obtain⟨W,hW,x0,hB⟩:=zAc w #[.bool b,.slice A l c,.bool b',.slice A' l' c'] 30;have HX0:=zh x0;clear x0;have Bz:=zr W;obtain⟨pa0,pa1,pa2,pa3,-⟩:=(zx HX0 Bz).cz;go_enter Tryz.func19,Tryz.ntmps19
 go_wp2_with fail
 rw[←hW];clear hW;go_wp2_with fail
 with_reducible refine(norm_q (h.below (bT hB (bT (b:=W) Bz))) hm (zt hT hB Bz)).mono ?_
 rintro e w1 ⟨s1,A1,c1,l1,s1r,A1r,c1r,l1r,rfl,hr1,z⟩;replace z:=zq (a:=W) z;replace Bz:=bT Bz z;clear z;obtain⟨⟨hcn,hsn⟩,hcd,hsd⟩:=hr1;rw[hn,uD] at hcn;obtain rfl:s1=false:=by rw[hsn,hn];exact cA zo
 obtain⟨rfl,_⟩:=limb1 hcn h0 zo;rw[hdn] at hcd;obtain rfl:l1r=0:=hcd.2.symm;clear hsn hsd;clear pa0 pa1 pa2 pa3;obtain⟨pa0,pa1,pa2,pa3,-⟩:=(zx HX0 Bz).cz;obtain⟨y0,fa0,fa1,fa2,fa3,-⟩:=(zx HX0 Bz).fz;go_upto_region 2 with(fail)
 obtain⟨V1,hW,x,kk,far,bel⟩:=store4 (.bool false) (.slice A1 1 c1) (.bool s1r) (.slice A1r 0 c1r) (zx HX0 Bz) nofun nofun nofun nofun;rw[←hW];clear hW;replace hcn:=hcn.k kk;replace hB:=bel w.heap.size w zo (bT hB Bz);replace HX0:=zh x;clear x kk far bel Bz;have Bz:=zr V1;clear pa0 pa1 pa2 pa3 fa0 fa1 fa2 fa3 y0;obtain⟨pa0,pa1,-⟩:=(zx HX0 Bz).cz;go_wp2_with fail
 with_reducible refine(dtext_q (C.below hcn (by go_grown)).v zd h0 hd hf).mono ?_
 rintro e w2 ⟨rfl,z⟩;replace z:=zq (a:=V1) z;replace Bz:=bT Bz z;clear z;clear pa0 pa1;have pa3:=(zx HX0 Bz).cell 3 (.slice A1r 0 c1r) rfl;go_wp2_with fail
 go_ret
 have hF:=bT (c:=w2) hB Bz;exact⟨rfl,hF⟩
theorem rtext1_q {w:World} {q:Rat} {m d d2:Nat} {b b':Bool} {A A':Option Addr} {c l c' l':Nat} {s s2:UInt8} (h:R w b A c l b' A' c' l' q m) (hm:m≤40000000000) (hT:Hid (Tab w)) (hn:q.num=(d:Int)) (hdn:dn q=(d2:Int)) (h0:0<d) (hd:d<10000000000000000000) (h2:0<d2) (hd2:d2<10000000000000000000) (hf:FmtSays d s) (hf2:FmtSays d2 s2):Calls Tryz.prog 19 #[.agg #[.bool b,.slice A l c,.bool b',.slice A' l' c']] w (TellsTx w ⟨#[s,47,s2]⟩):=by
 obtain⟨W,hW,x0,hB⟩:=zAc w #[.bool b,.slice A l c,.bool b',.slice A' l' c'] 30;have HX0:=zh x0;clear x0;have Bz:=zr W;obtain⟨pa0,pa1,pa2,pa3,-⟩:=(zx HX0 Bz).cz;go_enter Tryz.func19,Tryz.ntmps19
 go_wp2_with fail
 rw[←hW];clear hW;go_wp2_with fail
 with_reducible refine(norm_q (h.below (bT hB (bT (b:=W) Bz))) hm (zt hT hB Bz)).mono ?_
 rintro e w1 ⟨s1,A1,c1,l1,s1r,A1r,c1r,l1r,rfl,hr1,z⟩;replace z:=zq (a:=W) z;replace Bz:=bT Bz z;clear z;obtain⟨⟨hcn,hsn⟩,hcd,hsd⟩:=hr1;rw[hn,uD] at hcn;obtain rfl:s1=false:=by rw[hsn,hn];exact cA zo
 obtain⟨rfl,_⟩:=limb1 hcn h0 zo;rw[hdn,uD] at hcd;obtain rfl:s1r=false:=by rw[hsd,hdn];exact cA zo
 obtain⟨rfl,_⟩:=limb1 hcd h2 zo;clear hsn hsd;clear pa0 pa1 pa2 pa3;obtain⟨pa0,pa1,pa2,pa3,-⟩:=(zx HX0 Bz).cz;obtain⟨y0,fa0,fa1,fa2,fa3,-⟩:=(zx HX0 Bz).fz;go_upto_region 2 with(fail)
 obtain⟨V1,hW,x,kk,far,bel⟩:=store4 (.bool false) (.slice A1 1 c1) (.bool false) (.slice A1r 1 c1r) (zx HX0 Bz) nofun nofun nofun nofun;rw[←hW];clear hW;replace hcd:=hcd.k kk;replace hcn:=hcn.k kk;replace hB:=bel w.heap.size w zo (bT hB Bz);replace HX0:=zh x;clear x kk far bel Bz;have Bz:=zr V1;clear pa0 pa1 pa2 pa3 fa0 fa1 fa2 fa3 y0;obtain⟨pa0,pa1,-⟩:=(zx HX0 Bz).cz;go_wp2_with fail
 with_reducible refine(dtext_q (C.below hcn (by go_grown)).v zd h0 hd hf).mono ?_
 rintro e w2 ⟨rfl,z⟩;replace z:=zq (a:=V1) z;replace hcd:=hcd.below z;replace Bz:=bT Bz z;clear z;clear pa0 pa1;obtain⟨-,-,pa2,pa3,-⟩:=(zx HX0 Bz).cz;go_wp2_with fail
 with_reducible refine(dtext_q (C.below hcd (by go_grown)).v zd h2 hd2 hf2).mono ?_
 rintro e w3 ⟨rfl,z⟩;replace z:=zq (a:=w2) z;replace Bz:=bT Bz z;clear z;clear pa2 pa3;go_wp2_with fail
 go_ret
 have hF:=bT (c:=w3) hB Bz;exact⟨rfl,hF⟩
theorem fmt_says1:FmtSays 1 49:=fun _=>fmt_d1
theorem fmt_says2:FmtSays 2 50:=fun _=>fmt_d2
theorem fmt_says5:FmtSays 5 53:=fun _=>fmt_d5
end Go.Proofs.YteggjbgbknkoiaaGreatDoor
