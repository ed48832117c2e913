import Derived.Test.YtiondclbdgijbaaGreatDoorYZMem
import Derived.Shelf.Spec.BitsCarry
import Derived.Deep.RegionWith
set_option maxHeartbeats 4000000
set_option maxRecDepth 100000
namespace Go.Proofs.YtiondclbdgijbaaGreatDoor
open Go.RowKit Tw
def Box (w:World) (g:Nat) (v:Value):Prop:=w.heap[g]?=some (.cells #[v] 43 (0,0))
section
variable {w w':World} {g:Nat} {v:Value}
theorem Box.lt (h:Box w g v):g<w.heap.size:=(wE.1 h).1
theorem Box.cell (h:Box w g v):w.cell? ⟨g,0,none⟩=some v:=by rw[cell_of_row w g 0 _ _ _ h];rfl
theorem Box.grown (h:Box w g v) {row:Option Nat} (hb:w.grownBy w' row) (hg:some g≠row):Box w' g v:=(hb.block g h.lt hg).trans h
theorem Box.below (h:Box w g v) (hb:Below w.heap.size w w'):Box w' g v:=(hb.block g h.lt).trans h
theorem Box.far (h:Box w g v) {p:Addr} (hp:g≠p.block) (u:Value):Box (w.setCell p u) g v:=(heap_setCell_other w p g u hp).trans h
theorem Box.ne {g':Nat} {ys:List Nat} (h:Box w g v) (h':Row w g' ys):g≠g':=by
 rintro rfl;unfold Box at h;unfold Row at h'
 rw[h] at h';injection h' with h'
 injection h' with _ ht
 exact absurd ht zd
end
theorem reader_any (A:Option Addr) (n c:Nat) (w:World) :
  Calls Tryz.prog 106 #[.slice A n c] w fun e w'=>∃g,e=.returned (.func (Fn.func 129) #[] #[.pointer (some ⟨g,0,none⟩)])∧Box w' g (.slice A n c)∧w.heap.size≤g∧Below w.heap.size w w':=by
 have HB:Hid (Box (w.alloc (.cells #[Value.slice A n c] 43)) w.heap.size (.slice A n c)):=heap_alloc_new w _;go_enter Tryz.func106,Tryz.ntmps106
 go_wp2
 go_ret
 exact⟨_,rfl,HB.out,aA _,(Below.refl _ _).alloc (aA _) _⟩
theorem read_any (g:Nat) (A:Option Addr) (c i:Nat) (xs:List Nat) (w:World) (hg:w.cell? ⟨g,0,none⟩=some (.slice A xs.length c)) (h:Nums w A c xs) :
  Calls Tryz.prog 129 #[.int .i64 (i:Int),.pointer (some ⟨g,0,none⟩)] w fun e w'=>e=.returned (.int .u64 (dg xs i))∧w=w':=by
 by_cases hi:i<xs.length
 ·obtain⟨b,off,rfl,hcell⟩:=h.cells zo;have c1:=hcell i hi;clear hcell;go_enter Tryz.func129,Tryz.ntmps129
  go_wp2
  go_ret
  exact⟨rfl,rfl⟩
 ·have HD:=zh (dg_past (xs:=xs) (k:=i) zo);go_enter Tryz.func129,Tryz.ntmps129
  go_wp2
  go_ret
  rw[HD.out];exact⟨rfl,rfl⟩
theorem add64 (x y c:Nat) (hc:c≤1) (w:World):(callFunc 98 #[.int .u64 x,.int .u64 y,.int .u64 c]).run Tryz.prog w =
  .ok (.value (.tuple #[.int .u64 (((x+y+c) % B:Nat):Int),.int .u64 (((x+y+c) / B:Nat):Int)])) w:=by
 rw[run_callFunc_extern Tryz.func98 (by kernel_rfl) (by kernel_rfl) (by kernel_rfl) (e:=add64Entry) (by kernel_rfl),run_add64 x y c zo zo zo zo];simp only[Result.andThen,B_eq]
 congr 5<;>omega
theorem sub64 (x y b:Nat) (hb:b≤1) (w:World):(callFunc 130 #[.int .u64 x,.int .u64 y,.int .u64 b]).run Tryz.prog w =
  .ok (.value (.tuple #[.int .u64 (((x+B-y-b) % B:Nat):Int),.int .u64 ((if x<y+b then 1 else 0:Nat):Int)])) w:=by
 rw[run_callFunc_extern Tryz.func130 (by kernel_rfl) (by kernel_rfl) (by kernel_rfl) (e:=sub64Entry) (by kernel_rfl),run_sub64 x y b hb];rfl
theorem add_any (A A':Option Addr) (c c':Nat) (xs ys:List Nat) (w:World) (h:Nums w A c xs) (h':Nums w A' c' ys) (hs:xs.length≤1000000000000) (hs':ys.length≤1000000000000) :
  Calls Tryz.prog 78 #[.slice A xs.length c,.slice A' ys.length c'] w (Ret w (val xs+val ys)):=by
 have hl:=nl_val h.ok;have hl':=nl_val h'.ok;have HU:=zh (fun W (hW:Nums W A c xs)=>used_any A c xs W hW zo);have HU':=zh (fun W (hW:Nums W A' c' ys)=>used_any A' c' ys W hW zo);obtain⟨n,hn⟩:∃n,n=max (nl (val xs)) (nl (val ys)):=⟨_,rfl⟩;have hn1:nl (val xs)≤n:=zo;have hn2:nl (val ys)≤n:=zo;have hn3:n≤1000000000000:=zo;have hmx:(if nl (val xs)<nl (val ys) then((nl (val ys):Nat):Int) else((nl (val xs):Nat):Int))=(n:Int):=by split<;>omega
 have hmk:=make_words (n+1) zo;rw[show((n+1:Nat):Int)=(n:Int)+1 from by omega] at hmk;clear hn;go_enter Tryz.func78,Tryz.ntmps78
 go_wp2_with fail
 refine(HU.out _ h).mono ?_;rintro e w' ⟨rfl,rfl⟩;go_wp2_with fail
 refine(HU'.out _ h').mono ?_;rintro e w' ⟨rfl,rfl⟩;go_wp2_with fail
 clear hmx;refine(reader_any _ _ _ _).mono ?_;rintro e w1 ⟨g1,rfl,hx1,hg1,hb1⟩;go_wp2_with fail
 refine(reader_any _ _ _ _).mono ?_;rintro e w2 ⟨g2,rfl,hx2,hg2,hb2⟩;have hbA:=below_trans hb1 hb2;have hN1:=h.below hbA;have hN2:=h'.below hbA;have hX1:=hx1.below hb2;obtain⟨g,hg⟩:∃g,g=w2.heap.size:=⟨_,rfl⟩;go_wp2_with fail
 rw[←hg];have HG:=zh hg;clear hg hmk;go_loopw [9,24] (fun cv i wr=>∃k cy:Nat,k≤n∧i=.int .i64 k∧cv=.int .u64 cy∧∃zs,zs.length=n+1∧Row wr g zs∧AddInv xs ys zs k cy∧Below w2.heap.size w2 wr) (fun _ i _=>n-(intOf i).toNat)
 case atStart=>exact⟨0,0,uA _,rfl,rfl,List.replicate (n+1) 0,by simp,by rw[HG.out];exact Row.new w2 _,AddInv.start _ _ _,(Below.refl _ _).alloc (aA _) _⟩
 case round =>
  obtain⟨k,cy,hk,rfl,rfl,zs,hz,hr,hi,hb⟩:=hrel;by_cases hlt:k<n
  ·have had:=add64 (dg xs k) (dg ys k) cy hi.2.1;have hcell:=hr.cell (k:=k) zo;have hfr:=hr.frozen k;have HZ:=zh hz;clear hz;go_wp2_with fail
   refine(read_any g1 A c k xs _ (hX1.below hb).cell (hN1.below hb)).mono ?_;rintro e w' ⟨rfl,rfl⟩;go_wp2_with fail
   refine(read_any g2 A' c' k ys _ (hx2.below hb).cell (hN2.below hb)).mono ?_;rintro e w' ⟨rfl,rfl⟩;go_wp2_with fail
   go_roundw
   case rel=>exact⟨k+1,_,zo,by go_num,rfl,_,by rw[nC];exact HZ.out,hr.set k _,hi.step h.ok h'.ok (zi HZ.out),hb.setCell (by rw[HG.out];exact aA _) _⟩
   case measure=>simp[intOf];omega
  ·obtain rfl:k=n:=zo;have hcell:=hr.cell (k:=k) zo;have hfr:=hr.frozen k;have HZ:=zh hz;clear hz;go_wp2_with fail
   obtain⟨ho,hv⟩:=hi.done h.ok h'.ok HZ.out hn1 hn2;have ht:=tidy_row g (k+1) (zs.set k cy) _ (hr.set k cy) ho (by rw[nC,HZ.out];omega) zo w.heap.size (val xs+val ys) (by rw[HG.out];exact hbA.size) (by rw[fA (by rw[nC,HZ.out];omega)];exact hv);rw[nC,HZ.out] at ht;have HT:=zh ht;clear ht hv;refine HT.out.mono ?_;rintro e w' ⟨A1,c1,rfl,ho1,rfl⟩;go_wp2_with fail
   go_ret
   exact⟨A1,c1,rfl,ho1,below_trans hbA (hb.setCell (by rw[HG.out];exact aA _) _)⟩
def InRow (w:World) (g n:Nat) (zs:List Nat) (v:Nat) (e:Ending) (w':World):Prop :=
 e=.returned (.slice (some ⟨g,0,none⟩) n zs.length)∧∃zs',Row w' g zs'∧Ok zs'∧zs'.length=zs.length∧val (zs'.take n)=v∧w.grownBy w' (some g)
theorem lessen_any (g n:Nat) (zs:List Nat) (A':Option Addr) (c':Nat) (ys:List Nat) (w:World) (hr:Row w g zs) (ho:Ok zs) (hn:n≤zs.length) (hs:n≤4000000000000)
  (h':Nums w A' c' ys) (hA:Off A' ys g) (hle:val ys≤val (zs.take n)) :
  Calls Tryz.prog 107 #[.slice (some ⟨g,0,none⟩) n zs.length,.slice A' ys.length c'] w (InRow w g n zs (val (zs.take n)-val ys)):=by
 have hg:=hr.lt;have HA:=zh hA;have HLE:=zh hle;clear hA hle;go_enter Tryz.func107,Tryz.ntmps107
 go_wp2_with fail
 refine(reader_any _ _ _ _).mono ?_;rintro e w1 ⟨g1,rfl,hx1,hg1,hb1⟩;have hr1:=hr.below hb1 hg;have hN1:=h'.below hb1;go_wp2_with fail
 go_loopw [6,12] (fun bv i wr=>∃k bw:Nat,k≤n∧i=.int .i64 k∧bv=.int .u64 bw∧∃us,us.length=zs.length∧Row wr g us∧SubInv zs ys us k bw∧w1.grownBy wr (some g)) (fun _ i _=>n-(intOf i).toNat)
 case atStart=>exact⟨0,0,uA _,rfl,rfl,zs,rfl,hr1,SubInv.start ys ho,World.grownBy.refl _ _⟩
 case round =>
  obtain⟨k,bw,hk,rfl,rfl,us,hu,hru,hi,hgr⟩:=hrel;by_cases hlt:k<n
  ·have had:=sub64 (dg us k) (dg ys k) bw hi.2.1;have hcell:=hru.cell (k:=k) zo;have hfr:=hru.frozen k;have hkn:(k:Int)<n:=zo;have hk0:(0:Int)≤k:=zo;have hcall:=read_any g1 A' c' k ys wr.drew (hx1.grown hgr (by simp;omega)).cell (hN1.grownOff hgr HA.out).drew;have HU:=zh hu;have HCL:=zh hcall;clear hu hcall;go_wp2_with fail
   go_region_with ((go_at_call 129;refine HCL.out.mono ?_;rintro e w' ⟨rfl,rfl⟩))
   all_goals
    go_wp2_with fail
    go_roundw
    case rel=>exact⟨k+1,_,zo,by go_num,rfl,_,by rw[nC];exact HU.out,(hru.set k _).drew,hi.step ho h'.ok (zi HU.out),grown_drew (grown_set hgr (.inl rfl) _)⟩
    case measure=>simp[intOf];omega
  ·obtain rfl:k=n:=zo;go_wp2_with fail
   go_ret
   have hnl:nl (val ys)≤k:=nl_le_of_lt (aD HLE.out (val_take_lt ho k));exact⟨rfl,us,hru,hi.1,hu,(hi.done ho h'.ok hnl HLE.out).2,grown_trans (grown_below hb1 _) hgr⟩
theorem sub_any (A A':Option Addr) (c c':Nat) (xs ys:List Nat) (w:World) (h:Nums w A c xs) (h':Nums w A' c' ys) (hs:xs.length≤4000000000000) (hs':ys.length≤4000000000000) :
  Calls Tryz.prog 79 #[.slice A xs.length c,.slice A' ys.length c'] w (Ret w (val xs-val ys)):=by
 have HC:=zh (cmp_any A A' c c' xs ys w h h' hs hs');by_cases hle:val xs≤val ys
 ·have h0:val xs-val ys=0:=zo;rw[h0];have t:decide (cmpI ((val xs:Nat):Int) ((val ys:Nat):Int)≤0)=true:=by
   rcases Nat.lt_or_eq_of_le hle with hl | hl
   ·rw[cmpI_lt zo];rfl
   ·rw[hl,cmpI_eq];rfl
  have HR:Hid (∀n,Ret w 0 (.returned (.slice none 0 0)) (w.drewN n)):=fun n=>⟨none,0,rfl,.inl ⟨rfl,rfl,rfl⟩,below_drewN (Below.refl _ _) n⟩;clear hle h0;go_enter Tryz.func79,Tryz.ntmps79
  go_wp2_with fail
  refine HC.out.mono ?_;rintro e w' ⟨rfl,n,rfl⟩;go_wp2_with fail
  go_ret
  exact HR.out n
 ·have t:decide (cmpI ((val xs:Nat):Int) ((val ys:Nat):Int)≤0)=false:=by rw[cmpI_gt zo];rfl
  have HN:=zh hle;clear hle;go_enter Tryz.func79,Tryz.ntmps79
  go_wp2_with fail
  refine HC.out.mono ?_;rintro e w' ⟨rfl,n,rfl⟩;go_wp2_with fail
  refine(trim_any A c xs _ (h.drewN n) hs).mono ?_;rintro e w1 ⟨A1,c1,rfl,ho1,hb1⟩;rcases ho1 with⟨h0,_⟩ | ⟨h0,g,zs,rfl,hg,hr,rfl,hl,ht,ho⟩
  ·exact absurd h0 (zi HN.out)
  go_wp2_with fail
  have hbA:Below w.heap.size w w1:=(below_drewN (Below.refl _ _) n).trans hb1;have hlen:(zs.take (nl (val xs))).length=nl (val xs):=by rw[mB];omega
  have hval:val (zs.take (nl (val xs)))=val xs:=by rw[ht,val_limbs]
  have hnl:=nl_val h.ok;have hl1:=lessen_any g (nl (val xs)) zs A' c' ys w1 hr ho hl zo (h'.below hbA) (h'.off hg) (by rw[hval];have:=HN.out;omega);rw[hval] at hl1;refine hl1.mono ?_;rintro e w2 ⟨rfl,us,hru,hou,hlu,hvu,hgr⟩;have hlu':=zh hlu;go_wp2_with fail
  have ht:=tidy_row g (nl (val xs)) us w2 hru hou zo zo w.heap.size (val xs-val ys) hg hvu;rw[hlu] at ht;refine ht.mono ?_;rintro e w3 ⟨A3,c3,rfl,ho3,rfl⟩;go_wp2_with fail
  go_ret
  exact⟨A3,c3,rfl,ho3,below_row hbA hgr hg⟩
end Go.Proofs.YtiondclbdgijbaaGreatDoor
