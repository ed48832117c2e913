import Derived.Test.YtiondclbdgijbaaGreatDoorYA
namespace Tw
def B:Nat:=18446744073709551616
theorem B_eq:B=18446744073709551616:=rfl
theorem B_pos:0<B:=by rw[B_eq];omega
theorem B_two:2≤B:=by rw[B_eq];omega
def val:List Nat→Nat
 | []=>0
 | x :: xs=>x+B*val xs
theorem val_nil:val []=0:=rfl
theorem val_cons (x:Nat) (xs:List Nat):val (x :: xs)=x+B*val xs:=rfl
theorem val_append (xs ys:List Nat):val (xs++ys)=val xs+B ^ xs.length*val ys:=by
 induction xs with
 | nil=>simp[val]
 | cons x xs ih =>
  simp only[bE,val,ih,cC,yB,zA]
  rw[show B*(B ^ xs.length*val ys)=B ^ xs.length*B*val ys from by rw[qB (B ^ xs.length) B,nB]];omega
theorem val_snoc (xs:List Nat) (x:Nat):val (xs++[x])=val xs+B ^ xs.length*x:=by
 rw[val_append];simp[val]
theorem val_replicate (n:Nat):val (List.replicate n 0)=0:=by
 induction n with
 | zero=>rfl
 | succ n ih=>simp[List.replicate_succ,val,ih]
def Ok (xs:List Nat):Prop:=∀x∈xs,x<B
theorem Ok.nil:Ok []:=fun _ h=>by cases h
theorem Ok.cons {x:Nat} {xs:List Nat} (hx:x<B) (h:Ok xs):Ok (x :: xs):=fun y hy=>by
 rcases rB.1 hy with rfl | hy
 ·exact hx
 ·exact h y hy
theorem Ok.head {x:Nat} {xs:List Nat} (h:Ok (x :: xs)):x<B:=h x (by simp)
theorem Ok.tail {x:Nat} {xs:List Nat} (h:Ok (x :: xs)):Ok xs:=fun y hy=>h y (by simp[hy])
theorem Ok.append {xs ys:List Nat} (h:Ok xs) (k:Ok ys):Ok (xs++ys):=fun y hy=>by
 rcases uD.1 hy with hy | hy
 ·exact h y hy
 ·exact k y hy
theorem Ok.take {xs:List Nat} (h:Ok xs) (n:Nat):Ok (xs.take n):=fun y hy=>h y (xF hy)
theorem Ok.drop {xs:List Nat} (h:Ok xs) (n:Nat):Ok (xs.drop n):=fun y hy=>h y (List.mem_of_mem_drop hy)
theorem Ok.get {xs:List Nat} (h:Ok xs) (n:Nat):xs.getD n 0<B:=by
 rw[qA];rcases eB n xs.length with hn | hn
 ·rw[cA hn];exact h _ (cG hn)
 ·rw[cB hn];exact B_pos
theorem Ok.replicate (n:Nat):Ok (List.replicate n 0):=fun y hy=>by
 rw[List.eq_of_mem_replicate hy];exact B_pos
theorem Ok.set {xs:List Nat} (h:Ok xs) (i x:Nat) (hx:x<B):Ok (xs.set i x):=fun y hy=>by
 rcases tF hy with hy | rfl
 ·exact h y hy
 ·exact hx
theorem val_lt {xs:List Nat} (h:Ok xs):val xs<B ^ xs.length:=by
 induction xs with
 | nil=>simp[val]
 | cons x xs ih =>
  have h1:=ih h.tail;have h2:=h.head;simp only[val,cC,yB]
  have h3:B*(val xs+1)≤B*B ^ xs.length:=aC _ h1;rw[qB (B ^ xs.length) B,];rw[zA] at h3;omega
def limbsF:Nat→Nat→List Nat
 | 0,_=>[]
 | f+1,n=>if n=0 then [] else n % B :: limbsF f (n / B)
def limbs (n:Nat):List Nat:=limbsF n n
theorem div_B_lt {n:Nat} (h:n≠0):n / B<n:=Nat.div_lt_self zo (by rw[B_eq];omega)
theorem limbsF_eq (f g n : Nat) (hf : n ≤ f) (hg : n ≤ g) : limbsF f n = limbsF g n := by
  induction f generalizing g n with
  | zero => have : n = 0 := by omega
            subst this; cases g <;> simp [limbsF]
  | succ f ih =>
    cases g with
    | zero => have : n = 0 := by omega
              subst this; simp [limbsF]
    | succ g =>
      simp only [limbsF]
      by_cases h : n = 0
      · simp [h]
      · rw [dA h, dA h]
        have := div_B_lt h;rw [ih g (n / B) zo zo]
theorem limbs_zero:limbs 0=[]:=rfl
theorem limbs_pos {n:Nat} (h:n≠0):limbs n=n % B :: limbs (n / B):=by
 have h1:=div_B_lt h;unfold limbs
 conv=>lhs;rw[show n=(n-1)+1 from by omega]
 rw[limbsF,show n-1+1=n from by omega,dA h,limbsF_eq (n-1) (n / B) (n / B) zo (aA _)]
theorem limbs_ind {p:Nat→Prop} (h0:p 0) (h:∀n,n≠0→p (n / B)→p n) (n:Nat):p n:=by
 induction n using Nat.strongRecOn with
 | ind n ih =>
  by_cases hn:n=0
  ·subst hn;exact h0
  ·exact h n hn (ih _ (div_B_lt hn))
theorem val_limbs (n:Nat):val (limbs n)=n:=by
 induction n using limbs_ind with
 | h0=>rfl
 | h n hn ih=>rw[limbs_pos hn,val,ih,kF]
theorem ok_limbs (n:Nat):Ok (limbs n):=by
 induction n using limbs_ind with
 | h0=>exact Ok.nil
 | h n hn ih=>rw[limbs_pos hn];exact Ok.cons (fC _ B_pos) ih
def nl (n:Nat):Nat:=(limbs n).length
theorem nl_zero:nl 0=0:=rfl
theorem nl_pos {n:Nat} (h:n≠0):nl n=nl (n / B)+1:=by unfold nl;rw[limbs_pos h];rfl
theorem nl_eq_zero {n:Nat}:nl n=0↔n=0:=by
 constructor
 ·intro h;by_cases hn:n=0
  ·exact hn
  ·rw[nl_pos hn] at h;omega
 ·rintro rfl;rfl
theorem lt_pow_nl (n:Nat):n<B ^ nl n:=by
 have:=val_lt (ok_limbs n);rw[val_limbs] at this;exact this
theorem nl_le_of_lt {n k:Nat} (h:n<B ^ k):nl n≤k:=by
 induction k generalizing n with
 | zero=>simp at h;subst h;simp[nl_zero]
 | succ k ih =>
  by_cases hn:n=0
  ·subst hn;simp[nl_zero]
  ·rw[nl_pos hn];have:n / B<B ^ k:=by
    rw[eC B_pos];rw[yB] at h;exact h
   have:=ih this;omega
theorem nl_le_iff {n k:Nat}:nl n≤k↔n<B ^ k :=
 ⟨fun h=>gC (lt_pow_nl n) (wD B_pos h),nl_le_of_lt⟩
theorem nl_mono {a b:Nat} (h:a≤b):nl a≤nl b:=nl_le_of_lt (aD h (lt_pow_nl b))
theorem nl_val {xs:List Nat} (h:Ok xs):nl (val xs)≤xs.length:=nl_le_of_lt (val_lt h)
theorem limbs_val {xs:List Nat} (h:Ok xs):xs=limbs (val xs)++List.replicate (xs.length-nl (val xs)) 0:=by
 induction xs with
 | nil=>rfl
 | cons x xs ih =>
  have ih:=ih h.tail;have hx:=h.head;have hl:=nl_val h.tail;by_cases h0:val (x :: xs)=0
  ·rw[h0];have h1:x=0∧val xs=0:=by
    rw[val_cons] at h0;have:B*val xs=0:=zo;rcases Nat.mul_eq_zero.1 this with h | h
    ·have:=B_pos;omega
    ·exact⟨zo,h⟩
   rw[h1.2] at ih;simp[limbs_zero,nl_zero] at ih ⊢
   rw[List.replicate_succ,h1.1,←ih]
  ·rw[nl_pos h0,limbs_pos h0];have e1:val (x :: xs) % B=x:=by rw[val_cons,uF,cD hx]
   have e2:val (x :: xs) / B=val xs:=by rw[val_cons,kE _ _ B_pos,vD hx,mC]
   rw[e1,e2,cC,Nat.add_sub_add_right,bE,←ih]
theorem limbs_take {xs:List Nat} (h:Ok xs):xs.take (nl (val xs))=limbs (val xs):=by
 have e:=limbs_val h;generalize val xs=v at e ⊢
 rw[e,List.take_append_of_le_length (by unfold nl;exact aA _),fA (by unfold nl;exact aA _)]
theorem getD_past {xs:List Nat} (h:Ok xs) {i:Nat} (hi:nl (val xs)≤i):xs.getD i 0=0:=by
 rw[qA,limbs_val h,kD (by exact hi),List.getElem?_replicate];split<;>rfl
theorem getD_limbs {xs:List Nat} (h:Ok xs) (i:Nat):xs.getD i 0=(limbs (val xs)).getD i 0:=by
 rcases eB i (nl (val xs)) with hi | hi
 ·rw[←limbs_take h,qA,qA,rD,bB hi]
 ·rw[getD_past h hi,qA,cB (by exact hi)];rfl
theorem top_ne {n:Nat} (h:n≠0):(limbs n).getD (nl n-1) 0≠0:=by
 intro h0;have hp:0<nl n:=zi (nl_pos h);have e:limbs n=(limbs n).take (nl n-1)++[0]:=by
  have hlen:nl n-1<(limbs n).length:=by unfold nl at *;omega
  have h1:(limbs n).drop (nl n-1)=[(limbs n).getD (nl n-1) 0]:=by
   rw[fD hlen,qD (by unfold nl at *;omega),qA,cA hlen];rfl
  rw[h0] at h1;rw[←h1,mD]
 have:val (limbs n)<B ^ (nl n-1):=by
  rw[e,val_snoc,mE,bD];have:=val_lt ((ok_limbs n).take (nl n-1));rw[mB,sC (by unfold nl;omega)] at this;exact this
 rw[val_limbs] at this;have:=nl_le_of_lt this;omega
theorem limbs_of {xs:List Nat} (h:Ok xs) (ht:xs=[]∨xs.getD (xs.length-1) 0≠0):limbs (val xs)=xs:=by
 have hl:nl (val xs)=xs.length:=by
  have h1:=nl_val h;rcases eB (nl (val xs)) xs.length with h2 | h2
  ·rcases ht with rfl | ht
   ·simp at h2
   ·exact absurd (getD_past h zo) ht
  ·omega
 conv=>rhs;rw[limbs_val h]
 rw[hl];simp
theorem nl_of {xs:List Nat} (h:Ok xs) {n:Nat} (hn:n≤xs.length) (h0:∀i,n≤i→i<xs.length→xs.getD i 0=0) (ht:n=0∨xs.getD (n-1) 0≠0):nl (val xs)=n:=by
 rcases Nat.lt_trichotomy (nl (val xs)) n with h1 | h1 | h1
 ·rcases ht with rfl | ht
  ·omega
  ·exact absurd (getD_past h zo) ht
 ·exact h1
 ·have hv:val xs≠0:=fun e=>by rw[e,nl_zero] at h1;omega
  have hl:=nl_val h;have:=top_ne hv;rw[←getD_limbs h] at this;exact absurd (h0 _ zo zo) this
theorem val_take_succ (xs:List Nat) (k:Nat) (h:k<xs.length):val (xs.take (k+1))=val (xs.take k)+B ^ k*xs.getD k 0:=by
 rw[List.take_succ_eq_append_getElem h,val_snoc,mB,sC zo,qA,cA h];rfl
theorem val_take_past (xs:List Nat) (k:Nat) (h:xs.length≤k):val (xs.take k)=val xs:=by rw[fA h]
theorem val_take_succ' (xs:List Nat) (k:Nat):val (xs.take (k+1))=val (xs.take k)+B ^ k*xs.getD k 0:=by
 rcases eB k xs.length with h | h
 ·exact val_take_succ xs k h
 ·rw[val_take_past _ _ h,val_take_past _ _ zo,qA,cB h];simp
theorem val_drop (xs:List Nat) (k:Nat) (h:k≤xs.length):val xs=val (xs.take k)+B ^ k*val (xs.drop k):=by
 conv=>lhs;rw[←mD k xs,val_append,mB,sC h]
def dg (xs:List Nat) (k:Nat):Nat:=xs.getD k 0
theorem dg_get {xs:List Nat} {k:Nat} (h:k<xs.length):xs[k]?=some (dg xs k):=by
 unfold dg;rw[qA,cA h];rfl
theorem dg_lt {xs:List Nat} (h:Ok xs) (k:Nat):dg xs k<B:=h.get k
theorem dg_past {xs:List Nat} {k:Nat} (h:xs.length≤k):dg xs k=0:=by
 unfold dg;rw[qA,cB h];rfl
theorem val_congr {xs ys:List Nat} (h:∀i,dg xs i=dg ys i):val xs=val ys:=by
 induction xs generalizing ys with
 | nil =>
  induction ys with
  | nil=>rfl
  | cons y ys ih =>
   have h0:=h 0;simp only[dg,aG,List.getD_nil] at h0
   have:=ih (fun i=>by have:=h (i+1);simpa [dg] using this);rw[val_cons,←h0,←this];rfl
 | cons x xs ih =>
  cases ys with
  | nil =>
   have h0:=h 0;simp only[dg,aG,List.getD_nil] at h0
   have:=@ih [] (fun i=>by have:=h (i+1);simpa [dg] using this);rw[val_cons,h0,this];rfl
  | cons y ys =>
   have h0:=h 0;simp only[dg,aG] at h0
   rw[val_cons,val_cons,h0,ih (fun i=>by have:=h (i+1);simpa [dg] using this)]
theorem dg_drop (xs:List Nat) (k i:Nat):dg (xs.drop k) i=dg xs (k+i):=by
 unfold dg;rw[qA,qA,List.getElem?_drop]
theorem dg_take {xs:List Nat} {k i:Nat} (h:i<k):dg (xs.take k) i=dg xs i:=by
 unfold dg;rw[qA,qA,rD,bB h]
theorem val_split (xs:List Nat) (k:Nat):val xs=val (xs.take k)+B ^ k*val (xs.drop k):=by
 rcases eB xs.length k with h | h
 ·rw[fA zo,qD zo,val_nil,mE,bD]
 ·exact val_drop xs k h
theorem val_take_lt {xs:List Nat} (h:Ok xs) (k:Nat):val (xs.take k)<B ^ k :=
 gC (val_lt (h.take k)) (wD B_pos (by rw[mB];omega))
theorem val_take_nl {xs:List Nat} (h:Ok xs) {n:Nat} (hn:nl (val xs)≤n):val (xs.take n)=val xs:=by
 have e:val (xs.drop n)=0:=by
  have:=val_congr (xs:=xs.drop n) (ys:=[]) (fun i=>by rw[dg_drop];unfold dg;rw[getD_past h zo];rfl);rw[this];rfl
 have:=val_split xs n;rw[e,mE,bD] at this;exact this.symm
theorem take_set_succ (zs:List Nat) (k v:Nat) (h:k<zs.length):(zs.set k v).take (k+1)=zs.take k++[v]:=by
 rw[List.take_succ_eq_append_getElem (by simpa using h),bG (aA k),List.getElem_set_self]
theorem val_set_take (zs:List Nat) (k v:Nat) (h:k<zs.length):val ((zs.set k v).take (k+1))=val (zs.take k)+B ^ k*v:=by
 rw[take_set_succ zs k v h,val_snoc,mB,sC zo]
def AddInv (xs ys zs:List Nat) (k cy:Nat):Prop:=Ok zs∧cy≤1∧val (zs.take k)+B ^ k*cy=val (xs.take k)+val (ys.take k)
theorem AddInv.start (xs ys:List Nat) (n:Nat):AddInv xs ys (List.replicate n 0) 0 0:=⟨Ok.replicate n,zo,by simp[val]⟩
theorem AddInv.step {xs ys zs:List Nat} {k cy:Nat} (h:AddInv xs ys zs k cy) (hx:Ok xs) (hy:Ok ys) (hk:k<zs.length) :
  AddInv xs ys (zs.set k ((dg xs k+dg ys k+cy) % B)) (k+1) ((dg xs k+dg ys k+cy) / B):=by
 obtain⟨ho,hc,hv⟩:=h;have h1:=dg_lt hx k;have h2:=dg_lt hy k;refine⟨ho.set _ _ (fC _ B_pos),?_,?_⟩
 ·have:(dg xs k+dg ys k+cy) / B<2:=by rw[eC B_pos];omega
  omega
 ·rw[val_set_take _ _ _ hk,val_take_succ',val_take_succ',yB,nB,gE,←zA];show val (zs.take k)+B ^ k*_=_+B ^ k*dg xs k+(_+B ^ k*dg ys k)
  rw[kF,zA,zA];omega
theorem AddInv.done {xs ys zs:List Nat} {n cy:Nat} (h:AddInv xs ys zs n cy) (hx:Ok xs) (hy:Ok ys) (hl:zs.length=n+1) (h1:nl (val xs)≤n) (h2:nl (val ys)≤n):Ok (zs.set n cy)∧val (zs.set n cy)=val xs+val ys:=by
 obtain⟨ho,hc,hv⟩:=h;refine⟨ho.set _ _ (zi B_two),?_⟩;have:=val_set_take zs n cy zo;rw[fA (by simp;omega)] at this;rw[this,hv,val_take_nl hx h1,val_take_nl hy h2]
def SubInv (xs ys zs:List Nat) (k bw:Nat):Prop:=Ok zs∧bw≤1∧val (zs.take k)+val (ys.take k)=val (xs.take k)+B ^ k*bw∧∀i,k≤i→dg zs i=dg xs i
theorem SubInv.start {xs:List Nat} (ys:List Nat) (h:Ok xs):SubInv xs ys xs 0 0:=⟨h,zo,by simp[val],fun _ _=>rfl⟩
theorem dg_set_ne {zs:List Nat} {k i x:Nat} (h:k≠i):dg (zs.set k x) i=dg zs i:=by
 unfold dg;rw[qA,qA,List.getElem?_set_ne h]
theorem sub_digit {x y b:Nat} (hx:x<B) (hy:y<B) (hb:b≤1):(x+B-y-b) % B+y+b=x+B*(if x<y+b then 1 else 0):=by
 by_cases h:x<y+b
 ·rw[bB h,cD zo];omega
 ·rw[dA h,show x+B-y-b=(x-y-b)+B from by omega,Nat.add_mod_right,cD zo];omega
theorem SubInv.step {xs ys zs:List Nat} {k bw:Nat} (h:SubInv xs ys zs k bw) (_hx:Ok xs) (hy:Ok ys) (hk:k<zs.length) :
  SubInv xs ys (zs.set k ((dg zs k+B-dg ys k-bw) % B)) (k+1) (if dg zs k<dg ys k+bw then 1 else 0):=by
 obtain⟨ho,hc,hv,hr⟩:=h;have h1:=dg_lt ho k;have h2:=dg_lt hy k;have h3:=sub_digit h1 h2 hc;refine⟨ho.set _ _ (fC _ B_pos),by split<;>omega,?_,fun i hi=>?_⟩
 ·rw[val_set_take _ _ _ hk,val_take_succ',val_take_succ',yB,nB];rw[←show dg zs k=xs.getD k 0 from hr k (aA _)];show val (zs.take k)+B ^ k*_+(_+B ^ k*dg ys k)=_+B ^ k*dg zs k+B ^ k*_
  generalize (dg zs k+B-dg ys k-bw) % B=d at h3 ⊢
  generalize (B*if dg zs k<dg ys k+bw then 1 else 0)=e at h3 ⊢
  have h4:B ^ k*(d+dg ys k+bw)=B ^ k*(dg zs k+e):=by rw[h3]
  rw[zA,zA,zA] at h4;omega
 ·rw[dg_set_ne zo];exact hr i zo
theorem SubInv.done {xs ys zs:List Nat} {n bw:Nat} (h:SubInv xs ys zs n bw) (_hz:Ok xs) (hy:Ok ys) (hn:nl (val ys)≤n) (hle:val ys≤val (xs.take n)):bw=0∧val (zs.take n)=val (xs.take n)-val ys:=by
 obtain⟨ho,hc,hv,hr⟩:=h;rw[val_take_nl hy hn] at hv;have h1:=val_take_lt ho n;rcases qC bw with rfl | hb
 ·exact⟨rfl,zo⟩
 ·obtain rfl:bw=1:=zo;rw[kC] at hv;omega
def MulOut (xs ys zs:List Nat) (m i:Nat):Prop:=Ok zs∧val (zs.take (i+m))=val (xs.take i)*val (ys.take m)
def MulIn (x:Nat) (ys zs0 zs:List Nat) (i j cy:Nat):Prop:=Ok zs∧cy<B∧val (zs.take (i+j))+B ^ (i+j)*cy=val (zs0.take (i+j))+B ^ i*(x*val (ys.take j))∧∀k,i+j≤k→dg zs k=dg zs0 k
theorem MulOut.start (xs ys:List Nat) (m l:Nat):MulOut xs ys (List.replicate l 0) m 0:=⟨Ok.replicate l,by simp[List.take_replicate,val_replicate,val]⟩
theorem MulIn.start (x:Nat) (ys:List Nat) {zs:List Nat} (h:Ok zs) (i:Nat):MulIn x ys zs zs i 0 0:=⟨h,B_pos,by simp[val],fun _ _=>rfl⟩
theorem mul_digit {x y z c:Nat} (hx:x<B) (hy:y<B) (hz:z<B) (hc:c<B) :
  ((x*y % B+z) % B+c) % B+B*(x*y / B+(x*y % B+z) / B+((x*y % B+z) % B+c) / B)=x*y+z+c∧x*y / B+(x*y % B+z) / B+((x*y % B+z) % B+c) / B<B:=by
 have h1:=bC (x*y) B;have h2:=bC (x*y % B+z) B;have h3:=bC ((x*y % B+z) % B+c) B;have e:((x*y % B+z) % B+c) % B+B*(x*y / B+(x*y % B+z) / B+((x*y % B+z) % B+c) / B)=x*y+z+c:=by
  rw[zA,zA];omega
 refine⟨e,?_⟩;have h4:x*y≤(B-1)*(B-1):=xE zo zo;have h5:(B-1)*(B-1)+(B-1)+(B-1)<B*B:=by decide
 have h6:B*(x*y / B+(x*y % B+z) / B+((x*y % B+z) % B+c) / B)<B*B:=zo;exact vF h6
theorem MulIn.step {x:Nat} {ys zs0 zs:List Nat} {i j cy lo hi:Nat} (h:MulIn x ys zs0 zs i j cy) (hk:i+j<zs.length) (hlo:lo<B) (hhi:hi<B) (he:lo+B*hi=x*dg ys j+dg zs (i+j)+cy) :
  MulIn x ys zs0 (zs.set (i+j) lo) i (j+1) hi:=by
 obtain⟨ho,hc,hv,hr⟩:=h;refine⟨ho.set _ _ hlo,hhi,?_,fun k hk=>?_⟩
 ·rw[←gE,val_set_take _ _ _ hk,val_take_succ',val_take_succ',yB,nB];rw[←show dg zs (i+j)=zs0.getD (i+j) 0 from hr _ (aA _)];show val (zs.take (i+j))+B ^ (i+j)*lo+_=_+_+B ^ i*(x*(_+B ^ j*dg ys j))
  have h1:B ^ (i+j)*(lo+B*hi)=B ^ (i+j)*(x*dg ys j+dg zs (i+j)+cy):=by rw[he]
  rw[zA,zA,zA] at h1;have h2:B ^ i*(x*(val (ys.take j)+B ^ j*dg ys j))=B ^ i*(x*val (ys.take j))+B ^ (i+j)*(x*dg ys j):=by
   rw[zA,zA,tC,nB,jD x]
  rw[h2];omega
 ·rw[dg_set_ne zo];exact hr k zo
theorem MulIn.done {xs ys zs0 zs:List Nat} {i m cy:Nat} (h:MulIn (dg xs i) ys zs0 zs i m cy) (h0:MulOut xs ys zs0 m i) (hk:i+m<zs.length):MulOut xs ys (zs.set (i+m) cy) m (i+1):=by
 obtain⟨ho,hc,hv,hr⟩:=h;refine⟨ho.set _ _ hc,?_⟩;rw[Nat.add_right_comm,val_set_take _ _ _ hk,hv,h0.2,val_take_succ',xB];show _+B ^ i*(dg xs i*_)=_+B ^ i*dg xs i*_
 rw[nB]
theorem MulOut.done {xs ys zs:List Nat} {n m:Nat} (h:MulOut xs ys zs m n) (hx:Ok xs) (hy:Ok ys) (hn:nl (val xs)≤n) (hm:nl (val ys)≤m) (hl:zs.length=n+m):val zs=val xs*val ys:=by
 have:=h.2;rwa [fA zo,val_take_nl hx hn,val_take_nl hy hm] at this
def Agree (xs ys:List Nat) (k:Nat):Prop:=∀i,k≤i→dg xs i=dg ys i
theorem Agree.start {xs ys:List Nat} (hx:Ok xs) (hy:Ok ys) (h:nl (val xs)=nl (val ys)):Agree xs ys (nl (val xs)):=fun i hi=>by
 unfold dg;rw[getD_past hx hi,getD_past hy zo]
theorem Agree.down {xs ys:List Nat} {k:Nat} (h:Agree xs ys (k+1)) (hk:dg xs k=dg ys k):Agree xs ys k:=fun i hi=>by
 rcases Nat.eq_or_lt_of_le hi with rfl | hi
 ·exact hk
 ·exact h i hi
theorem Agree.all {xs ys:List Nat} (h:Agree xs ys 0):val xs=val ys:=val_congr fun i=>h i (uA _)
theorem Agree.less {xs ys:List Nat} {k:Nat} (hx:Ok xs) (h:Agree xs ys (k+1)) (hk:dg xs k<dg ys k):val xs<val ys:=by
 have e:val (xs.drop (k+1))=val (ys.drop (k+1)):=val_congr fun i=>by rw[dg_drop,dg_drop];exact h _ zo
 rw[val_split xs (k+1),val_split ys (k+1),e,val_take_succ',val_take_succ'];have h1:=val_take_lt hx k;have h2:B ^ k*(dg xs k+1)≤B ^ k*dg ys k:=aC _ hk;rw[zA] at h2;show val (xs.take k)+B ^ k*dg xs k+_<val (ys.take k)+B ^ k*dg ys k+_
 omega
theorem Agree.symm {xs ys:List Nat} {k:Nat} (h:Agree xs ys k):Agree ys xs k:=fun i hi=>(h i hi).symm
theorem lt_of_nl {a b:Nat} (h:nl a<nl b):a<b:=by
 rcases eB a b with h' | h'
 ·exact h'
 ·have:=nl_mono h';omega
def ZeroFrom (xs:List Nat) (k:Nat):Prop:=∀i,k≤i→i<xs.length→dg xs i=0
theorem ZeroFrom.start (xs:List Nat):ZeroFrom xs xs.length:=fun _ h k=>by omega
theorem ZeroFrom.down {xs:List Nat} {k:Nat} (h:ZeroFrom xs (k+1)) (hk:dg xs k=0):ZeroFrom xs k:=fun i hi hl=>by
 rcases Nat.eq_or_lt_of_le hi with rfl | hi
 ·exact hk
 ·exact h i hi hl
theorem ZeroFrom.done {xs:List Nat} {k:Nat} (h:ZeroFrom xs k) (ho:Ok xs) (hk:k≤xs.length) (ht:k=0∨dg xs (k-1)≠0):k=nl (val xs):=(nl_of ho hk h ht).symm
end Tw
namespace Tw
def H:Nat:=4294967296
theorem H_eq:H=4294967296:=rfl
theorem HH:H*H=B:=rfl
theorem H_pos:0<H:=by rw[H_eq];omega
def HInv (u d y1 y0 q r:Nat):Prop:=q*y1+r=u∧(u*H+d) / (y1*H+y0)≤q∧q≤H+1
structure HIn (u d y1 y0:Nat):Prop where
 hu:u<y1*H+y0
 hd:d<H
 hy0:y0<H
 hy1:y1<H
 half:H≤2*y1
theorem HIn.pos {u d y1 y0:Nat} (h:HIn u d y1 y0):0<y1:=zj h.half H_pos
theorem HIn.ypos {u d y1 y0:Nat} (h:HIn u d y1 y0):0<y1*H+y0:=zi h.hu
theorem HIn.qlt {u d y1 y0:Nat} (h:HIn u d y1 y0):(u*H+d) / (y1*H+y0)<H:=by
 rw[eC h.ypos];have h1:(u+1)*H≤(y1*H+y0)*H:=fB _ h.hu;have h2:=h.hd;rw[xB,fE] at h1;rw[qB H];omega
theorem HInv.start {u d y1 y0:Nat} (h:HIn u d y1 y0):HInv u d y1 y0 (u / y1) (u % y1)∧u % y1<H:=by
 have hp:=h.pos;have h1:=h.hy1;have hr:=fC u hp;refine⟨⟨by rw[qB];exact bC u y1,?_,?_⟩,zo⟩
 ·rcases eB (u / y1) ((u*H+d) / (y1*H+y0)) with hlt | hge
  ·exfalso
   have h2:=(Nat.le_div_iff_mul_le h.ypos).1 hlt;have h3:=bC u y1;have h4:u<(u / y1+1)*y1:=by rw[xB,fE,qB];omega
   have h5:(u+1)*H≤(u / y1+1)*y1*H:=fB _ h4;have h6:=h.hd;rw[xB,fE] at h5;have h7:(u / y1).succ*(y1*H+y0)=(u / y1+1)*y1*H+(u / y1+1)*y0:=by rw[Nat.succ_eq_add_one,zA,nB]
   rw[h7] at h2;omega
  ·exact hge
 ·have h2:u<(H+2)*y1:=by
   have h3:=h.hu;have h4:=h.half;have h5:=h.hy0;rw[xB,qB H];omega
  have h3:=(eC hp).2 h2;omega
theorem HInv.mulY {u d y1 y0 q r:Nat} (h:HInv u d y1 y0 q r):q*(y1*H+y0)+H*r=u*H+q*y0:=by
 have h1:u*H=q*y1*H+r*H:=by rw[←h.1,xB]
 rw[zA,←nB,h1,qB H r];omega
theorem HInv.dec {u d y1 y0 q r:Nat} (h:HInv u d y1 y0 q r) (hi:HIn u d y1 y0) (ht:H≤q∨H*r+d<q*y0) :
  1≤q∧HInv u d y1 y0 (q-1) (r+y1)∧q-1≤H:=by
 have hq:(u*H+d) / (y1*H+y0)<q:=by
  rcases ht with ht | ht
  ·have:=hi.qlt;omega
  ·rw[eC hi.ypos];have:=h.mulY;omega
 obtain⟨h1,h2,h3⟩:=h;have hq0:0<q:=aD (uA _) hq;obtain⟨p,rfl⟩:∃p,q=p+1:=⟨q-1,zo⟩;refine⟨zo,⟨?_,Nat.le_of_lt_succ hq,zo⟩,zo⟩;rw[xD];rw[xB,fE] at h1;omega
theorem HInv.test {u d y1 y0 q r:Nat} (h:HInv u d y1 y0 q r) (hi:HIn u d y1 y0) (ht:q*y0≤H*r+d):q=(u*H+d) / (y1*H+y0):=by
 have:=h.mulY;have:q≤(u*H+d) / (y1*H+y0):=(Nat.le_div_iff_mul_le hi.ypos).2 zo;have:=h.2.1;omega
theorem HInv.break_ {u d y1 y0 q r:Nat} (h:HInv u d y1 y0 q r) (hi:HIn u d y1 y0) (hq:q≤H) (hr:H≤r):q=(u*H+d) / (y1*H+y0):=by
 refine h.test hi ?_;have h1:q*y0≤H*y0:=fB _ hq;have h2:H*y0≤H*r:=aC _ (zi hi.hy0);omega
theorem halves {N Y u d1 d0 q1 r1 q0 r0:Nat} (hN:N=u*B+(d1*H+d0)) (h1:q1=(u*H+d1) / Y) (e1:r1=(u*H+d1) % Y) (h0:q0=(r1*H+d0) / Y) (e0:r0=(r1*H+d0) % Y) (hY:0<Y) :
  N / Y=q1*H+q0∧N % Y=r0:=by
 have a1:Y*q1+r1=u*H+d1:=by rw[h1,e1];exact bC _ _
 have a0:Y*q0+r0=r1*H+d0:=by rw[h0,e0];exact bC _ _
 have hr:r0<Y:=by rw[e0];exact fC _ hY
 have e:N=r0+Y*(q1*H+q0):=by
  rw[hN,←HH,←nB];have b1:(Y*q1+r1)*H=(u*H+d1)*H:=by rw[a1]
  rw[xB,xB,nB] at b1;rw[zA];omega
 exact⟨by rw[e,kE _ _ hY,vD hr,mC],by rw[e,uF,cD hr]⟩
theorem scaled {n y p:Nat} (hp:0<p):n*p / (y*p)=n / y∧n*p % (y*p) / p=n % y:=by
 refine⟨Nat.mul_div_mul_right n y hp,?_⟩;rw[Nat.mul_mod_mul_right,Nat.mul_div_cancel _ hp]
theorem pow_split {s:Nat} (h:s≤64):2 ^ (64-s)*2 ^ s=B:=by
 rw[←tC,Nat.sub_add_cancel h];rfl
theorem moved {hi lo y s:Nat} (hs:s≤64) (h:hi<y) (hlo:lo<B) (_hY:y*2 ^ s<B) :
  (hi*B+lo)*2 ^ s=(hi*2 ^ s+lo / 2 ^ (64-s))*B+lo*2 ^ s % B∧hi*2 ^ s+lo / 2 ^ (64-s)<y*2 ^ s∧lo / 2 ^ (64-s)<2 ^ s:=by
 have hp:=pow_split hs;have h1:0<2 ^ s:=dD s;have h2:0<2 ^ (64-s):=dD _;have e1:lo*2 ^ s / B=lo / 2 ^ (64-s):=by rw[←hp];exact Nat.mul_div_mul_right _ _ h1
 have e2:lo / 2 ^ (64-s)<2 ^ s:=by rw[eC h2,qB,hp];exact hlo
 refine⟨?_,?_,e2⟩
 ·have:=bC (lo*2 ^ s) B;rw[e1,qB B] at this;rw[xB,xB,nB,qB B,←nB];omega
 ·have:(hi+1)*2 ^ s≤y*2 ^ s:=fB _ h;rw[xB,fE] at this;omega
end Tw
namespace Tw
theorem pow64 {p:Nat} (h:p≤64):2 ^ p*2 ^ (64-p)=B:=by
 rw[←tC,Nat.add_sub_cancel' h];rfl
theorem pow_B (w:Nat):2 ^ (64*w)=B ^ w:=by rw[Nat.pow_mul];rfl
theorem shl_digit {x p:Nat} (hp:p≤64):x*2 ^ p % B=2 ^ p*(x % 2 ^ (64-p))∧x*2 ^ p / B=x / 2 ^ (64-p):=by
 rw[←pow64 hp,qB x];exact⟨Nat.mul_mod_mul_left _ _ _,Nat.mul_div_mul_left _ _ (dD p)⟩
def UpInv (xs ts:List Nat) (W p i:Nat):Prop:=Ok ts∧val (ts.take (i+W+1))=val (xs.take i)*2 ^ p*B ^ W∧dg ts (i+W)<2 ^ p∧∀k,i+W<k→dg ts k=0
theorem dg_replicate (n k:Nat):dg (List.replicate n 0) k=0:=by
 unfold dg;rw[qA,List.getElem?_replicate];split<;>rfl
theorem UpInv.start (xs:List Nat) (W p n:Nat):UpInv xs (List.replicate n 0) W p 0 :=
 ⟨Ok.replicate n,by simp[List.take_replicate,val_replicate,val],by rw[dg_replicate];exact dD p,fun k _=>dg_replicate n k⟩
theorem UpInv.or_ {xs ts:List Nat} {W p i x:Nat} (h:UpInv xs ts W p i) (hp:p≤64):dg ts (i+W) ||| x*2 ^ p % B=dg ts (i+W)+x*2 ^ p % B:=by
 rw[(shl_digit hp).1,Nat.or_comm,←Nat.two_pow_add_eq_or_of_lt h.2.2.1,Nat.add_comm]
theorem UpInv.low {xs ts:List Nat} {W p i x:Nat} (h:UpInv xs ts W p i) (hp:p≤64):dg ts (i+W)+x*2 ^ p % B<B:=by
 have h1:=h.2.2.1;have h2:x % 2 ^ (64-p)+1≤2 ^ (64-p):=fC _ (dD _);have h3:2 ^ p*(x % 2 ^ (64-p)+1)≤2 ^ p*2 ^ (64-p):=aC _ h2;rw[pow64 hp,zA,kC] at h3;rw[(shl_digit hp).1];omega
theorem UpInv.step {xs ts:List Nat} {W p i:Nat} (h:UpInv xs ts W p i) (hx:Ok xs) (hp:p≤64) (hk:i+W+1<ts.length) :
  UpInv xs ((ts.set (i+W) (dg ts (i+W)+dg xs i*2 ^ p % B)).set (i+W+1) (dg xs i / 2 ^ (64-p))) W p (i+1):=by
 have hlow:=h.low (x:=dg xs i) hp;obtain⟨ho,hv,hc,hz⟩:=h;have hxi:=dg_lt hx i;have hhi:dg xs i / 2 ^ (64-p)<2 ^ p:=by rw[eC (dD _),pow64 hp];exact hxi
 have hhB:dg xs i / 2 ^ (64-p)<B:=aD (tE _ _) hxi;have h1:i+W<ts.length:=zo;refine⟨(ho.set _ _ hlow).set _ _ hhB,?_,?_,fun k hk'=>?_⟩
 ·rw[show i+1+W+1=(i+W+1)+1 from by omega,val_set_take _ _ _ (by rw[nC];exact hk),val_set_take _ _ _ h1];rw[val_take_succ'] at hv;rw[val_take_succ',xB,xB,←hv,←(shl_digit hp).2];show _+B ^ (i+W)*(dg ts (i+W)+dg xs i*2 ^ p % B)+_=_+B ^ (i+W)*dg ts (i+W)+B ^ i*dg xs i*2 ^ p*B ^ W
  have e:=bC (dg xs i*2 ^ p) B;have e2:B ^ i*dg xs i*2 ^ p*B ^ W=B ^ (i+W)*(dg xs i*2 ^ p):=by
   rw[tC,nB (B ^ i),nB (B ^ i),nB (B ^ i),qB _ (B ^ W)]
  rw[e2,zA,yB,nB];conv=>rhs;rw[←e,zA]
  omega
 ·rw[show i+1+W=i+W+1 from by omega];unfold dg
  rw[qA,qF (by rw[nC];exact hk)];exact hhi
 ·rw[dg_set_ne zo,dg_set_ne zo];exact hz k zo
theorem UpInv.done {xs ts:List Nat} {W p n:Nat} (h:UpInv xs ts W p n) (hx:Ok xs) (hn:nl (val xs)≤n) (hl:ts.length=n+W+1):val ts=val xs*2 ^ (64*W+p):=by
 have:=h.2.1;rw[fA zo,val_take_nl hx hn] at this;rw[this,Nat.add_comm (64*W),tC,pow_B,nB]
def DownInv (xs us:List Nat) (W p i:Nat):Prop:=Ok us∧2 ^ p*val (us.take i)+dg xs W % 2 ^ p=val ((xs.drop W).take i)+dg xs (W+i) % 2 ^ p*B ^ i∧∀k,i≤k→k<xs.length→dg us k=dg xs k
theorem DownInv.start {zs:List Nat} (W p n:Nat) (h:Ok zs):DownInv (zs.take n) zs W p 0:=⟨h,by simp[val],fun k _ hk=>by rw[mB] at hk;rw[dg_take zo]⟩
theorem DownInv.read {xs us:List Nat} {W p i k:Nat} (h:DownInv xs us W p i) (hk:i≤k) (hl:xs.length≤us.length):dg (us.take xs.length) k=dg xs k:=by
 rcases eB k xs.length with hk' | hk'
 ·rw[dg_take hk'];exact h.2.2 k hk hk'
 ·rw[dg_past hk',dg_past (by rw[mB];omega)]
theorem shr_digit {x y p:Nat} (hx:x<B) (hp:p≤64):x / 2 ^ p ||| y*2 ^ (64-p) % B=x / 2 ^ p+y % 2 ^ p*2 ^ (64-p)∧x / 2 ^ p+y % 2 ^ p*2 ^ (64-p)<B:=by
 have e1:y*2 ^ (64-p) % B=2 ^ (64-p)*(y % 2 ^ p):=by
  have:=(shl_digit (x:=y) (p:=64-p) zo).1;rwa [show 64-(64-p)=p from by omega] at this
 have e2:x / 2 ^ p<2 ^ (64-p):=by rw[eC (dD _),qB,pow64 hp];exact hx
 have e3:2 ^ (64-p)*(y % 2 ^ p+1)≤2 ^ (64-p)*2 ^ p:=aC _ (fC _ (dD _));rw[qB _ (2 ^ p),pow64 hp,zA,kC] at e3;refine⟨?_,?_⟩
 ·rw[e1,Nat.or_comm,←Nat.two_pow_add_eq_or_of_lt e2,Nat.add_comm,qB (2 ^ (64-p))]
 ·rw[qB (y % 2 ^ p)];omega
theorem DownInv.step {xs us:List Nat} {W p i:Nat} (h:DownInv xs us W p i) (hx:Ok xs) (hp:p≤64) (hk:i<us.length) :
  DownInv xs (us.set i (dg xs (W+i) / 2 ^ p+dg xs (W+i+1) % 2 ^ p*2 ^ (64-p))) W p (i+1):=by
 obtain⟨ho,hv,hr⟩:=h;have hlow:=(shr_digit (x:=dg xs (W+i)) (y:=dg xs (W+i+1)) (dg_lt hx _) hp).2;refine⟨ho.set _ _ hlow,?_,fun k hk' hl=>?_⟩
 ·rw[val_set_take _ _ _ hk,val_take_succ'];show _=val ((xs.drop W).take i)+B ^ i*dg (xs.drop W) i+_
  rw[dg_drop,zA,yB,←gE W i 1];generalize dg xs (W+i)=x at hv ⊢
  generalize dg xs (W+i+1) % 2 ^ p=y at ⊢
  have e:=bC x (2 ^ p);have e1:2 ^ p*(B ^ i*(x / 2 ^ p+y*2 ^ (64-p)))=B ^ i*(2 ^ p*(x / 2 ^ p))+y*(B ^ i*B):=by
   rw[jD,zA,zA,jD (2 ^ p) y,pow64 hp,jD (B ^ i) y]
  rw[e1];have e2:B ^ i*(2 ^ p*(x / 2 ^ p))+x % 2 ^ p*B ^ i=B ^ i*x:=by
   rw[qB (x % 2 ^ p),←zA,e]
  omega
 ·rw[dg_set_ne zo];exact hr k zo hl
theorem DownInv.done {xs us:List Nat} {W p k:Nat} (h:DownInv xs us W p k) (hx:Ok xs) (hk:W+k=xs.length):val (us.take k)=val xs / 2 ^ (64*W+p):=by
 obtain⟨ho,hv,hr⟩:=h;rw[dg_past (xs:=xs) (k:=W+k) zo,Nat.zero_mod,yF,bD,fA (l:=xs.drop W) (by rw[List.length_drop];omega)] at hv;have h1:dg xs W % 2 ^ p<2 ^ p:=fC _ (dD _);have h2:val (us.take k)=val (xs.drop W) / 2 ^ p:=by
  rw[←hv,Nat.mul_add_div (dD _),vD h1,bD]
 have h3:val (xs.drop W)=val xs / B ^ W:=by
  have e:=val_split xs W;have e1:=val_take_lt hx W;rw[e,kE _ _ (Nat.pow_pos B_pos),vD e1,mC]
 rw[h2,h3,Nat.div_div_eq_div_mul,tC,pow_B]
end Tw
namespace Tw
/-! ### By one digit -/
def ShortInv (xs:List Nat) (d:Nat) (qs:List Nat) (k r:Nat):Prop:=Ok qs∧val (qs.drop k)=val (xs.drop k) / d∧r=val (xs.drop k) % d
theorem val_drop_cons {xs:List Nat} {k:Nat} (h:k<xs.length):val (xs.drop k)=dg xs k+B*val (xs.drop (k+1)):=by
 rw[fD h,val_cons];unfold dg
 rw[qA,cA h];rfl
theorem drop_set {xs:List Nat} {k x:Nat} (h:k<xs.length):(xs.set k x).drop k=x :: xs.drop (k+1):=by
 rw[fD (by simpa using h),List.getElem_set_self,List.drop_set_of_lt zo]
theorem ShortInv.start {xs qs:List Nat} {d:Nat} (h:Ok qs) (hl:qs.length=xs.length):ShortInv xs d qs xs.length 0:=by
 refine⟨h,?_,?_⟩<;>simp[List.drop_eq_nil_of_le,hl,val]
theorem ShortInv.step {xs qs:List Nat} {d k r:Nat} (h:ShortInv xs d qs (k+1) r) (hd:0<d) (_hdB:d<B) (hx:Ok xs) (hk:k<xs.length) (hl:qs.length=xs.length) :
  ShortInv xs d (qs.set k ((r*B+dg xs k) / d)) k ((r*B+dg xs k) % d)∧r<d:=by
 obtain⟨ho,hq,hr⟩:=h;have hrd:r<d:=by rw[hr];exact fC _ hd
 have hxk:=dg_lt hx k;have hqB:(r*B+dg xs k) / d<B:=by
  rw[eC hd];have:(r+1)*B≤d*B:=fB _ hrd;rw[xB,fE] at this;rw[qB B];omega
 have e:=bC (val (xs.drop (k+1))) d;have e1:val (xs.drop k)=(r*B+dg xs k)+d*(B*(val (xs.drop (k+1)) / d)):=by
  rw[val_drop_cons hk];conv=>lhs;rw[←e]
  rw[zA,hr,qB (_ % d) B,jD];omega
 refine⟨⟨ho.set _ _ hqB,?_,?_⟩,hrd⟩
 ·rw[drop_set zo,val_cons,hq,e1,kE _ _ hd]
 ·rw[e1,uF]
/-! ### A window of a row -/
theorem dg_mid (P X S:List Nat) {i:Nat} (h:i<X.length):dg (P++(X++S)) (P.length+i)=dg X i:=by
 unfold dg
 rw[qA,qA,kD zo,Nat.add_sub_cancel_left,bF h]
theorem set_mid (P X S:List Nat) {i x:Nat} (h:i<X.length):(P++(X++S)).set (P.length+i) x=P++(X.set i x++S):=by
 rw[List.set_append_right _ _ zo,Nat.add_sub_cancel_left,List.set_append_left _ _ h]
def TInv (X vs Y:List Nat) (t i cy bw:Nat):Prop:=Ok Y∧Y.length=X.length∧cy<B∧bw≤1∧val (Y.take i)+t*val (vs.take i)=val (X.take i)+B ^ i*(cy+bw)∧∀k,i≤k→dg Y k=dg X k
theorem TInv.start {X:List Nat} (vs:List Nat) (t:Nat) (h:Ok X):TInv X vs X t 0 0 0:=⟨h,rfl,B_pos,zo,by simp[val],fun _ _=>rfl⟩
theorem times_digit {v t cy:Nat} (hv:v<B) (ht:t<B) (hc:cy<B):(v*t % B+cy) % B+B*(v*t / B+(v*t % B+cy) / B)=v*t+cy∧v*t / B+(v*t % B+cy) / B<B:=by
 have h1:=bC (v*t) B;have h2:=bC (v*t % B+cy) B;have e:(v*t % B+cy) % B+B*(v*t / B+(v*t % B+cy) / B)=v*t+cy:=by rw[zA];omega
 refine⟨e,?_⟩;have h4:v*t≤(B-1)*(B-1):=xE zo zo;have h5:(B-1)*(B-1)+(B-1)<B*B:=by decide
 have h6:B*(v*t / B+(v*t % B+cy) / B)<B*B:=zo;exact vF h6
theorem TInv.step {X vs Y:List Nat} {t i cy bw lo hi x' bw':Nat} (h:TInv X vs Y t i cy bw) (hk:i<X.length) (hhi:hi<B) (hx':x'<B) (hb':bw'≤1)
  (he:lo+B*hi=dg vs i*t+cy) (hs:x'+lo+bw=dg Y i+B*bw'):TInv X vs (Y.set i x') t (i+1) hi bw':=by
 obtain⟨ho,hl,hc,hb,hv,hr⟩:=h;refine⟨ho.set _ _ hx',by rw[nC];exact hl,hhi,hb',?_,fun k hk'=>by rw[dg_set_ne zo];exact hr k zo⟩;rw[val_set_take _ _ _ zo,val_take_succ',val_take_succ',yB,nB,←show dg Y i=X.getD i 0 from hr i (aA _)];show val (Y.take i)+B ^ i*x'+t*(val (vs.take i)+B ^ i*dg vs i)=val (X.take i)+B ^ i*dg Y i+B ^ i*(B*(hi+bw'))
 have e:B ^ i*(x'+dg vs i*t+cy+bw)=B ^ i*(dg Y i+B*(hi+bw')):=by
  congr 1;rw[zA];omega
 rw[zA t,jD t,qB t (dg vs i)];rw[zA,zA,zA,zA (B ^ i) (dg Y i)] at e;rw[zA (B ^ i) cy bw] at hv;omega
theorem TInv.done {X vs Y:List Nat} {t n cy bw x' bw':Nat} (h:TInv X vs Y t n cy bw) (hl:X.length=n+1) (hn:vs.length≤n) (hx':x'<B) (hs:x'+cy+bw=dg Y n+B*bw') :
  Ok (Y.set n x')∧(Y.set n x').length=n+1∧val (Y.set n x')+t*val vs=val X+B ^ (n+1)*bw':=by
 obtain⟨ho,hl',hc,hb,hv,hr⟩:=h;refine⟨ho.set _ _ hx',by rw[nC];omega,?_⟩;have e1:=val_set_take Y n x' zo;rw[fA (by rw[nC];omega)] at e1;have e2:=val_take_succ' X n;rw[fA zo,←show dg Y n=X.getD n 0 from hr n (aA _)] at e2;rw[fA (l:=vs) hn] at hv;have e3:B ^ n*(x'+cy+bw)=B ^ n*(dg Y n+B*bw'):=by rw[hs]
 rw[e1,e2,yB,nB];rw[zA,zA,zA] at e3;rw[zA] at hv;omega
def GInv (X vs Y:List Nat) (i cy:Nat):Prop:=Ok Y∧Y.length=X.length∧cy≤1∧val (Y.take i)+B ^ i*cy=val (X.take i)+val (vs.take i)∧∀k,i≤k→dg Y k=dg X k
theorem GInv.start {X:List Nat} (vs:List Nat) (h:Ok X):GInv X vs X 0 0:=⟨h,rfl,zo,by simp[val],fun _ _=>rfl⟩
theorem GInv.step {X vs Y:List Nat} {i cy:Nat} (h:GInv X vs Y i cy) (hv:Ok vs) (hk:i<X.length):GInv X vs (Y.set i ((dg Y i+dg vs i+cy) % B)) (i+1) ((dg Y i+dg vs i+cy) / B):=by
 obtain⟨ho,hl,hc,he,hr⟩:=h;have h1:=dg_lt ho i;have h2:=dg_lt hv i;refine⟨ho.set _ _ (fC _ B_pos),by rw[nC];exact hl,?_,?_,fun k hk'=>by rw[dg_set_ne zo];exact hr k zo⟩
 ·have:(dg Y i+dg vs i+cy) / B<2:=by rw[eC B_pos];omega
  omega
 ·rw[val_set_take _ _ _ zo,val_take_succ',val_take_succ',yB,nB,gE,←zA,←show dg Y i=X.getD i 0 from hr i (aA _)];show val (Y.take i)+B ^ i*_=_+B ^ i*dg Y i+(_+B ^ i*dg vs i)
  rw[kF,zA,zA];omega
theorem GInv.done {X vs Y:List Nat} {n cy:Nat} (h:GInv X vs Y n cy) (hl:X.length=n+1) (hn:vs.length≤n) :
  Ok (Y.set n ((dg Y n+cy) % B))∧(Y.set n ((dg Y n+cy) % B)).length=n+1∧(dg Y n+cy) / B≤1∧val (Y.set n ((dg Y n+cy) % B))+B ^ (n+1)*((dg Y n+cy) / B)=val X+val vs:=by
 obtain⟨ho,hl',hc,he,hr⟩:=h;have h1:=dg_lt ho n;refine⟨ho.set _ _ (fC _ B_pos),by rw[nC];omega,?_,?_⟩
 ·have:(dg Y n+cy) / B<2:=by rw[eC B_pos];omega
  omega
 ·have e1:=val_set_take Y n ((dg Y n+cy) % B) zo;rw[fA (by rw[nC];omega)] at e1;have e2:=val_take_succ' X n;rw[fA zo,←show dg Y n=X.getD n 0 from hr n (aA _)] at e2;rw[fA (l:=vs) hn] at he;rw[e1,e2,yB,nB,gE,←zA,kF,zA];omega
/-! ### The guess -/
structure GuessIn (X vs:List Nat) (n:Nat):Prop where
 okX:Ok X
 okV:Ok vs
 lX:X.length=n+1
 lV:vs.length=n
 two:2≤n
 top:0<dg vs (n-1)
 below:val X<B*val vs
theorem top2 {xs:List Nat} {n:Nat} (hl:xs.length=n+1):val xs=val (xs.take n)+B ^ n*dg xs n:=by
 have:=val_take_succ' xs n;rwa [fA zo] at this
theorem GuessIn.vpos {X vs:List Nat} {n:Nat} (h:GuessIn X vs n):0<val vs:=by
 have:=h.below;rcases qC (val vs) with e | e
 ·rw[e] at this;omega
 ·exact e
theorem GuessIn.q_lt {X vs:List Nat} {n:Nat} (h:GuessIn X vs n):val X / val vs<B:=by
 rw[eC h.vpos];exact h.below
theorem GuessIn.start {X vs:List Nat} {n:Nat} (h:GuessIn X vs n):val X / val vs≤(dg X n*B+dg X (n-1)) / dg vs (n-1):=by
 obtain⟨oX,oV,lX,lV,h2,ht,hb⟩:=h;obtain⟨m,rfl⟩:∃m,n=m+1:=⟨n-1,zo⟩;rw[xD] at ht ⊢;rw[Nat.le_div_iff_mul_le ht];have hq:val X / val vs*val vs≤val X:=Nat.div_mul_le_self _ _;generalize val X / val vs=q at *
 have e1:=top2 lV;have e2:=top2 lX;have e3:=val_take_succ' X m;have l1:=val_take_lt oX m;have h3:q*(B ^ m*dg vs m)≤q*val vs:=aC _ zo;have h4:B ^ m*(q*dg vs m)<B ^ m*(dg X (m+1)*B+dg X m+1):=by
  rw[jD,zA,zA,kC];rw[yB,nB,qB B] at e2;have e4:val (X.take (m+1))=val (X.take m)+B ^ m*dg X m:=e3;omega
 have:=vF h4;omega
theorem GuessIn.two_digits {X vs:List Nat} {n g r:Nat} (h:GuessIn X vs n) (he:g*dg vs (n-1)+r=dg X n*B+dg X (n-1)) (hgt:r*B+dg X (n-2)<g*dg vs (n-2)):val X / val vs<g:=by
 obtain⟨oX,oV,lX,lV,h2,ht,hb⟩:=h;obtain⟨m,rfl⟩:∃m,n=m+2:=⟨n-2,zo⟩;rw[show m+2-1=m+1 from by omega] at *;rw[show m+2-2=m from by omega] at hgt;rcases eB (val X / val vs) g with hlt | hge
 ·exact hlt
 exfalso
 have hq:g*val vs≤val X:=wA (fB _ hge) (Nat.div_mul_le_self _ _);have e1:=top2 lV;have e1':=val_take_succ' vs m;have e2:=top2 lX;have e3:=val_take_succ' X (m+1);have e4:=val_take_succ' X m;have l1:=val_take_lt oX m;have hp:B ^ m*(B*dg vs (m+1))=B ^ (m+1)*dg vs (m+1):=by rw[yB,nB]
 have h3:g*(B ^ m*(B*dg vs (m+1)+dg vs m))≤g*val vs:=aC _ (by
  rw[zA,hp];have e5:val (vs.take (m+1))=val (vs.take m)+B ^ m*dg vs m:=e1';omega)
 have h4:B ^ m*(g*(B*dg vs (m+1)+dg vs m))<B ^ m*((dg X (m+2)*B+dg X (m+1))*B+dg X m+1):=by
  have eL:B ^ m*(g*(B*dg vs (m+1)+dg vs m))=g*(B ^ m*(B*dg vs (m+1)+dg vs m)):=jD _ _ _;have eR:B ^ m*((dg X (m+2)*B+dg X (m+1))*B+dg X m+1)=B ^ m*((dg X (m+2)*B+dg X (m+1))*B)+B ^ m*dg X m+B ^ m:=by rw[zA,zA,kC]
  have e6:val (X.take (m+1))=val (X.take m)+B ^ m*dg X m:=e4;have e7:val (X.take (m+2))=val (X.take (m+1))+B ^ (m+1)*dg X (m+1):=e3;have e8:B ^ m*((dg X (m+2)*B+dg X (m+1))*B)=B ^ (m+2)*dg X (m+2)+B ^ (m+1)*dg X (m+1):=by
   have a1:B ^ m*(dg X (m+2)*B*B)=B ^ m*B*B*dg X (m+2):=by ac_rfl
   have a2:B ^ m*(dg X (m+1)*B)=B ^ m*B*dg X (m+1):=by ac_rfl
   rw[xB,zA,yB,yB,a1,a2]
  rw[eL,eR,e8];omega
 have h5:=vF h4;rw[←he] at h5;rw[zA,xB,qB B (dg vs (m+1)),←nB] at h5;omega
end Tw
namespace Te
def B:Nat:=256
theorem B_eq:B=256:=rfl
theorem B_pos:0<B:=by rw[B_eq];omega
theorem B_two:2≤B:=by rw[B_eq];omega
def val:List Nat→Nat
 | []=>0
 | x :: xs=>x+B*val xs
theorem val_nil:val []=0:=rfl
theorem val_cons (x:Nat) (xs:List Nat):val (x :: xs)=x+B*val xs:=rfl
theorem val_append (xs ys:List Nat):val (xs++ys)=val xs+B ^ xs.length*val ys:=by
 induction xs with
 | nil=>simp[val]
 | cons x xs ih =>
  simp only[bE,val,ih,cC,yB,zA]
  rw[show B*(B ^ xs.length*val ys)=B ^ xs.length*B*val ys from by rw[qB (B ^ xs.length) B,nB]];omega
theorem val_snoc (xs:List Nat) (x:Nat):val (xs++[x])=val xs+B ^ xs.length*x:=by
 rw[val_append];simp[val]
theorem val_replicate (n:Nat):val (List.replicate n 0)=0:=by
 induction n with
 | zero=>rfl
 | succ n ih=>simp[List.replicate_succ,val,ih]
def Ok (xs:List Nat):Prop:=∀x∈xs,x<B
theorem Ok.nil:Ok []:=fun _ h=>by cases h
theorem Ok.cons {x:Nat} {xs:List Nat} (hx:x<B) (h:Ok xs):Ok (x :: xs):=fun y hy=>by
 rcases rB.1 hy with rfl | hy
 ·exact hx
 ·exact h y hy
theorem Ok.head {x:Nat} {xs:List Nat} (h:Ok (x :: xs)):x<B:=h x (by simp)
theorem Ok.tail {x:Nat} {xs:List Nat} (h:Ok (x :: xs)):Ok xs:=fun y hy=>h y (by simp[hy])
theorem Ok.append {xs ys:List Nat} (h:Ok xs) (k:Ok ys):Ok (xs++ys):=fun y hy=>by
 rcases uD.1 hy with hy | hy
 ·exact h y hy
 ·exact k y hy
theorem Ok.take {xs:List Nat} (h:Ok xs) (n:Nat):Ok (xs.take n):=fun y hy=>h y (xF hy)
theorem Ok.drop {xs:List Nat} (h:Ok xs) (n:Nat):Ok (xs.drop n):=fun y hy=>h y (List.mem_of_mem_drop hy)
theorem Ok.get {xs:List Nat} (h:Ok xs) (n:Nat):xs.getD n 0<B:=by
 rw[qA];rcases eB n xs.length with hn | hn
 ·rw[cA hn];exact h _ (cG hn)
 ·rw[cB hn];exact B_pos
theorem Ok.replicate (n:Nat):Ok (List.replicate n 0):=fun y hy=>by
 rw[List.eq_of_mem_replicate hy];exact B_pos
theorem Ok.set {xs:List Nat} (h:Ok xs) (i x:Nat) (hx:x<B):Ok (xs.set i x):=fun y hy=>by
 rcases tF hy with hy | rfl
 ·exact h y hy
 ·exact hx
theorem val_lt {xs:List Nat} (h:Ok xs):val xs<B ^ xs.length:=by
 induction xs with
 | nil=>simp[val]
 | cons x xs ih =>
  have h1:=ih h.tail;have h2:=h.head;simp only[val,cC,yB]
  have h3:B*(val xs+1)≤B*B ^ xs.length:=aC _ h1;rw[qB (B ^ xs.length) B,];rw[zA] at h3;omega
def limbsF:Nat→Nat→List Nat
 | 0,_=>[]
 | f+1,n=>if n=0 then [] else n % B :: limbsF f (n / B)
def limbs (n:Nat):List Nat:=limbsF n n
theorem div_B_lt {n:Nat} (h:n≠0):n / B<n:=Nat.div_lt_self zo (by rw[B_eq];omega)
theorem limbsF_eq (f g n : Nat) (hf : n ≤ f) (hg : n ≤ g) : limbsF f n = limbsF g n := by
  induction f generalizing g n with
  | zero => have : n = 0 := by omega
            subst this; cases g <;> simp [limbsF]
  | succ f ih =>
    cases g with
    | zero => have : n = 0 := by omega
              subst this; simp [limbsF]
    | succ g =>
      simp only [limbsF]
      by_cases h : n = 0
      · simp [h]
      · rw [dA h, dA h]
        have := div_B_lt h;rw [ih g (n / B) zo zo]
theorem limbs_zero:limbs 0=[]:=rfl
theorem limbs_pos {n:Nat} (h:n≠0):limbs n=n % B :: limbs (n / B):=by
 have h1:=div_B_lt h;unfold limbs
 conv=>lhs;rw[show n=(n-1)+1 from by omega]
 rw[limbsF,show n-1+1=n from by omega,dA h,limbsF_eq (n-1) (n / B) (n / B) zo (aA _)]
theorem limbs_ind {p:Nat→Prop} (h0:p 0) (h:∀n,n≠0→p (n / B)→p n) (n:Nat):p n:=by
 induction n using Nat.strongRecOn with
 | ind n ih =>
  by_cases hn:n=0
  ·subst hn;exact h0
  ·exact h n hn (ih _ (div_B_lt hn))
theorem val_limbs (n:Nat):val (limbs n)=n:=by
 induction n using limbs_ind with
 | h0=>rfl
 | h n hn ih=>rw[limbs_pos hn,val,ih,kF]
theorem ok_limbs (n:Nat):Ok (limbs n):=by
 induction n using limbs_ind with
 | h0=>exact Ok.nil
 | h n hn ih=>rw[limbs_pos hn];exact Ok.cons (fC _ B_pos) ih
def nl (n:Nat):Nat:=(limbs n).length
theorem nl_zero:nl 0=0:=rfl
theorem nl_pos {n:Nat} (h:n≠0):nl n=nl (n / B)+1:=by unfold nl;rw[limbs_pos h];rfl
theorem nl_eq_zero {n:Nat}:nl n=0↔n=0:=by
 constructor
 ·intro h;by_cases hn:n=0
  ·exact hn
  ·rw[nl_pos hn] at h;omega
 ·rintro rfl;rfl
theorem lt_pow_nl (n:Nat):n<B ^ nl n:=by
 have:=val_lt (ok_limbs n);rw[val_limbs] at this;exact this
theorem nl_le_of_lt {n k:Nat} (h:n<B ^ k):nl n≤k:=by
 induction k generalizing n with
 | zero=>simp at h;subst h;simp[nl_zero]
 | succ k ih =>
  by_cases hn:n=0
  ·subst hn;simp[nl_zero]
  ·rw[nl_pos hn];have:n / B<B ^ k:=by
    rw[eC B_pos];rw[yB] at h;exact h
   have:=ih this;omega
theorem nl_le_iff {n k:Nat}:nl n≤k↔n<B ^ k :=
 ⟨fun h=>gC (lt_pow_nl n) (wD B_pos h),nl_le_of_lt⟩
theorem nl_mono {a b:Nat} (h:a≤b):nl a≤nl b:=nl_le_of_lt (aD h (lt_pow_nl b))
theorem nl_val {xs:List Nat} (h:Ok xs):nl (val xs)≤xs.length:=nl_le_of_lt (val_lt h)
theorem limbs_val {xs:List Nat} (h:Ok xs):xs=limbs (val xs)++List.replicate (xs.length-nl (val xs)) 0:=by
 induction xs with
 | nil=>rfl
 | cons x xs ih =>
  have ih:=ih h.tail;have hx:=h.head;have hl:=nl_val h.tail;by_cases h0:val (x :: xs)=0
  ·rw[h0];have h1:x=0∧val xs=0:=by
    rw[val_cons] at h0;have:B*val xs=0:=zo;rcases Nat.mul_eq_zero.1 this with h | h
    ·have:=B_pos;omega
    ·exact⟨zo,h⟩
   rw[h1.2] at ih;simp[limbs_zero,nl_zero] at ih ⊢
   rw[List.replicate_succ,h1.1,←ih]
  ·rw[nl_pos h0,limbs_pos h0];have e1:val (x :: xs) % B=x:=by rw[val_cons,uF,cD hx]
   have e2:val (x :: xs) / B=val xs:=by rw[val_cons,kE _ _ B_pos,vD hx,mC]
   rw[e1,e2,cC,Nat.add_sub_add_right,bE,←ih]
theorem limbs_take {xs:List Nat} (h:Ok xs):xs.take (nl (val xs))=limbs (val xs):=by
 have e:=limbs_val h;generalize val xs=v at e ⊢
 rw[e,List.take_append_of_le_length (by unfold nl;exact aA _),fA (by unfold nl;exact aA _)]
theorem getD_past {xs:List Nat} (h:Ok xs) {i:Nat} (hi:nl (val xs)≤i):xs.getD i 0=0:=by
 rw[qA,limbs_val h,kD (by exact hi),List.getElem?_replicate];split<;>rfl
theorem getD_limbs {xs:List Nat} (h:Ok xs) (i:Nat):xs.getD i 0=(limbs (val xs)).getD i 0:=by
 rcases eB i (nl (val xs)) with hi | hi
 ·rw[←limbs_take h,qA,qA,rD,bB hi]
 ·rw[getD_past h hi,qA,cB (by exact hi)];rfl
theorem top_ne {n:Nat} (h:n≠0):(limbs n).getD (nl n-1) 0≠0:=by
 intro h0;have hp:0<nl n:=zi (nl_pos h);have e:limbs n=(limbs n).take (nl n-1)++[0]:=by
  have hlen:nl n-1<(limbs n).length:=by unfold nl at *;omega
  have h1:(limbs n).drop (nl n-1)=[(limbs n).getD (nl n-1) 0]:=by
   rw[fD hlen,qD (by unfold nl at *;omega),qA,cA hlen];rfl
  rw[h0] at h1;rw[←h1,mD]
 have:val (limbs n)<B ^ (nl n-1):=by
  rw[e,val_snoc,mE,bD];have:=val_lt ((ok_limbs n).take (nl n-1));rw[mB,sC (by unfold nl;omega)] at this;exact this
 rw[val_limbs] at this;have:=nl_le_of_lt this;omega
theorem limbs_of {xs:List Nat} (h:Ok xs) (ht:xs=[]∨xs.getD (xs.length-1) 0≠0):limbs (val xs)=xs:=by
 have hl:nl (val xs)=xs.length:=by
  have h1:=nl_val h;rcases eB (nl (val xs)) xs.length with h2 | h2
  ·rcases ht with rfl | ht
   ·simp at h2
   ·exact absurd (getD_past h zo) ht
  ·omega
 conv=>rhs;rw[limbs_val h]
 rw[hl];simp
theorem nl_of {xs:List Nat} (h:Ok xs) {n:Nat} (hn:n≤xs.length) (h0:∀i,n≤i→i<xs.length→xs.getD i 0=0) (ht:n=0∨xs.getD (n-1) 0≠0):nl (val xs)=n:=by
 rcases Nat.lt_trichotomy (nl (val xs)) n with h1 | h1 | h1
 ·rcases ht with rfl | ht
  ·omega
  ·exact absurd (getD_past h zo) ht
 ·exact h1
 ·have hv:val xs≠0:=fun e=>by rw[e,nl_zero] at h1;omega
  have hl:=nl_val h;have:=top_ne hv;rw[←getD_limbs h] at this;exact absurd (h0 _ zo zo) this
theorem val_take_succ (xs:List Nat) (k:Nat) (h:k<xs.length):val (xs.take (k+1))=val (xs.take k)+B ^ k*xs.getD k 0:=by
 rw[List.take_succ_eq_append_getElem h,val_snoc,mB,sC zo,qA,cA h];rfl
theorem val_take_past (xs:List Nat) (k:Nat) (h:xs.length≤k):val (xs.take k)=val xs:=by rw[fA h]
theorem val_take_succ' (xs:List Nat) (k:Nat):val (xs.take (k+1))=val (xs.take k)+B ^ k*xs.getD k 0:=by
 rcases eB k xs.length with h | h
 ·exact val_take_succ xs k h
 ·rw[val_take_past _ _ h,val_take_past _ _ zo,qA,cB h];simp
theorem val_drop (xs:List Nat) (k:Nat) (h:k≤xs.length):val xs=val (xs.take k)+B ^ k*val (xs.drop k):=by
 conv=>lhs;rw[←mD k xs,val_append,mB,sC h]
def dg (xs:List Nat) (k:Nat):Nat:=xs.getD k 0
theorem dg_get {xs:List Nat} {k:Nat} (h:k<xs.length):xs[k]?=some (dg xs k):=by
 unfold dg;rw[qA,cA h];rfl
theorem dg_lt {xs:List Nat} (h:Ok xs) (k:Nat):dg xs k<B:=h.get k
theorem dg_past {xs:List Nat} {k:Nat} (h:xs.length≤k):dg xs k=0:=by
 unfold dg;rw[qA,cB h];rfl
theorem val_congr {xs ys:List Nat} (h:∀i,dg xs i=dg ys i):val xs=val ys:=by
 induction xs generalizing ys with
 | nil =>
  induction ys with
  | nil=>rfl
  | cons y ys ih =>
   have h0:=h 0;simp only[dg,aG,List.getD_nil] at h0
   have:=ih (fun i=>by have:=h (i+1);simpa [dg] using this);rw[val_cons,←h0,←this];rfl
 | cons x xs ih =>
  cases ys with
  | nil =>
   have h0:=h 0;simp only[dg,aG,List.getD_nil] at h0
   have:=@ih [] (fun i=>by have:=h (i+1);simpa [dg] using this);rw[val_cons,h0,this];rfl
  | cons y ys =>
   have h0:=h 0;simp only[dg,aG] at h0
   rw[val_cons,val_cons,h0,ih (fun i=>by have:=h (i+1);simpa [dg] using this)]
theorem dg_drop (xs:List Nat) (k i:Nat):dg (xs.drop k) i=dg xs (k+i):=by
 unfold dg;rw[qA,qA,List.getElem?_drop]
theorem dg_take {xs:List Nat} {k i:Nat} (h:i<k):dg (xs.take k) i=dg xs i:=by
 unfold dg;rw[qA,qA,rD,bB h]
theorem val_split (xs:List Nat) (k:Nat):val xs=val (xs.take k)+B ^ k*val (xs.drop k):=by
 rcases eB xs.length k with h | h
 ·rw[fA zo,qD zo,val_nil,mE,bD]
 ·exact val_drop xs k h
theorem val_take_lt {xs:List Nat} (h:Ok xs) (k:Nat):val (xs.take k)<B ^ k :=
 gC (val_lt (h.take k)) (wD B_pos (by rw[mB];omega))
theorem val_take_nl {xs:List Nat} (h:Ok xs) {n:Nat} (hn:nl (val xs)≤n):val (xs.take n)=val xs:=by
 have e:val (xs.drop n)=0:=by
  have:=val_congr (xs:=xs.drop n) (ys:=[]) (fun i=>by rw[dg_drop];unfold dg;rw[getD_past h zo];rfl);rw[this];rfl
 have:=val_split xs n;rw[e,mE,bD] at this;exact this.symm
theorem take_set_succ (zs:List Nat) (k v:Nat) (h:k<zs.length):(zs.set k v).take (k+1)=zs.take k++[v]:=by
 rw[List.take_succ_eq_append_getElem (by simpa using h),bG (aA k),List.getElem_set_self]
theorem val_set_take (zs:List Nat) (k v:Nat) (h:k<zs.length):val ((zs.set k v).take (k+1))=val (zs.take k)+B ^ k*v:=by
 rw[take_set_succ zs k v h,val_snoc,mB,sC zo]
def AddInv (xs ys zs:List Nat) (k cy:Nat):Prop:=Ok zs∧cy≤1∧val (zs.take k)+B ^ k*cy=val (xs.take k)+val (ys.take k)
theorem AddInv.start (xs ys:List Nat) (n:Nat):AddInv xs ys (List.replicate n 0) 0 0:=⟨Ok.replicate n,zo,by simp[val]⟩
theorem AddInv.step {xs ys zs:List Nat} {k cy:Nat} (h:AddInv xs ys zs k cy) (hx:Ok xs) (hy:Ok ys) (hk:k<zs.length) :
  AddInv xs ys (zs.set k ((dg xs k+dg ys k+cy) % B)) (k+1) ((dg xs k+dg ys k+cy) / B):=by
 obtain⟨ho,hc,hv⟩:=h;have h1:=dg_lt hx k;have h2:=dg_lt hy k;refine⟨ho.set _ _ (fC _ B_pos),?_,?_⟩
 ·have:(dg xs k+dg ys k+cy) / B<2:=by rw[eC B_pos];omega
  omega
 ·rw[val_set_take _ _ _ hk,val_take_succ',val_take_succ',yB,nB,gE,←zA];show val (zs.take k)+B ^ k*_=_+B ^ k*dg xs k+(_+B ^ k*dg ys k)
  rw[kF,zA,zA];omega
theorem AddInv.done {xs ys zs:List Nat} {n cy:Nat} (h:AddInv xs ys zs n cy) (hx:Ok xs) (hy:Ok ys) (hl:zs.length=n+1) (h1:nl (val xs)≤n) (h2:nl (val ys)≤n):Ok (zs.set n cy)∧val (zs.set n cy)=val xs+val ys:=by
 obtain⟨ho,hc,hv⟩:=h;refine⟨ho.set _ _ (zi B_two),?_⟩;have:=val_set_take zs n cy zo;rw[fA (by simp;omega)] at this;rw[this,hv,val_take_nl hx h1,val_take_nl hy h2]
def SubInv (xs ys zs:List Nat) (k bw:Nat):Prop:=Ok zs∧bw≤1∧val (zs.take k)+val (ys.take k)=val (xs.take k)+B ^ k*bw∧∀i,k≤i→dg zs i=dg xs i
theorem SubInv.start {xs:List Nat} (ys:List Nat) (h:Ok xs):SubInv xs ys xs 0 0:=⟨h,zo,by simp[val],fun _ _=>rfl⟩
theorem dg_set_ne {zs:List Nat} {k i x:Nat} (h:k≠i):dg (zs.set k x) i=dg zs i:=by
 unfold dg;rw[qA,qA,List.getElem?_set_ne h]
theorem sub_digit {x y b:Nat} (hx:x<B) (hy:y<B) (hb:b≤1):(x+B-y-b) % B+y+b=x+B*(if x<y+b then 1 else 0):=by
 by_cases h:x<y+b
 ·rw[bB h,cD zo];omega
 ·rw[dA h,show x+B-y-b=(x-y-b)+B from by omega,Nat.add_mod_right,cD zo];omega
theorem SubInv.step {xs ys zs:List Nat} {k bw:Nat} (h:SubInv xs ys zs k bw) (_hx:Ok xs) (hy:Ok ys) (hk:k<zs.length) :
  SubInv xs ys (zs.set k ((dg zs k+B-dg ys k-bw) % B)) (k+1) (if dg zs k<dg ys k+bw then 1 else 0):=by
 obtain⟨ho,hc,hv,hr⟩:=h;have h1:=dg_lt ho k;have h2:=dg_lt hy k;have h3:=sub_digit h1 h2 hc;refine⟨ho.set _ _ (fC _ B_pos),by split<;>omega,?_,fun i hi=>?_⟩
 ·rw[val_set_take _ _ _ hk,val_take_succ',val_take_succ',yB,nB];rw[←show dg zs k=xs.getD k 0 from hr k (aA _)];show val (zs.take k)+B ^ k*_+(_+B ^ k*dg ys k)=_+B ^ k*dg zs k+B ^ k*_
  generalize (dg zs k+B-dg ys k-bw) % B=d at h3 ⊢
  generalize (B*if dg zs k<dg ys k+bw then 1 else 0)=e at h3 ⊢
  have h4:B ^ k*(d+dg ys k+bw)=B ^ k*(dg zs k+e):=by rw[h3]
  rw[zA,zA,zA] at h4;omega
 ·rw[dg_set_ne zo];exact hr i zo
theorem SubInv.done {xs ys zs:List Nat} {n bw:Nat} (h:SubInv xs ys zs n bw) (_hz:Ok xs) (hy:Ok ys) (hn:nl (val ys)≤n) (hle:val ys≤val (xs.take n)):bw=0∧val (zs.take n)=val (xs.take n)-val ys:=by
 obtain⟨ho,hc,hv,hr⟩:=h;rw[val_take_nl hy hn] at hv;have h1:=val_take_lt ho n;rcases qC bw with rfl | hb
 ·exact⟨rfl,zo⟩
 ·obtain rfl:bw=1:=zo;rw[kC] at hv;omega
def MulOut (xs ys zs:List Nat) (m i:Nat):Prop:=Ok zs∧val (zs.take (i+m))=val (xs.take i)*val (ys.take m)
def MulIn (x:Nat) (ys zs0 zs:List Nat) (i j cy:Nat):Prop:=Ok zs∧cy<B∧val (zs.take (i+j))+B ^ (i+j)*cy=val (zs0.take (i+j))+B ^ i*(x*val (ys.take j))∧∀k,i+j≤k→dg zs k=dg zs0 k
theorem MulOut.start (xs ys:List Nat) (m l:Nat):MulOut xs ys (List.replicate l 0) m 0:=⟨Ok.replicate l,by simp[List.take_replicate,val_replicate,val]⟩
theorem MulIn.start (x:Nat) (ys:List Nat) {zs:List Nat} (h:Ok zs) (i:Nat):MulIn x ys zs zs i 0 0:=⟨h,B_pos,by simp[val],fun _ _=>rfl⟩
theorem mul_digit {x y z c:Nat} (hx:x<B) (hy:y<B) (hz:z<B) (hc:c<B) :
  ((x*y % B+z) % B+c) % B+B*(x*y / B+(x*y % B+z) / B+((x*y % B+z) % B+c) / B)=x*y+z+c∧x*y / B+(x*y % B+z) / B+((x*y % B+z) % B+c) / B<B:=by
 have h1:=bC (x*y) B;have h2:=bC (x*y % B+z) B;have h3:=bC ((x*y % B+z) % B+c) B;have e:((x*y % B+z) % B+c) % B+B*(x*y / B+(x*y % B+z) / B+((x*y % B+z) % B+c) / B)=x*y+z+c:=by
  rw[zA,zA];omega
 refine⟨e,?_⟩;have h4:x*y≤(B-1)*(B-1):=xE zo zo;have h5:(B-1)*(B-1)+(B-1)+(B-1)<B*B:=by decide
 have h6:B*(x*y / B+(x*y % B+z) / B+((x*y % B+z) % B+c) / B)<B*B:=zo;exact vF h6
theorem MulIn.step {x:Nat} {ys zs0 zs:List Nat} {i j cy lo hi:Nat} (h:MulIn x ys zs0 zs i j cy) (hk:i+j<zs.length) (hlo:lo<B) (hhi:hi<B) (he:lo+B*hi=x*dg ys j+dg zs (i+j)+cy) :
  MulIn x ys zs0 (zs.set (i+j) lo) i (j+1) hi:=by
 obtain⟨ho,hc,hv,hr⟩:=h;refine⟨ho.set _ _ hlo,hhi,?_,fun k hk=>?_⟩
 ·rw[←gE,val_set_take _ _ _ hk,val_take_succ',val_take_succ',yB,nB];rw[←show dg zs (i+j)=zs0.getD (i+j) 0 from hr _ (aA _)];show val (zs.take (i+j))+B ^ (i+j)*lo+_=_+_+B ^ i*(x*(_+B ^ j*dg ys j))
  have h1:B ^ (i+j)*(lo+B*hi)=B ^ (i+j)*(x*dg ys j+dg zs (i+j)+cy):=by rw[he]
  rw[zA,zA,zA] at h1;have h2:B ^ i*(x*(val (ys.take j)+B ^ j*dg ys j))=B ^ i*(x*val (ys.take j))+B ^ (i+j)*(x*dg ys j):=by
   rw[zA,zA,tC,nB,jD x]
  rw[h2];omega
 ·rw[dg_set_ne zo];exact hr k zo
theorem MulIn.done {xs ys zs0 zs:List Nat} {i m cy:Nat} (h:MulIn (dg xs i) ys zs0 zs i m cy) (h0:MulOut xs ys zs0 m i) (hk:i+m<zs.length):MulOut xs ys (zs.set (i+m) cy) m (i+1):=by
 obtain⟨ho,hc,hv,hr⟩:=h;refine⟨ho.set _ _ hc,?_⟩;rw[Nat.add_right_comm,val_set_take _ _ _ hk,hv,h0.2,val_take_succ',xB];show _+B ^ i*(dg xs i*_)=_+B ^ i*dg xs i*_
 rw[nB]
theorem MulOut.done {xs ys zs:List Nat} {n m:Nat} (h:MulOut xs ys zs m n) (hx:Ok xs) (hy:Ok ys) (hn:nl (val xs)≤n) (hm:nl (val ys)≤m) (hl:zs.length=n+m):val zs=val xs*val ys:=by
 have:=h.2;rwa [fA zo,val_take_nl hx hn,val_take_nl hy hm] at this
def Agree (xs ys:List Nat) (k:Nat):Prop:=∀i,k≤i→dg xs i=dg ys i
theorem Agree.start {xs ys:List Nat} (hx:Ok xs) (hy:Ok ys) (h:nl (val xs)=nl (val ys)):Agree xs ys (nl (val xs)):=fun i hi=>by
 unfold dg;rw[getD_past hx hi,getD_past hy zo]
theorem Agree.down {xs ys:List Nat} {k:Nat} (h:Agree xs ys (k+1)) (hk:dg xs k=dg ys k):Agree xs ys k:=fun i hi=>by
 rcases Nat.eq_or_lt_of_le hi with rfl | hi
 ·exact hk
 ·exact h i hi
theorem Agree.all {xs ys:List Nat} (h:Agree xs ys 0):val xs=val ys:=val_congr fun i=>h i (uA _)
theorem Agree.less {xs ys:List Nat} {k:Nat} (hx:Ok xs) (h:Agree xs ys (k+1)) (hk:dg xs k<dg ys k):val xs<val ys:=by
 have e:val (xs.drop (k+1))=val (ys.drop (k+1)):=val_congr fun i=>by rw[dg_drop,dg_drop];exact h _ zo
 rw[val_split xs (k+1),val_split ys (k+1),e,val_take_succ',val_take_succ'];have h1:=val_take_lt hx k;have h2:B ^ k*(dg xs k+1)≤B ^ k*dg ys k:=aC _ hk;rw[zA] at h2;show val (xs.take k)+B ^ k*dg xs k+_<val (ys.take k)+B ^ k*dg ys k+_
 omega
theorem Agree.symm {xs ys:List Nat} {k:Nat} (h:Agree xs ys k):Agree ys xs k:=fun i hi=>(h i hi).symm
theorem lt_of_nl {a b:Nat} (h:nl a<nl b):a<b:=by
 rcases eB a b with h' | h'
 ·exact h'
 ·have:=nl_mono h';omega
def ZeroFrom (xs:List Nat) (k:Nat):Prop:=∀i,k≤i→i<xs.length→dg xs i=0
theorem ZeroFrom.start (xs:List Nat):ZeroFrom xs xs.length:=fun _ h k=>by omega
theorem ZeroFrom.down {xs:List Nat} {k:Nat} (h:ZeroFrom xs (k+1)) (hk:dg xs k=0):ZeroFrom xs k:=fun i hi hl=>by
 rcases Nat.eq_or_lt_of_le hi with rfl | hi
 ·exact hk
 ·exact h i hi hl
theorem ZeroFrom.done {xs:List Nat} {k:Nat} (h:ZeroFrom xs k) (ho:Ok xs) (hk:k≤xs.length) (ht:k=0∨dg xs (k-1)≠0):k=nl (val xs):=(nl_of ho hk h ht).symm
end Te
namespace Tw
def qof (n d:Int):Rat:=Rat.divInt n d
theorem qof_zero (n:Int):qof n 0=0:=Rat.divInt_zero n
theorem qof_neg (n d:Int):qof (-n) (-d)=qof n d:=Rat.neg_divInt_neg n d
theorem qof_one (n:Int):qof n 1=(n:Rat):=by
 unfold qof;rw[Rat.divInt_eq_div];rw[Rat.div_def,show(((1:Int):Rat))⁻¹=1 from Rat.inv_eq_of_mul_eq_one (by simp)];simp
theorem qof_eq (n d:Int):qof n d=(n:Rat) / (d:Rat):=Rat.divInt_eq_div n d
theorem qof_num {n d:Int} (h:0<d):(qof n d).num=n / (Int.gcd n d:Int):=by
 unfold qof;rw[Rat.num_divInt,yE h,Int.one_mul,Int.gcd_comm]
theorem qof_den {n d:Int} (h:0<d):((qof n d).den:Int)=d / (Int.gcd n d:Int):=by
 unfold qof;rw[Rat.den_divInt,dA zo,Int.gcd_comm]
 rw[Int.natCast_ediv,Int.natAbs_of_nonneg zo]
theorem qof_self (q:Rat):qof q.num q.den=q:=Rat.num_divInt_den q
theorem qof_add {n d m e:Int} (hd:d≠0) (he:e≠0):qof (n*e+m*d) (d*e)=qof n d+qof m e:=(Rat.divInt_add_divInt n m hd he).symm
theorem qof_sub {n d m e:Int} (hd:d≠0) (he:e≠0):qof (n*e-m*d) (d*e)=qof n d-qof m e:=(Rat.divInt_sub_divInt n m hd he).symm
theorem qof_mul (n d m e:Int):qof (n*m) (d*e)=qof n d*qof m e:=(Rat.divInt_mul_divInt n m).symm
def cmpQ (a b:Rat):Int:=if a<b then -1 else if a=b then 0 else 1
theorem qof_lt {n d m e:Int} (hd:0<d) (he:0<e):qof n d<qof m e↔n*e<m*d:=by
 have h1:(0:Rat)<d:=Rat.intCast_pos.2 hd;have h2:(0:Rat)<e:=Rat.intCast_pos.2 he;rw[qof_eq,qof_eq,Rat.div_lt_iff h1];rw[←Rat.intCast_lt_intCast,Rat.intCast_mul,Rat.intCast_mul];rw[show((m:Rat) / e*d)=(m*d) / e from by grind,Rat.lt_div_iff h2]
theorem qof_inj {n d m e:Int} (hd:0<d) (he:0<e):qof n d=qof m e↔n*e=m*d:=Rat.divInt_eq_divInt_iff zo zo
theorem cmpQ_qof {n d m e:Int} (hd:0<d) (he:0<e):cmpQ (qof n d) (qof m e)=if n*e<m*d then -1 else if n*e=m*d then 0 else 1:=by
 unfold cmpQ;simp only[qof_lt hd he,qof_inj hd he]
theorem qof_sign {n d:Int} (hd:0<d):n.sign=if qof n d<0 then -1 else if qof n d=0 then 0 else 1:=by
 have h0:(0:Rat)=qof 0 1:=by rw[qof_one];rfl
 rw[h0];simp only[qof_lt hd (by omega:(0:Int)<1),qof_inj hd (by omega:(0:Int)<1)]
 rcases qE n 0 with h | h | h
 ·rw[jE h];simp;omega
 ·subst h;simp
 ·rw[yE h];simp;omega
end Tw
