/- FeePlanned in plain words: moves of what the planned cases lack. -/
import Derived.Test.YtnkejaohnhpbpaaGreatDoorA23
import Derived.Test.YtnkejaohnhpbpaaGreatDoorA24
import Derived.Test.YtnkejaohnhpbpaaGreatDoorA64
import Derived.Test.YtnkejaohnhpbpaaGreatDoorA69
set_option linter.all false
section
namespace Go.Proofs.YtnkejaohnhpbpaaGreatDoor
open Go Go.RowKit Lift
def Book.lack (b:Book) (n:Int) (c:Nat):Int:=(b.fee c n).1 - ((b.after n).cases c).held
theorem lack_bounds {b:Book} (hv:Valid b) {n c:Nat} (hc:c < b.cs.length) (hs:((b.after n).cases c).state = 0) :
  1 ≤ b.lack n c ∧ b.lack n c ≤ 470000 ∧ (b.fee c n).2 = true ∧ wrap64 ((b.fee c n).1 - ((b.after n).cases c).held) = b.lack n c:=by
 have hA:=after_aft hv n c hc;have hf:=hv.fee_le hc n;unfold Book.lack;rcases hA with ⟨h1,h2,h3,h4,h5,h6⟩ | h | h
 ·refine ⟨by omega,by omega,h6,?_⟩;unfold wrap64;omega
 ·have:=h.1;omega
 ·have:=h.1;omega
theorem mem_lacks {b:Book} {s:St} {k:Nat} {n:Int}:∀ {m:Nat} {p:Int × Int},p ∈ b.lacks s k n m → ∃ c:Nat,c < m ∧ (s.cases c).state = 0 ∧ b.coin c = k ∧ p = ((c:Int),wrap64 ((b.fee c n).1 - (s.cases c).held))
 | 0,p,h => absurd h List.not_mem_nil
 | m + 1,p,h => by
  rw [lacks_succ] at h;rcases List.mem_append.1 h with h | h
  ·obtain ⟨c,h1,h2⟩:=mem_lacks h;exact ⟨c,by omega,h2⟩
  ·split at h
   ·rename_i hc;exact ⟨m,by omega,hc.1,hc.2,by simpa using h⟩
   ·exact absurd h List.not_mem_nil
theorem lacks_nodup (b:Book) (s:St) (k:Nat) (n:Int):∀ m,((b.lacks s k n m).map (·.1)).Nodup
 | 0 => List.nodup_nil
 | m + 1 => by
  rw [lacks_succ,List.map_append];refine List.nodup_append.2 ⟨lacks_nodup b s k n m,?_,?_⟩
  ·split <;> simp
  ·intro x hx y hy e;obtain ⟨p,hp,rfl⟩:=List.mem_map.1 hx;obtain ⟨c,h1,-,-,rfl⟩:=mem_lacks hp;split at hy
   ·simp at hy;omega
   ·simp at hy
theorem swo_ltL:Sort.SWO ltL where
 irrefl:=fun x => swo_ltI.irrefl x.2
 trans:=fun x y z => swo_ltI.trans x.2 y.2 z.2
 ntrans:=fun x y z => swo_ltI.ntrans x.2 y.2 z.2
theorem sortL_perm (xs:List (Int × Int)):xs.Perm (sortL xs):=by
 have h:=(Sort.insertionSort_holds (lt:=ltL) swo_ltL xs.toArray 0 xs.length (Nat.zero_le _) (by simp)).1;unfold sortL;generalize Sort.insertionSort ltL xs.toArray 0 xs.length = A at *;obtain ⟨h1,-,h3⟩:=h;have hz:xs.length = A.size:=by rw [h1];simp
 have e2:(xs.toArray.extract 0 xs.length) = xs.toArray:=by simp
 rw [e2,hz,Array.extract_size] at h3;exact h3.symm
def sumL (b:Book) (n:Int) (k:Nat):List Int → Int
 | [] => 0
 | x :: l => (if b.coin x.toNat = k then b.lack n x.toNat else 0) + sumL b n k l
theorem sumL_append (b:Book) (n:Int) (k:Nat):∀ l l',sumL b n k (l ++ l') = sumL b n k l + sumL b n k l'
 | [],l' => by simp [sumL]
 | x :: l,l' => by rw [List.cons_append,sumL,sumL_append b n k l l',sumL];omega
theorem sumL_perm (b:Book) (n:Int) (k:Nat) {l l':List Int} (h:l.Perm l'):sumL b n k l = sumL b n k l':=by
 induction h with
 | nil => rfl
 | cons x _ ih => simp only [sumL,ih]
 | swap x y l => simp only [sumL];omega
 | trans _ _ i1 i2 => exact i1.trans i2
theorem sumL_zero {b:Book} {n:Int} {k:Nat}:∀ {l:List Int},(∀ x ∈ l,b.coin x.toNat ≠ k) → sumL b n k l = 0
 | [],_ => rfl
 | x :: l,h => by rw [sumL,if_neg (h x (by simp)),sumL_zero fun y hy => h y (by simp [hy])];rfl
def sum2:List (Int × Int) → Int
 | [] => 0
 | p :: l => p.2 + sum2 l
theorem sum2_append:∀ l l',sum2 (l ++ l') = sum2 l + sum2 l'
 | [],l' => by simp [sum2]
 | x :: l,l' => by rw [List.cons_append,sum2,sum2_append l l',sum2];omega
theorem took_sum {L:List (Int × Int)} {left:Int} {k:Nat} (h:Took L left k) (h0:0 ≤ left) (h1:left ≤ 100000000000) (hp:∀ p ∈ L,0 ≤ p.2 ∧ p.2 ≤ 1000000):∀ j,j ≤ k → sum2 (L.take j) + lefts L left j = left ∧ 0 ≤ lefts L left j
 | 0,_ => by simp [sum2,lefts,h0]
 | j + 1,hj => by
  obtain ⟨i1,i2⟩:=took_sum h h0 h1 hp j (by omega);have hl:j < L.length:=by have:=h.le;omega
  have hh:=h.had j (by omega);have hb:=hp L[j] (List.getElem_mem hl);have e:L.getD j (0,0) = L[j]:=by simp [hl]
  rw [e] at hh;rw [lefts_succ,e,List.take_add_one,List.getElem?_eq_getElem hl,sum2_append];have e2:sum2 (some L[j]).toList = L[j].2:=by simp [sum2]
  have hs:0 ≤ sum2 (L.take j):=by
   have:∀ l:List (Int × Int),(∀ p ∈ l,0 ≤ p.2) → 0 ≤ sum2 l:=fun l => by
    induction l with
    | nil => intro _;exact Int.le_refl _
    | cons x l ih => intro q;have:=q x (by simp);have:=ih fun y hy => q y (by simp [hy]);rw [sum2];omega
   exact this _ fun p hp' => (hp p (List.mem_of_mem_take hp')).1
  rw [e2];have:wrap64 (lefts L left j - L[j].2) = lefts L left j - L[j].2:=by unfold wrap64;omega
  omega
theorem sum2_L {b:Book} {n:Int} {k:Nat}:∀ {T:List (Int × Int)},(∀ p ∈ T,b.coin p.1.toNat = k ∧ p.2 = b.lack n p.1.toNat) → sum2 T = sumL b n k (T.map (·.1))
 | [],_ => rfl
 | p :: T,h => by
  obtain ⟨h1,h2⟩:=h p (by simp);rw [sum2,List.map_cons,sumL,if_pos h1,h2,sum2_L fun q hq => h q (by simp [hq])]
structure PlanIs (b:Book) (n m:Nat) (cs:List Int):Prop where
 of:∀ x ∈ cs,∃ c:Nat,x = c ∧ c < b.cs.length ∧ ((b.after n).cases c).state = 0 ∧ b.coin c < m
 nd:cs.Nodup
 fit:∀ k,k < m → sumL b n k cs ≤ (b.after n).acc k
theorem PlanIs.perm {b:Book} {n m:Nat} {cs cs':List Int} (h:PlanIs b n m cs) (hp:cs.Perm cs'):PlanIs b n m cs':=
 ⟨fun x hx => h.of x (hp.mem_iff.2 hx),hp.nodup_iff.1 h.nd,fun k hk => by rw [← sumL_perm b n k hp];exact h.fit k hk⟩
theorem planned_is {b:Book} (hf:Full b) {n:Nat} (hn:n ≤ 9999):∀ m,m ≤ b.coins.length → ∀ {cs ps:List Int},Planned b (b.after n) n m cs ps → PlanIs b n m cs
 | 0,_,cs,ps,h => by
  obtain ⟨rfl,rfl⟩:=h;exact ⟨fun x hx => absurd hx List.not_mem_nil,List.nodup_nil,fun k hk => by omega⟩
 | m + 1,hm,cs,ps,h => by
  obtain ⟨cs0,ps0,k,h0,ht,rfl,-⟩:=h;have ih:=planned_is hf hn m (by omega) h0;have hnc:=hf.v.nc;have hS:=after_sums hf.v hf.al n hn;have ha0:=hS.acc m (by omega);have ha1:=(hS.bounds (k:=m) (by omega)).1;have hperm:=sortL_perm (b.lacks (b.after n) m n b.cs.length);have hmem:∀ p ∈ b.short (b.after n) n m,∃ c:Nat,c < b.cs.length ∧ ((b.after n).cases c).state = 0 ∧ b.coin c = m ∧ p = ((c:Int),b.lack n c):=fun p hp => by
   obtain ⟨c,h1,h2,h3,h4⟩:=mem_lacks (hperm.mem_iff.2 hp);exact ⟨c,h1,h2,h3,by rw [h4,(lack_bounds hf.v h1 h2).2.2.2]⟩
  have hnd:((b.short (b.after n) n m).map (·.1)).Nodup:=(hperm.map (·.1)).nodup_iff.1 (lacks_nodup b _ m n _);have hT:∀ p ∈ (b.short (b.after n) n m).take k,b.coin p.1.toNat = m ∧ p.2 = b.lack n p.1.toNat:=fun p hp => by
   obtain ⟨c,-,-,h3,rfl⟩:=hmem p (List.mem_of_mem_take hp);exact ⟨by simpa using h3,by simp⟩
  have hsum:=(took_sum ht ha0 (by omega) (fun p hp => by
   obtain ⟨c,h1,h2,-,rfl⟩:=hmem p hp;have:=lack_bounds hf.v h1 h2;simp only;omega) k (Nat.le_refl _))
  rw [sum2_L hT] at hsum;refine ⟨fun x hx => ?_,?_,fun j hj => ?_⟩
  ·rcases List.mem_append.1 hx with hx | hx
   ·obtain ⟨c,h1,h2,h3,h4⟩:=ih.of x hx;exact ⟨c,h1,h2,h3,by omega⟩
   ·obtain ⟨p,hp,rfl⟩:=List.mem_map.1 hx;obtain ⟨c,h1,h2,h3,rfl⟩:=hmem p (List.mem_of_mem_take hp);exact ⟨c,rfl,h1,h2,by omega⟩
  ·refine List.nodup_append.2 ⟨ih.nd,?_,?_⟩
   ·rw [List.map_take];exact List.Pairwise.sublist (List.take_sublist _ _) hnd
   ·intro x hx y hy e;obtain ⟨c,h1,-,-,h4⟩:=ih.of x hx;obtain ⟨p,hp,rfl⟩:=List.mem_map.1 hy;obtain ⟨c',-,-,h3,rfl⟩:=hmem p (List.mem_of_mem_take hp);simp only at e;have:c = c':=by omega
    subst this;omega
  ·rw [sumL_append];by_cases hjm:j = m
   ·subst hjm;rw [sumL_zero (l:=cs0) fun x hx => by
     obtain ⟨c,rfl,-,-,h4⟩:=ih.of x hx;simp only [Int.toNat_natCast];omega]
    omega
   ·rw [sumL_zero (l:=List.map _ _) fun x hx => by
     obtain ⟨p,hp,rfl⟩:=List.mem_map.1 hx;have:=(hT p hp).1;omega]
    have:=ih.fit j (by omega);omega
def mvOf (b:Book) (n:Int) (x:Int):Pay:=⟨2,n,b.coin x.toNat,b.lack n x.toNat,x.toNat⟩
structure MvAt (b:Book) (n:Nat) (l:List Int) (t:St):Prop where
 cs:∀ c,c < b.cs.length → t.cases c = if (c:Int) ∈ l then ⟨1,0,n,(b.fee c n).1⟩ else (b.after n).cases c
 acc:∀ k,t.acc k = (b.after n).acc k - sumL b n k l
def vcount (b:Book) (d:Int):List Pay → St → Nat
 | [],_ => 0
 | p :: L,s => (if (p.day = d ∧ p.kind = 2) ∧ ¬ okP p s then 1 else 0) + vcount b d L (mvsP b d s p)
end Go.Proofs.YtnkejaohnhpbpaaGreatDoor
end
section
namespace Go.Proofs.YtnkejaohnhpbpaaGreatDoor
open Go Go.RowKit Lift
def smP (p:Int × Int → Bool):List (Int × Int) → Int
 | [] => 0
 | x :: L => (if p x = true then x.2 else 0) + smP p L
theorem smP_append (p:Int × Int → Bool):∀ L L',smP p (L ++ L') = smP p L + smP p L'
 | [],L' => by simp [smP]
 | x :: L,L' => by rw [List.cons_append,smP,smP_append p L L',smP];omega
def smT (t:Int) (p:Int × Int → Bool):List (Int × Int) → Int
 | [] => 0
 | x :: L => (if p x = true then x.2 - t else 0) + smT t p L
theorem smT_eq (t:Int) (p:Int × Int → Bool):∀ L:List (Int × Int),smP p L = smT t p L + t * ((L.countP p:Nat):Int)
 | [] => by simp [smP,smT]
 | x :: L => by
  rw [smP,smT,smT_eq t p L,List.countP_cons];by_cases h:p x = true
  ·rw [if_pos h,if_pos h,if_pos h,Int.natCast_add,Int.mul_add];have:t * ((1:Nat):Int) = t:=Int.mul_one t;rw [this];omega
  ·rw [if_neg h,if_neg h,if_neg h,Nat.add_zero];omega
theorem smT_le {t:Int} {p q:Int × Int → Bool}:∀ {L:List (Int × Int)},(∀ x ∈ L,q x = true → x.2 ≤ t) → (∀ x ∈ L,q x = false → t ≤ x.2) → smT t q L ≤ smT t p L
 | [],_,_ => Int.le_refl _
 | x :: L,h1,h2 => by
  have ih:=smT_le (p:=p) (q:=q) (L:=L) (fun y hy => h1 y (List.mem_cons_of_mem _ hy)) (fun y hy => h2 y (List.mem_cons_of_mem _ hy));have a1:=h1 x (List.mem_cons_self ..);have a2:=h2 x (List.mem_cons_self ..);rw [smT,smT];by_cases hq:q x = true
  ·have:=a1 hq;rw [if_pos hq];split <;> omega
  ·have:=a2 (by simpa using hq);rw [if_neg hq];split <;> omega
theorem threshold {q:Int × Int → Bool}:∀ {L:List (Int × Int)},(∀ x ∈ L,0 ≤ x.2) → (∀ x ∈ L,∀ y ∈ L,q x = true → q y = false → x.2 ≤ y.2) → ∃ t:Int,0 ≤ t ∧ (∀ x ∈ L,q x = true → x.2 ≤ t) ∧ ∀ x ∈ L,q x = false → t ≤ x.2
 | [],_,_ => ⟨0,Int.le_refl _,fun x hx => absurd hx List.not_mem_nil,fun x hx => absurd hx List.not_mem_nil⟩
 | x :: L,h0,hc => by
  obtain ⟨t,t0,t1,t2⟩:=threshold (q:=q) (L:=L) (fun y hy => h0 y (List.mem_cons_of_mem _ hy)) (fun y hy z hz => hc y (List.mem_cons_of_mem _ hy) z (List.mem_cons_of_mem _ hz));have x0:=h0 x (List.mem_cons_self ..);by_cases hq:q x = true
  ·refine ⟨max t x.2,by omega,fun y hy h => ?_,fun y hy h => ?_⟩
   ·rcases List.mem_cons.1 hy with rfl | hy
    ·omega
    ·have:=t1 y hy h;omega
   ·rcases List.mem_cons.1 hy with rfl | hy
    ·rw [hq] at h;cases h
    ·have:=t2 y hy h;have:=hc x (List.mem_cons_self ..) y (List.mem_cons_of_mem _ hy) hq h;omega
  ·have hq':q x = false:=by simpa using hq
   refine ⟨min t x.2,by omega,fun y hy h => ?_,fun y hy h => ?_⟩
   ·rcases List.mem_cons.1 hy with rfl | hy
    ·exact absurd h hq
    ·have:=t1 y hy h;have:=hc y (List.mem_cons_of_mem _ hy) x (List.mem_cons_self ..) h hq';omega
   ·rcases List.mem_cons.1 hy with rfl | hy
    ·omega
    ·have:=t2 y hy h;omega
theorem least_sum {p q:Int × Int → Bool} {L:List (Int × Int)} (h0:∀ x ∈ L,0 ≤ x.2) (hc:∀ x ∈ L,∀ y ∈ L,q x = true → q y = false → x.2 ≤ y.2) (hn:L.countP q ≤ L.countP p):smP q L ≤ smP p L:=by
 obtain ⟨t,t0,t1,t2⟩:=threshold h0 hc;have e1:=smT_eq t q L;have e2:=smT_eq t p L;have e3:=smT_le (p:=p) t1 t2;have e4:t * ((L.countP q:Nat):Int) ≤ t * ((L.countP p:Nat):Int):=Int.mul_le_mul_of_nonneg_left (by omega) t0;omega
theorem smP_bounds {p:Int × Int → Bool}:∀ {L:List (Int × Int)},(∀ x ∈ L,0 ≤ x.2 ∧ x.2 ≤ 1000000) → 0 ≤ smP p L ∧ smP p L ≤ 1000000 * L.length
 | [],_ => by simp [smP]
 | x :: L,h => by
  have h1:=h x (List.mem_cons_self ..);have h2:=smP_bounds (p:=p) (L:=L) fun y hy => h y (List.mem_cons_of_mem _ hy);rw [smP,List.length_cons];split <;> omega
theorem smP_all {p:Int × Int → Bool}:∀ {L:List (Int × Int)},(∀ x ∈ L,p x = true) → smP p L = sum2 L
 | [],_ => rfl
 | x :: L,h => by rw [smP,sum2,if_pos (h x (List.mem_cons_self ..)),smP_all fun y hy => h y (List.mem_cons_of_mem _ hy)]
theorem smP_filter (p:Int × Int → Bool):∀ L:List (Int × Int),smP p L = sum2 (L.filter p)
 | [] => rfl
 | x :: L => by
  rw [smP,List.filter_cons];split
  ·rw [sum2,smP_filter p L]
  ·rw [smP_filter p L];omega
def inL (l:List Int) (x:Int × Int):Bool:=decide (x.1 ∈ l)
structure PvIs (cases proof:List Int) (L:List (Int × Int)) (a:Int) (i k s:Nat) (l h:Int):Prop where
 k:k = (L.take i).countP (inL cases)
 s:s = (L.take i).countP (inL proof)
 l:l = a - smP (inL cases) (L.take i)
 h:h = smP (inL proof) (L.take i)
 ok:∀ j,j < i → (L.getD j (0,0)).1 ∈ proof → (L.take j).any (lessHid (L.getD j (0,0)).2 proof) = false
theorem take_snocP (L:List (Int × Int)) {i:Nat} (hi:i < L.length):L.take (i + 1) = L.take i ++ [L.getD i (0,0)]:=by
 rw [List.take_add_one,List.getElem?_eq_getElem hi];simp [List.getD_eq_getElem?_getD,List.getElem?_eq_getElem hi]
theorem pv_is {cases proof:List Int} {L:List (Int × Int)} {a:Int} (h0:∀ x ∈ L,0 ≤ x.2 ∧ x.2 ≤ 1000000) (hL:L.length ≤ 100) (a0:0 ≤ a) (a1:a ≤ 100000000000):∀ {i:Nat},i ≤ L.length → ∀ {k s:Nat} {l h:Int},pv cases proof L a i = some (k,s,l,h) → PvIs cases proof L a i k s l h
 | 0,_,k,s,l,h,e => by
  cases e;exact ⟨rfl,rfl,by simp [smP],rfl,fun j hj => absurd hj (by omega)⟩
 | i + 1,hi,k,s,l,h,e => by
  obtain ⟨⟨x1,x2⟩,hx⟩:∃ x,L.getD i (0,0) = x:=⟨_,rfl⟩
  cases e0:pv cases proof L a i with
  | none => rw [pv_none e0 (i + 1) (by omega)] at e;cases e
  | some q =>
   obtain ⟨k0,s0,l0,g0⟩:=q;have ih:=pv_is h0 hL a0 a1 (by omega) e0;rw [pv_succ e0 hx] at e;have et:=take_snocP L (i:=i) (by omega);rw [hx] at et;have hT:∀ x ∈ L.take (i + 1),0 ≤ x.2 ∧ x.2 ≤ 1000000:=fun x hx => h0 x (List.mem_of_mem_take hx);have hl:(L.take (i + 1)).length ≤ 100:=by rw [List.length_take];omega
   have b1:=smP_bounds (p:=inL cases) hT;have b2:=smP_bounds (p:=inL proof) hT;rw [et,smP_append,smP,smP] at b1 b2;rw [et] at hl;split at e
   ·cases e
   ·rename_i hno;simp only [Option.some.injEq,Prod.mk.injEq] at e;obtain ⟨rfl,rfl,rfl,rfl⟩:=e;rw [ih.k,ih.s,ih.l,ih.h];refine ⟨?_,?_,?_,?_,fun j hj hp => ?_⟩
    ·rw [et,List.countP_append,List.countP_cons,List.countP_nil];simp only [inL,decide_eq_true_eq];split <;> omega
    ·rw [et,List.countP_append,List.countP_cons,List.countP_nil];simp only [inL,decide_eq_true_eq];split <;> omega
    ·rw [et,smP_append,smP,smP];simp only [inL,decide_eq_true_eq] at b1 ⊢;split
     ·rename_i hc;rw [if_pos hc] at b1;unfold wrap64;omega
     ·omega
    ·rw [et,smP_append,smP,smP];simp only [inL,decide_eq_true_eq] at b2 ⊢;split
     ·rename_i hc;rw [if_pos hc] at b2;unfold wrap64;omega
     ·omega
    ·by_cases hji:j = i
     ·subst hji;rw [hx] at hp ⊢;simp only at hp ⊢;simp only [Bool.and_eq_true,decide_eq_true_eq,not_and] at hno;simpa using hno hp
     ·exact ih.ok j (by omega) hp
theorem coin_most {cases proof:List Int} {L:List (Int × Int)} {a:Int} (h0:∀ x ∈ L,0 ≤ x.2 ∧ x.2 ≤ 1000000) (hL:L.length ≤ 100) (a0:0 ≤ a) (a1:a ≤ 100000000000)
  (hs:∀ i j,i < j → j < L.length → (L.getD i (0,0)).2 ≤ (L.getD j (0,0)).2) (h:pvCoin cases proof L a = true) :
  smP (inL cases) L ≤ a ∧ ∀ p:Int × Int → Bool,smP p L ≤ a → L.countP p ≤ L.countP (inL cases):=by
 unfold pvCoin at h;cases e:pv cases proof L a L.length with
 | none => rw [e] at h;cases h
 | some q =>
  obtain ⟨k,s,l,g⟩:=q;have P:=pv_is h0 hL a0 a1 (Nat.le_refl _) e;have pk:=P.k;have ps:=P.s;have pl:=P.l;have pg:=P.h;rw [List.take_length] at pk ps pl pg;rw [e] at h;simp only [Bool.and_eq_true,Bool.not_eq_true',decide_eq_false_iff_not] at h;obtain ⟨h1,h2⟩:=h;refine ⟨by omega,fun p hp => ?_⟩;split at h2
  ·rename_i hk;have:=List.countP_le_length (p:=p) (l:=L);omega
  ·simp only [Bool.not_eq_true',Bool.or_eq_false_iff,decide_eq_false_iff_not] at h2;obtain ⟨⟨g1,g2⟩,g3⟩:=h2;refine Decidable.byContradiction fun hgt => ?_;have hle:=least_sum (p:=p) (q:=inL proof) (L:=L) (fun x hx => (h0 x hx).1) (fun x hx y hy qx qy => ?_) (by omega)
   ·omega
   ·obtain ⟨i,hi,rfl⟩:=List.mem_iff_getElem.1 hx;obtain ⟨j,hj,rfl⟩:=List.mem_iff_getElem.1 hy;have ei:L.getD i (0,0) = L[i]:=by simp [hi]
    have ej:L.getD j (0,0) = L[j]:=by simp [hj]
    have qx':L[i].1 ∈ proof:=by simpa [inL] using qx
    have qy':L[j].1 ∉ proof:=by simpa [inL] using qy
    refine Decidable.byContradiction fun hlt => ?_;by_cases hij:j < i
    ·have hok:=P.ok i hi (by rw [ei];exact qx');rw [ei,List.any_eq_false] at hok;refine hok L[j] (List.mem_iff_getElem.2 ⟨j,by rw [List.length_take];omega,by simp⟩) ?_;unfold lessHid;simp only [Bool.and_eq_true,decide_eq_true_eq,Bool.not_eq_true',decide_eq_false_iff_not];exact ⟨by omega,qy'⟩
    ·by_cases e2:i = j
     ·subst e2;exact qy' qx'
     ·have:=hs i j (by omega) hj;rw [ei,ej] at this;omega
theorem coin_plan {cases proof:List Int} {L:List (Int × Int)} {a:Int} {k:Nat} (h0:∀ x ∈ L,0 ≤ x.2 ∧ x.2 ≤ 1000000) (hL:L.length ≤ 100) (a0:0 ≤ a) (a1:a ≤ 100000000000) (ht:Took L a k)
  (hcs:∀ j,j < L.length → ((L.getD j (0,0)).1 ∈ cases ↔ j < k)) (hps:∀ j,j < L.length → ((L.getD j (0,0)).1 ∈ proof ↔ (k < L.length ∧ j ≤ k))):pvCoin cases proof L a = true:=by
 have hkl:=ht.le;have hpv:∀ i,i ≤ L.length → ∃ h,pv cases proof L a i = some (min i k,if k < L.length then min i (k + 1) else 0,lefts L a (min i k),h):=by
  intro i
  induction i with
  | zero => intro _;exact ⟨0,by simp [pv,lefts]⟩
  | succ i ih =>
   intro hi;obtain ⟨h,e⟩:=ih (by omega);obtain ⟨⟨x1,x2⟩,hx⟩:∃ x,L.getD i (0,0) = x:=⟨_,rfl⟩
   have c1:=hcs i (by omega);have c2:=hps i (by omega);rw [hx] at c1 c2;simp only at c1 c2;have hno:(decide (x1 ∈ proof) && (L.take i).any (lessHid x2 proof)) = false:=by
    by_cases hp:x1 ∈ proof
    ·have hk:=c2.1 hp;have:(L.take i).any (lessHid x2 proof) = false:=List.any_eq_false.2 fun y hy q => by
      obtain ⟨j,hj,rfl⟩:=List.mem_iff_getElem.1 hy;rw [List.length_take] at hj;have hp2:=(hps j (by omega)).2 ⟨hk.1,by omega⟩;have ej:L.getD j (0,0) = L[j]:=by simp [show j < L.length by omega]
      rw [ej] at hp2;unfold lessHid at q;simp only [List.getElem_take,Bool.and_eq_true,Bool.not_eq_true',decide_eq_false_iff_not] at q;exact q.2 hp2
     rw [this,Bool.and_false]
    ·simp [hp]
   have hst:=pv_succ e hx;rw [hno,if_neg Bool.false_ne_true] at hst;have e1:(if x1 ∈ cases then min i k + 1 else min i k) = min (i + 1) k:=by
    by_cases q:x1 ∈ cases
    ·rw [if_pos q];have:=c1.1 q;omega
    ·rw [if_neg q];have:¬ i < k:=fun z => q (c1.2 z);omega
   have e2:(if x1 ∈ proof then (if k < L.length then min i (k + 1) else 0) + 1 else if k < L.length then min i (k + 1) else 0) = if k < L.length then min (i + 1) (k + 1) else 0:=by
    by_cases q:x1 ∈ proof
    ·have:=c2.1 q;rw [if_pos q,if_pos this.1,if_pos this.1];omega
    ·rw [if_neg q];by_cases z:k < L.length
     ·have:¬ i ≤ k:=fun y => q (c2.2 ⟨z,y⟩);rw [if_pos z,if_pos z];omega
     ·rw [if_neg z,if_neg z]
   have e3:(if x1 ∈ cases then wrap64 (lefts L a (min i k) - x2) else lefts L a (min i k)) = lefts L a (min (i + 1) k):=by
    by_cases q:x1 ∈ cases
    ·have:=c1.1 q;rw [if_pos q,show min (i + 1) k = i + 1 by omega,show min i k = i by omega,lefts_succ,hx]
    ·have:¬ i < k:=fun z => q (c1.2 z);rw [if_neg q,show min (i + 1) k = min i k by omega]
   rw [e1,e2,e3] at hst;exact ⟨_,hst⟩
 obtain ⟨h,e⟩:=hpv L.length (Nat.le_refl _);have P:=pv_is h0 hL a0 a1 (Nat.le_refl _) e;have pg:=P.h;rw [List.take_length] at pg;have hsum:=took_sum ht a0 a1 h0 k (Nat.le_refl _);rw [show min L.length k = k by omega] at e;unfold pvCoin;rw [e];simp only [Bool.and_eq_true,Bool.not_eq_true',decide_eq_false_iff_not];refine ⟨by omega,?_⟩;by_cases hk:k < L.length
 ·rw [if_pos hk,if_neg (by omega)];simp only [Bool.not_eq_true',Bool.or_eq_false_iff,decide_eq_false_iff_not];refine ⟨⟨by omega,by omega⟩,?_⟩;have hnot:=ht.not hk;have et:=take_snocP L hk;have e4:smP (inL proof) L = smP (inL proof) (L.take (k + 1)) + smP (inL proof) (L.drop (k + 1)):=by rw [← smP_append,List.take_append_drop]
  have e5:=(smP_bounds (p:=inL proof) (L:=L.drop (k + 1)) fun x hx => h0 x (List.mem_of_mem_drop hx)).1;have e6:smP (inL proof) (L.take (k + 1)) = sum2 (L.take (k + 1)):=smP_all fun y hy => by
   obtain ⟨j,hj,rfl⟩:=List.mem_iff_getElem.1 hy;rw [List.length_take] at hj;have hp2:=(hps j (by omega)).2 ⟨hk,by omega⟩;have ej:L.getD j (0,0) = L[j]:=by simp [show j < L.length by omega]
   rw [ej] at hp2;simpa [inL] using hp2
  rw [et,sum2_append,sum2,sum2] at e6;rw [et] at e4;omega
 ·rw [if_neg hk,if_pos ⟨by omega,rfl⟩]
structure OpenL (b:Book) (n:Nat) (l:List Int):Prop where
 of:∀ x ∈ l,∃ c:Nat,x = c ∧ c < b.cs.length ∧ ((b.after n).cases c).state = 0
 nd:l.Nodup
def cntC (b:Book) (k:Nat) (l:List Int):Nat:=l.countP fun x => decide (b.coin x.toNat = k)
theorem lacks_mem {b:Book} {s:St} {k:Nat} {n:Int}:∀ {m c:Nat},c < m → (s.cases c).state = 0 → b.coin c = k → ((c:Int),wrap64 ((b.fee c n).1 - (s.cases c).held)) ∈ b.lacks s k n m
 | 0,c,h,_,_ => absurd h (by omega)
 | m + 1,c,h,h1,h2 => by
  rw [lacks_succ];by_cases e:c = m
  ·subst e;refine List.mem_append_right _ ?_;rw [if_pos ⟨h1,h2⟩];simp
  ·exact List.mem_append_left _ (lacks_mem (by omega) h1 h2)
structure ShortIs (b:Book) (n c:Nat) (S:List (Int × Int)):Prop where
 of:∀ p ∈ S,∃ j:Nat,j < b.cs.length ∧ ((b.after n).cases j).state = 0 ∧ b.coin j = c ∧ p = ((j:Int),b.lack n j)
 all:∀ j,j < b.cs.length → ((b.after n).cases j).state = 0 → b.coin j = c → ((j:Int),b.lack n j) ∈ S
 nd:(S.map (·.1)).Nodup
 le:∀ x ∈ S,0 ≤ x.2 ∧ x.2 ≤ 1000000
 few:S.length ≤ 100
 up:∀ i j,i < j → j < S.length → (S.getD i (0,0)).2 ≤ (S.getD j (0,0)).2
theorem sortL_up (xs:List (Int × Int)):∀ i j,i < j → j < (sortL xs).length → ((sortL xs).getD i (0,0)).2 ≤ ((sortL xs).getD j (0,0)).2:=by
 have h:=(Sort.insertionSort_holds (lt:=ltL) swo_ltL xs.toArray 0 xs.length (Nat.zero_le _) (by simp)).2;have hz:=sortL_length xs;unfold sortL at *;generalize Sort.insertionSort ltL xs.toArray 0 xs.length = A at *;intro i j hij hj;have hj':j < A.size:=by simpa using hj
 have hi':i < A.size:=by omega
 have:=h i j (Nat.zero_le _) hij (by rw [Array.length_toList] at hz;omega);rw [getElem!_pos A i hi',getElem!_pos A j hj'] at this;have h2:ltI A[j].2 A[i].2 = false:=this;rw [ltI_eq,decide_eq_false_iff_not] at h2;have ei:A.toList.getD i (0,0) = A[i]:=by simp [List.getD_eq_getElem?_getD,hi']
 have ej:A.toList.getD j (0,0) = A[j]:=by simp [List.getD_eq_getElem?_getD,hj']
 rw [ei,ej];omega
theorem short_is {b:Book} (hv:Valid b) (n c:Nat):ShortIs b n c (b.short (b.after n) n c):=by
 have hperm:=sortL_perm (b.lacks (b.after n) c n b.cs.length);have hof:∀ p ∈ b.short (b.after n) n c,∃ j:Nat,j < b.cs.length ∧ ((b.after n).cases j).state = 0 ∧ b.coin j = c ∧ p = ((j:Int),b.lack n j):=fun p hp => by
  obtain ⟨j,h1,h2,h3,h4⟩:=mem_lacks (hperm.mem_iff.2 hp);exact ⟨j,h1,h2,h3,by rw [h4,(lack_bounds hv h1 h2).2.2.2]⟩
 refine ⟨hof,fun j h1 h2 h3 => ?_,(hperm.map (·.1)).nodup_iff.1 (lacks_nodup b _ c n _),fun p hp => ?_,?_,sortL_up _⟩
 ·have:=lacks_mem (n:=(n:Int)) h1 h2 h3;rw [(lack_bounds hv h1 h2).2.2.2] at this;exact hperm.mem_iff.1 this
 ·obtain ⟨j,h1,h2,-,rfl⟩:=hof p hp;have:=lack_bounds hv h1 h2;simp only;omega
 ·have:=short_length b (b.after n) n c;have:=hv.nk;omega
theorem sumL_filter (b:Book) (n:Int) (k:Nat):∀ l:List Int,sumL b n k (l.filter fun x => decide (b.coin x.toNat = k)) = sumL b n k l
 | [] => rfl
 | x :: l => by
  rw [List.filter_cons,sumL];by_cases h:b.coin x.toNat = k
  ·rw [if_pos (by simpa using h),if_pos h,sumL,if_pos h,sumL_filter b n k l]
  ·rw [if_neg (by simpa using h),if_neg h,sumL_filter b n k l];omega
theorem short_open {b:Book} {n c:Nat} {S:List (Int × Int)} (hS:ShortIs b n c S) {l:List Int} (hl:OpenL b n l):S.countP (inL l) = cntC b c l ∧ smP (inL l) S = sumL b n c l:=by
 have hp:((S.filter (inL l)).map (·.1)).Perm (l.filter fun x => decide (b.coin x.toNat = c)):=by
  rw [List.perm_ext_iff_of_nodup (List.Nodup.sublist (List.Sublist.map _ (List.filter_sublist)) hS.nd) (List.Nodup.sublist List.filter_sublist hl.nd)];intro x;constructor
  ·intro hx;obtain ⟨p,hp,rfl⟩:=List.mem_map.1 hx;obtain ⟨h1,h2⟩:=List.mem_filter.1 hp;obtain ⟨j,-,-,h5,rfl⟩:=hS.of p h1;refine List.mem_filter.2 ⟨by simpa [inL] using h2,by simpa using h5⟩
  ·intro hx;obtain ⟨h1,h2⟩:=List.mem_filter.1 hx;obtain ⟨j,rfl,h3,h4⟩:=hl.of x h1;have h5:b.coin j = c:=by simpa using h2
   exact List.mem_map.2 ⟨_,List.mem_filter.2 ⟨hS.all j h3 h4 h5,by simpa [inL] using h1⟩,rfl⟩
 constructor
 ·unfold cntC;rw [List.countP_eq_length_filter,List.countP_eq_length_filter,← hp.length_eq,List.length_map]
 ·rw [smP_filter,sum2_L (b:=b) (n:=n) (k:=c) fun p hq => by
   obtain ⟨j,-,-,h5,rfl⟩:=hS.of p (List.mem_filter.1 hq).1;exact ⟨by simpa using h5,by simp⟩,sumL_perm b n c hp,sumL_filter]
theorem cnt_succ (b:Book) (m:Nat):∀ l:List Int,(l.countP fun x => decide (b.coin x.toNat < m + 1)) = (l.countP fun x => decide (b.coin x.toNat < m)) + cntC b m l
 | [] => rfl
 | x :: l => by
  have ih:=cnt_succ b m l;unfold cntC at *;rw [List.countP_cons,List.countP_cons,List.countP_cons,ih];simp only [decide_eq_true_eq];split <;> split <;> split <;> omega
theorem len_of_cnt {b:Book} {m:Nat} {l l':List Int} (h:∀ c,c < m → cntC b c l = cntC b c l') (hl:∀ x ∈ l,b.coin x.toNat < m) (hl':∀ x ∈ l',b.coin x.toNat < m):l.length = l'.length:=by
 have hc:∀ i,i ≤ m → (l.countP fun x => decide (b.coin x.toNat < i)) = l'.countP fun x => decide (b.coin x.toNat < i):=by
  intro i
  induction i with
  | zero => intro _;simp
  | succ i ih => intro hi;rw [cnt_succ,cnt_succ,ih (by omega),h i (by omega)]
 have:=hc m (Nat.le_refl _);rw [List.countP_eq_length.2 fun x hx => by simpa using hl x hx,List.countP_eq_length.2 fun x hx => by simpa using hl' x hx] at this;exact this
theorem okList_open {b:Book} {n:Nat} {l:List Int} (hl:OpenL b n l) (ha:l.Pairwise (· < ·)):∀ i,i ≤ l.length → b.okList (b.after n) l i = true
 | 0,_ => rfl
 | i + 1,hi => by
  have hi':i < l.length:=by omega
  have ei:l.getD i 0 = l[i]:=by simp [hi']
  obtain ⟨c,h1,h2,h3⟩:=hl.of l[i] (List.getElem_mem hi');rw [okList_succ,okList_open hl ha i (by omega),ei,h1,Int.toNat_natCast];have e4:(decide (i = 0) || decide (l.getD (i - 1) 0 < (c:Int))) = true:=by
   by_cases e:i = 0
   ·simp [e]
   ·have hp:=List.pairwise_iff_getElem.1 ha (i - 1) i (by omega) hi' (by omega);have e5:l.getD (i - 1) 0 = l[i - 1]:=by simp [show i - 1 < l.length by omega]
    rw [h1] at hp;rw [e5,decide_eq_true hp,Bool.or_true]
  rw [e4];simp only [Bool.and_eq_true,decide_eq_true_eq,Bool.true_and,and_true];exact ⟨⟨by omega,by omega⟩,h3⟩
theorem planned_coins {b:Book} {s:St} {n:Nat} (hS:∀ c,∀ p ∈ b.short s n c,b.coin p.1.toNat = c):∀ {m:Nat} {cs ps:List Int},Planned b s n m cs ps →
  (∀ x ∈ cs,b.coin x.toNat < m) ∧ (∀ x ∈ ps,b.coin x.toNat < m) ∧ ∀ c,c < m → ∃ k,Took (b.short s n c) (s.acc c) k ∧ ∀ x:Int,b.coin x.toNat = c → (x ∈ cs ↔ x ∈ ((b.short s n c).take k).map (·.1)) ∧ (x ∈ ps ↔ (k < (b.short s n c).length ∧ x ∈ ((b.short s n c).take (k + 1)).map (·.1)))
 | 0,cs,ps,h => by
  obtain ⟨rfl,rfl⟩:=h;exact ⟨fun x hx => absurd hx List.not_mem_nil,fun x hx => absurd hx List.not_mem_nil,fun c hc => absurd hc (by omega)⟩
 | m + 1,cs,ps,h => by
  obtain ⟨cs0,ps0,k,h0,ht,rfl,rfl⟩:=h;obtain ⟨i1,i2,i3⟩:=planned_coins hS h0;have hm:∀ j,∀ x ∈ ((b.short s n m).take j).map (·.1),b.coin x.toNat = m:=fun j x hx => by
   obtain ⟨p,hp,rfl⟩:=List.mem_map.1 hx;exact hS m p (List.mem_of_mem_take hp)
  have hm2:∀ x ∈ (if k < (b.short s n m).length then ((b.short s n m).take (k + 1)).map (·.1) else []),b.coin x.toNat = m:=fun x hx => by
   split at hx
   ·exact hm _ x hx
   ·exact absurd hx List.not_mem_nil
  refine ⟨fun x hx => ?_,fun x hx => ?_,fun c hc => ?_⟩
  ·rcases List.mem_append.1 hx with hx | hx
   ·have:=i1 x hx;omega
   ·have:=hm k x hx;omega
  ·rcases List.mem_append.1 hx with hx | hx
   ·have:=i2 x hx;omega
   ·have:=hm2 x hx;omega
  ·by_cases e:c = m
   ·subst e;refine ⟨k,ht,fun x hx => ⟨?_,?_⟩⟩
    ·rw [List.mem_append];exact ⟨fun q => q.resolve_left fun q => by have:=i1 x q;omega,.inr⟩
    ·rw [List.mem_append];constructor
     ·intro q;have q:=q.resolve_left fun q => by have:=i2 x q;omega
      split at q
      ·rename_i hk;exact ⟨hk,q⟩
      ·exact absurd q List.not_mem_nil
     ·rintro ⟨q1,q2⟩;right;rw [if_pos q1];exact q2
   ·obtain ⟨k',t1,t2⟩:=i3 c (by omega);refine ⟨k',t1,fun x hx => ?_⟩;obtain ⟨u1,u2⟩:=t2 x hx;rw [← u1,← u2,List.mem_append,List.mem_append];exact ⟨⟨fun q => q.resolve_right fun q => by have:=hm k x q;omega,.inl⟩,⟨fun q => q.resolve_right fun q => by have:=hm2 x q;omega,.inl⟩⟩
theorem nd_take {S:List (Int × Int)} (hn:(S.map (·.1)).Nodup) {j:Nat} (hj:j < S.length) (k:Nat):(S.getD j (0,0)).1 ∈ (S.take k).map (·.1) ↔ j < k:=by
 have ej:S.getD j (0,0) = S[j]:=by simp [hj]
 rw [ej];constructor
 ·intro h;obtain ⟨p,hp,e⟩:=List.mem_map.1 h;obtain ⟨i,hi,rfl⟩:=List.mem_iff_getElem.1 hp;rw [List.length_take] at hi;rw [List.getElem_take] at e;have hnd:=List.pairwise_iff_getElem.1 hn;rcases Nat.lt_trichotomy i j with q | q | q
  ·have:=hnd i j (by rw [List.length_map];omega) (by rw [List.length_map];omega) q;simp only [List.getElem_map] at this;exact absurd e this
  ·omega
  ·omega
 ·intro h;exact List.mem_map.2 ⟨S[j],List.mem_iff_getElem.2 ⟨j,by rw [List.length_take];omega,by simp⟩,rfl⟩
structure MostAre (b:Book) (n:Nat) (L P:List Int):Prop where
 op:OpenL b n L
 pr:b.proves (b.after n) n L P = true
 best:∀ l,OpenL b n l → ∀ k,k < b.coins.length → sumL b n k l ≤ (b.after n).acc k → cntC b k l ≤ cntC b k L
 len:∀ l p,OpenL b n l → b.proves (b.after n) n l p = true → l.length = L.length
theorem most_are {b:Book} (hf:Full b) {n:Nat} (hn:n ≤ 9999) {cs ps:List Int} (h:Planned b (b.after n) n b.coins.length cs ps):MostAre b n (sortI cs) (sortI ps):=by
 have hP:=planned_is hf hn _ (Nat.le_refl _) h;have hL:OpenL b n (sortI cs):=⟨fun x hx => by
  obtain ⟨c,h1,h2,h3,-⟩:=(hP.perm (sortI_perm cs)).of x hx;exact ⟨c,h1,h2,h3⟩,(hP.perm (sortI_perm cs)).nd⟩
 obtain ⟨i1,i2,i3⟩:=planned_coins (fun c p hp => by
  obtain ⟨j,-,-,h3,rfl⟩:=(short_is hf.v n c).of p hp;simpa using h3) h
 have hA:∀ c,c < b.coins.length → 0 ≤ (b.after n).acc c ∧ (b.after n).acc c ≤ 100000000000:=fun c hc => by
  have hnc:=hf.v.nc;have hS:=after_sums hf.v hf.al n hn;have ha0:=hS.acc c (by omega);have ha1:=(hS.bounds (k:=c) (by omega)).1;omega
 have hpo:(∀ x ∈ ps,∃ c:Nat,x = c ∧ c < b.cs.length ∧ ((b.after n).cases c).state = 0) ∧ ps.Nodup:=by
  have hg:∀ m,m ≤ b.coins.length → ∀ {cs ps:List Int},Planned b (b.after n) n m cs ps → (∀ x ∈ ps,∃ c:Nat,x = c ∧ c < b.cs.length ∧ ((b.after n).cases c).state = 0 ∧ b.coin c < m) ∧ ps.Nodup:=by
   intro m
   induction m with
   | zero => intro _ cs ps h;obtain ⟨rfl,rfl⟩:=h;exact ⟨fun x hx => absurd hx List.not_mem_nil,List.nodup_nil⟩
   | succ m ih =>
    intro hm cs ps h;obtain ⟨cs0,ps0,k,h0,ht,rfl,rfl⟩:=h;obtain ⟨j1,j2⟩:=ih (by omega) h0;have hS:=short_is hf.v n m;have hx:∀ x:Int,x ∈ (if k < (b.short (b.after n) n m).length then ((b.short (b.after n) n m).take (k + 1)).map (·.1) else []) → ∃ c:Nat,x = c ∧ c < b.cs.length ∧ ((b.after n).cases c).state = 0 ∧ b.coin c = m:=fun x hx => by
     split at hx
     ·obtain ⟨p,hp,rfl⟩:=List.mem_map.1 hx;obtain ⟨j,h1,h2,h3,rfl⟩:=hS.of p (List.mem_of_mem_take hp);exact ⟨j,rfl,h1,h2,h3⟩
     ·exact absurd hx List.not_mem_nil
    refine ⟨fun x hx' => ?_,List.nodup_append.2 ⟨j2,?_,fun x h1 y h2 e => ?_⟩⟩
    ·rcases List.mem_append.1 hx' with q | q
     ·obtain ⟨c,h1,h2,h3,h4⟩:=j1 x q;exact ⟨c,h1,h2,h3,by omega⟩
     ·obtain ⟨c,h1,h2,h3,h4⟩:=hx x q;exact ⟨c,h1,h2,h3,by omega⟩
    ·split
     ·rw [List.map_take];exact List.Pairwise.sublist (List.take_sublist _ _) hS.nd
     ·exact List.nodup_nil
    ·obtain ⟨c,q1,-,-,q4⟩:=j1 x h1;obtain ⟨c',q1',-,-,q4'⟩:=hx y h2;have:c = c':=by omega
     subst this;omega
  obtain ⟨j1,j2⟩:=hg _ (Nat.le_refl _) h;exact ⟨fun x hx => by obtain ⟨c,h1,h2,h3,-⟩:=j1 x hx;exact ⟨c,h1,h2,h3⟩,j2⟩
 have hPo:OpenL b n (sortI ps):=⟨fun x hx => hpo.1 x ((sortI_perm ps).mem_iff.2 hx),(sortI_perm ps).nodup_iff.1 hpo.2⟩
 have hpr:b.proves (b.after n) n (sortI cs) (sortI ps) = true:=by
  unfold Book.proves;rw [okList_open hL (sortI_sorted cs hP.nd) _ (Nat.le_refl _),okList_open hPo (sortI_sorted ps hpo.2) _ (Nat.le_refl _),Bool.true_and,Bool.true_and,List.all_eq_true];intro c hc;have hc':c < b.coins.length:=List.mem_range.1 hc;have hS:=short_is hf.v n c;obtain ⟨k,t1,t2⟩:=i3 c hc';have hcoin:∀ j,j < (b.short (b.after n) n c).length → b.coin ((b.short (b.after n) n c).getD j (0,0)).1.toNat = c:=fun j hj => by
   have ej:(b.short (b.after n) n c).getD j (0,0) = (b.short (b.after n) n c)[j]:=by simp [hj]
   rw [ej];obtain ⟨i,-,-,h3,e⟩:=hS.of _ (List.getElem_mem hj);rw [e];simpa using h3
  refine coin_plan hS.le hS.few (hA c hc').1 (hA c hc').2 t1 (fun j hj => ?_) fun j hj => ?_
  ·rw [← (sortI_perm cs).mem_iff,(t2 _ (hcoin j hj)).1,nd_take hS.nd hj]
  ·rw [← (sortI_perm ps).mem_iff,(t2 _ (hcoin j hj)).2,nd_take hS.nd hj,Nat.lt_succ_iff]
 have hmost:∀ l p,OpenL b n l → b.proves (b.after n) n l p = true → ∀ k,k < b.coins.length → sumL b n k l ≤ (b.after n).acc k ∧ ∀ l',OpenL b n l' → sumL b n k l' ≤ (b.after n).acc k → cntC b k l' ≤ cntC b k l:=fun l p hl hp k hk => by
  unfold Book.proves at hp;simp only [Bool.and_eq_true,List.all_eq_true] at hp;have hc:=hp.2 k (List.mem_range.2 hk);have hS:=short_is hf.v n k;have hm:=coin_most hS.le hS.few (hA k hk).1 (hA k hk).2 hS.up hc;obtain ⟨e1,e2⟩:=short_open hS hl;rw [e1,e2] at hm;refine ⟨hm.1,fun l' hl' h' => ?_⟩;obtain ⟨e3,e4⟩:=short_open hS hl';have:=hm.2 (inL l') (by rw [e4];exact h');rwa [e3] at this
 refine ⟨hL,hpr,fun l hl k hk hs => (hmost _ _ hL hpr k hk).2 l hl hs,fun l p hl hp => ?_⟩;have hcoin:∀ l,OpenL b n l → ∀ x ∈ l,b.coin x.toNat < b.coins.length:=fun l hl x hx => by
  obtain ⟨c,rfl,h2,-⟩:=hl.of x hx;rw [Int.toNat_natCast];exact (hf.v.t _ (hf.v.tar h2)).1
 refine len_of_cnt (fun c hc => ?_) (hcoin l hl) (hcoin _ hL);have m1:=hmost l p hl hp c hc;have m2:=hmost _ _ hL hpr c hc;exact Nat.le_antisymm (m2.2 l hl m1.1) (m1.2 _ hL m2.1)
end Go.Proofs.YtnkejaohnhpbpaaGreatDoor
end
section
namespace Go.Proofs.YtnkejaohnhpbpaaGreatDoor
open Go Go.RowKit Lift
theorem append_int_at {F:Fence} {n:Nat} {w:World} {o:Oper} {a:Act} {K:Act → World → Prop} {Q:Exit → Act → World → Prop} (s x:Operand) (hop:o.op = .call { callee:=.builtin .append,args:=#[s,x],argTypes:=#[44,44] })
  {base k g c:Nat} {v:Value} {xs:List Int} {y:Int} (hs:a.eval s = v) (hown:w.ownsRow base 3 1 v k (ints xs)) (hx:a.eval x = .slice (some ⟨g,0,none⟩) 1 c) (hy:Blk w g 3 #[.int .i64 y]) (hk:k + 1 ≤ 1000000) (hb:base ≤ w.heap.size)
  (hK:∀ v' w',w'.ownsRow base 3 1 v' (k + 1) (ints (xs ++ [y])) → w.grownBy w' v.ownBlock → (v'.ownBlock = v.ownBlock ∨ v'.ownBlock = some w.heap.size) → K (a.put o.dst v') w'):o.wpIn F n Tryz.prog a w K Q:=by
 obtain ⟨i0,hi0,hz0,hz1,hz2⟩:=info_parts Tryz.infoI;obtain ⟨v',w',hrun,r1,r2,r3,r4⟩:=run_append_own_at (P:=Tryz.prog) w base 44 o.type 3 i0 _ 1 8 Tryz.underlying44 hi0 hz0 hz1 hz2 rfl (by decide) v k _ hown ⟨g,0,none⟩ 1 c [.int .i64 y] rfl (fun j u h => by
  match j,h with
  | 0,h => cases h;exact hy.cell 0
  | j + 1,h => simp at h) (fun u h => by
  obtain rfl:u = .int .i64 y:=by simpa using h
  rfl) (by unfold maxLen;omega) (by omega) hb
 unfold Oper.wpIn;refine ⟨?_,?_⟩
 ·simp [Oper.about,hop,resolve,Target.leads,Sem.run_pure]
 ·rw [Oper.semAt_plain F _ _ (by rw [hop];intro c hc';cases hc')];simp [execOp,hop,resolve,invoke,builtin,hs,hx,hrun,Result.andThen];refine hK v' w' ?_ r2 r4;unfold ints at r1 ⊢;rw [List.map_append];exact r1
theorem buildI_wp {o:Oper} {a:Act} {w:World} {K:Act → World → Prop} {Q:Exit → Act → World → Prop} {t:Tmp} {y:Int} (hop:o.op = .buildSlice 44 1 #[(0,.tmp t)]) (hs:a.eval (.tmp t) = .int .i64 y) (h:K (a.put o.dst (.slice (some ⟨w.heap.size,0,none⟩) 1 1)) (w.alloc (.cells #[.int .i64 y] 3))):o.wpIn Fz 0 Tryz.prog a w K Q:=by
 obtain ⟨d,op,ty,ps,af,gd⟩:=o;simp only at hop h;subst hop;have hs':a.tmps[t]?.getD undef = .int .i64 y:=by
  rw [← Array.getD_eq_getD_getElem?];exact hs
 clear hs;gi_wp2
 all_goals exact h
structure WM (ib ia iv iA iB:Nat) (sb sa sv:Tmp) (NV N0:Nat) (w0:World) (BM BS BB:Nat) (ms ms' ss ss' bs:Array Value) (v v2:Value) (xs ys:List Int) (c:Int) (D:Nat → Bool) (x:Tmp → Value) (w:World):Prop where
 bel:Below NV w0 w
 m:Blk w BM 3 (if D iA = true then ms' else ms)
 s:Blk w BS 3 (if D iB = true then ss' else ss)
 b:Blk w BB 3 bs
 op:w.ownsRow N0 3 1 v2 ys.length (ints ys)
 ov:D ia = false → w.ownsRow N0 3 1 v xs.length (ints xs)
 ob:D ib = true → ∃ g,x sb = .slice (some ⟨g,0,none⟩) 1 1 ∧ (D ia = false → N0 ≤ g ∧ Blk w g 3 #[.int .i64 c])
 oa:D ia = true → w.ownsRow N0 3 1 (x sa) (xs.length + 1) (ints (xs ++ [c])) ∧ ((x sa).ownBlock = v.ownBlock ∨ ∃ g,(x sa).ownBlock = some g ∧ ∀ k,v2.ownBlock = some k → k ≠ g)
 ev:D iv = true → x sv = x sa ∧ D ia = true
 e0:D iv = false → x sv = v
section
variable {ib ia iv iA iB:Nat} {sb sa sv:Tmp} {NV N0:Nat} {w0 w w':World} {BM BS BB:Nat} {ms ms' ss ss' bs:Array Value} {v v2:Value} {xs ys:List Int} {c:Int} {D:Nat → Bool} {x:Tmp → Value}
theorem WM.start {x0:Tmp → Value} (hm:Blk w0 BM 3 ms) (hs:Blk w0 BS 3 ss) (hb:Blk w0 BB 3 bs) (ho:w0.ownsRow N0 3 1 v2 ys.length (ints ys)) (hv:w0.ownsRow N0 3 1 v xs.length (ints xs)) (hx:x0 sv = v) :
  WM ib ia iv iA iB sb sa sv NV N0 w0 BM BS BB ms ms' ss ss' bs v v2 xs ys c (fun _ => false) x0 { w0 with drawn:=w0.drawn + 1 }:=
 ⟨⟨rfl,rfl,rfl,Nat.le_refl _,fun _ _ => rfl⟩,by rw [if_neg Bool.false_ne_true];exact hm,by rw [if_neg Bool.false_ne_true];exact hs,hb,ho,fun _ => hv,fun h => by (cases h),fun h => by (cases h),fun h => by (cases h),fun _ => hx⟩
theorem WM.pure (h:WM ib ia iv iA iB sb sa sv NV N0 w0 BM BS BB ms ms' ss ss' bs v v2 xs ys c D x w) {i:Nat} (hi:i ∉ [ib,ia,iv,iA,iB]):WM ib ia iv iA iB sb sa sv NV N0 w0 BM BS BB ms ms' ss ss' bs v v2 xs ys c (alsoG D i) x w:=by
 simp only [List.mem_cons,List.not_mem_nil,or_false,not_or] at hi;obtain ⟨h1,h2,h3,h4,h5⟩:=hi;have e1:=alsoG_ne (D:=D) (Ne.symm h1);have e2:=alsoG_ne (D:=D) (Ne.symm h2);have e3:=alsoG_ne (D:=D) (Ne.symm h3);have e4:=alsoG_ne (D:=D) (Ne.symm h4);have e5:=alsoG_ne (D:=D) (Ne.symm h5);exact ⟨h.bel,by rw [e4];exact h.m,by rw [e5];exact h.s,h.b,h.op,by rw [e2];exact h.ov,by rw [e1,e2];exact h.ob,by rw [e2];exact h.oa,by rw [e3,e2];exact h.ev,by rw [e3];exact h.e0⟩
theorem WM.build (hok:[ib,ia,iv,iA,iB].Nodup ∧ [sb,sa,sv].Nodup) (hN:NV ≤ w0.heap.size) (hN0:N0 ≤ w0.heap.size) (h:WM ib ia iv iA iB sb sa sv NV N0 w0 BM BS BB ms ms' ss ss' bs v v2 xs ys c D x w) (da:D ia = false) :
  WM ib ia iv iA iB sb sa sv NV N0 w0 BM BS BB ms ms' ss ss' bs v v2 xs ys c (alsoG D ib) (updT x sb (.slice (some ⟨w.heap.size,0,none⟩) 1 1)) (w.alloc (.cells #[.int .i64 c] 3)):=by
 obtain ⟨hi,hs⟩:=hok;simp only [List.nodup_cons,List.mem_cons,List.not_mem_nil,or_false,not_or,List.nodup_nil,and_true,not_false_eq_true] at hi hs;have ea:alsoG D ib ia = D ia:=alsoG_ne (Ne.symm hi.1.1);have ev:alsoG D ib iv = D iv:=alsoG_ne (Ne.symm hi.1.2.1);have eA:alsoG D ib iA = D iA:=alsoG_ne (Ne.symm hi.1.2.2.1);have eB:alsoG D ib iB = D iB:=alsoG_ne (Ne.symm hi.1.2.2.2);have hbl:Below w.heap.size w (w.alloc (.cells #[.int .i64 c] 3)):=(Below.refl _ w).alloc (Nat.le_refl _) _;have hsz:=h.bel.size;refine ⟨h.bel.alloc (by omega) _,by rw [eA];exact h.m.below hbl,by rw [eB];exact h.s.below hbl,h.b.below hbl,h.op.alloc _,fun q => (h.ov (ea ▸ q)).alloc _,fun _ => ⟨_,upd_eqT,fun _ => ⟨by omega,Blk.new w _ _⟩⟩,fun q => nof (ea.trans da) q,fun q => ?_,fun q => ?_⟩
 ·rw [ev] at q;exact nof da (h.ev q).2
 ·rw [ev] at q;rw [upd_neT (Ne.symm hs.1.2)];exact h.e0 q
theorem WM.app (hok:[ib,ia,iv,iA,iB].Nodup ∧ [sb,sa,sv].Nodup) (hN:NV ≤ N0) (hlt:BM < N0 ∧ BS < N0 ∧ BB < N0) (hN0:N0 ≤ w0.heap.size) (hne:∀ g,v.ownBlock = some g → v2.ownBlock ≠ some g) (h:WM ib ia iv iA iB sb sa sv NV N0 w0 BM BS BB ms ms' ss ss' bs v v2 xs ys c D x w) (da:D ia = false)
  {u:Value} (hown:w'.ownsRow N0 3 1 u (xs.length + 1) (ints (xs ++ [c]))) (hg:w.grownBy w' v.ownBlock) (hat:u.ownBlock = v.ownBlock ∨ u.ownBlock = some w.heap.size) :
  WM ib ia iv iA iB sb sa sv NV N0 w0 BM BS BB ms ms' ss ss' bs v v2 xs ys c (alsoG D ia) (updT x sa u) w':=by
 obtain ⟨hi,hs⟩:=hok;simp only [List.nodup_cons,List.mem_cons,List.not_mem_nil,or_false,not_or,List.nodup_nil,and_true,not_false_eq_true] at hi hs;have eb:alsoG D ia ib = D ib:=alsoG_ne hi.1.1;have ev:alsoG D ia iv = D iv:=alsoG_ne (Ne.symm hi.2.1.1);have eA:alsoG D ia iA = D iA:=alsoG_ne (Ne.symm hi.2.1.2.1);have eB:alsoG D ia iB = D iB:=alsoG_ne (Ne.symm hi.2.1.2.2);have hsz:=h.bel.size;have hv:=h.ov da;have hge:∀ k,v.ownBlock = some k → N0 ≤ k:=fun k e => (owns_ge hv k e)
 have st:∀ {B:Nat} {ty:TypeId} {cs:Array Value},B < N0 → Blk w B ty cs → Blk w' B ty cs:=fun {B ty cs} hB hb => (hg.block B hb.lt fun e => by have:=hge B e.symm;omega).trans hb;have hbw:Below NV w w':=(owns_bel hv hg (by omega)).mono hN;refine ⟨h.bel.trans hbw,by rw [eA];exact st hlt.1 h.m,by rw [eB];exact st hlt.2.1 h.s,st hlt.2.2 h.b,?_,fun q => nof q alsoG_eq,fun q => ?_,fun _ => ⟨by rw [upd_eqT];exact hown,?_⟩,fun q => ?_,fun q => ?_⟩
 ·exact ownsRow_of h.op fun g o hg' ho => (hg.block g (Array.getElem?_eq_some_iff.1 ho).1 fun e => hne g e.symm hg').trans ho
 ·rw [eb] at q;obtain ⟨g,e,-⟩:=h.ob q;exact ⟨g,by rw [upd_neT hs.1.1];exact e,fun q => nof q alsoG_eq⟩
 ·rw [upd_eqT];refine hat.imp id fun e => ⟨_,e,fun k hk => ?_⟩
  have:=(h.op.lt k hk).2;omega
 ·rw [ev] at q;exact nof da (h.ev q).2
 ·rw [ev] at q;rw [upd_neT (Ne.symm hs.2)];exact h.e0 q
theorem WM.move (hok:[ib,ia,iv,iA,iB].Nodup ∧ [sb,sa,sv].Nodup) (h:WM ib ia iv iA iB sb sa sv NV N0 w0 BM BS BB ms ms' ss ss' bs v v2 xs ys c D x w) (da:D ia = true) :
  WM ib ia iv iA iB sb sa sv NV N0 w0 BM BS BB ms ms' ss ss' bs v v2 xs ys c (alsoG D iv) (updT x sv (x sa)) w:=by
 obtain ⟨hi,hs⟩:=hok;simp only [List.nodup_cons,List.mem_cons,List.not_mem_nil,or_false,not_or,List.nodup_nil,and_true,not_false_eq_true] at hi hs;have eb:alsoG D iv ib = D ib:=alsoG_ne hi.1.2.1;have ea:alsoG D iv ia = D ia:=alsoG_ne hi.2.1.1;have eA:alsoG D iv iA = D iA:=alsoG_ne (Ne.symm hi.2.2.1.1);have eB:alsoG D iv iB = D iB:=alsoG_ne (Ne.symm hi.2.2.1.2);refine ⟨h.bel,by rw [eA];exact h.m,by rw [eB];exact h.s,h.b,h.op,fun q => nof (ea.symm.trans q) da,fun q => ?_,fun _ => ?_,fun _ => ⟨?_,ea.trans da⟩,fun q => nof q alsoG_eq⟩
 ·rw [eb] at q;obtain ⟨g,e,-⟩:=h.ob q;exact ⟨g,by rw [upd_neT hs.1.2];exact e,fun q => nof (ea.symm.trans q) da⟩
 ·rw [upd_neT hs.2];exact h.oa da
 ·rw [upd_eqT,upd_neT hs.2]
theorem WM.stM (hok:[ib,ia,iv,iA,iB].Nodup ∧ [sb,sa,sv].Nodup) (hN:NV ≤ BM) (hlt:BM < N0) (hd:BM ≠ BS ∧ BM ≠ BB) (h:WM ib ia iv iA iB sb sa sv NV N0 w0 BM BS BB ms ms' ss ss' bs v v2 xs ys c D x w) (dA:D iA = false) {k:Nat} {u:Value} (he:ms.setIfInBounds k u = ms') :
  WM ib ia iv iA iB sb sa sv NV N0 w0 BM BS BB ms ms' ss ss' bs v v2 xs ys c (alsoG D iA) x (w.setCell ⟨BM,k,none⟩ u):=by
 obtain ⟨hi,hs⟩:=hok;simp only [List.nodup_cons,List.mem_cons,List.not_mem_nil,or_false,not_or,List.nodup_nil,and_true,not_false_eq_true] at hi hs;have eb:alsoG D iA ib = D ib:=alsoG_ne hi.1.2.2.1;have ea:alsoG D iA ia = D ia:=alsoG_ne hi.2.1.2.1;have ev:alsoG D iA iv = D iv:=alsoG_ne hi.2.2.1.1;have eB:alsoG D iA iB = D iB:=alsoG_ne (Ne.symm hi.2.2.2);have hr:∀ {vv:Value} {n:Nat} {l:List Value},w.ownsRow N0 3 1 vv n l → vv.ownBlock ≠ some BM:=fun {vv n l} ho e => by have:=owns_ge ho BM e;omega
 have hm:=h.m;rw [dA,if_neg Bool.false_ne_true] at hm;refine ⟨h.bel.setCell (p:=⟨BM,k,none⟩) hN u,by rw [alsoG_eq,if_pos rfl,← he];exact hm.put k u,by rw [eB];exact h.s.set hd.1 u,h.b.set hd.2 u,owns_set h.op (hr h.op),fun q => ?_,fun q => ?_,fun q => ?_,by rw [ev,ea];exact h.ev,by rw [ev];exact h.e0⟩
 ·rw [ea] at q;exact owns_set (h.ov q) (hr (h.ov q))
 ·rw [eb] at q;obtain ⟨g,e,hg⟩:=h.ob q;refine ⟨g,e,fun q => ?_⟩;rw [ea] at q;obtain ⟨g1,g2⟩:=hg q;exact ⟨g1,g2.set (by omega) u⟩
 ·rw [ea] at q;obtain ⟨o1,o2⟩:=h.oa q;exact ⟨owns_set o1 (hr o1),o2⟩
theorem WM.stS (hok:[ib,ia,iv,iA,iB].Nodup ∧ [sb,sa,sv].Nodup) (hN:NV ≤ BS) (hlt:BS < N0) (hd:BS ≠ BM ∧ BS ≠ BB) (h:WM ib ia iv iA iB sb sa sv NV N0 w0 BM BS BB ms ms' ss ss' bs v v2 xs ys c D x w) (dB:D iB = false) {k:Nat} {u:Value} (he:ss.setIfInBounds k u = ss') :
  WM ib ia iv iA iB sb sa sv NV N0 w0 BM BS BB ms ms' ss ss' bs v v2 xs ys c (alsoG D iB) x (w.setCell ⟨BS,k,none⟩ u):=by
 obtain ⟨hi,hs⟩:=hok;simp only [List.nodup_cons,List.mem_cons,List.not_mem_nil,or_false,not_or,List.nodup_nil,and_true,not_false_eq_true] at hi hs;have eb:alsoG D iB ib = D ib:=alsoG_ne hi.1.2.2.2;have ea:alsoG D iB ia = D ia:=alsoG_ne hi.2.1.2.2;have ev:alsoG D iB iv = D iv:=alsoG_ne hi.2.2.1.2;have eA:alsoG D iB iA = D iA:=alsoG_ne hi.2.2.2;have hr:∀ {vv:Value} {n:Nat} {l:List Value},w.ownsRow N0 3 1 vv n l → vv.ownBlock ≠ some BS:=fun {vv n l} ho e => by have:=owns_ge ho BS e;omega
 have hm:=h.s;rw [dB,if_neg Bool.false_ne_true] at hm;refine ⟨h.bel.setCell (p:=⟨BS,k,none⟩) hN u,by rw [eA];exact h.m.set hd.1 u,by rw [alsoG_eq,if_pos rfl,← he];exact hm.put k u,h.b.set hd.2 u,owns_set h.op (hr h.op),fun q => ?_,fun q => ?_,fun q => ?_,by rw [ev,ea];exact h.ev,by rw [ev];exact h.e0⟩
 ·rw [ea] at q;exact owns_set (h.ov q) (hr (h.ov q))
 ·rw [eb] at q;obtain ⟨g,e,hg⟩:=h.ob q;refine ⟨g,e,fun q => ?_⟩;rw [ea] at q;obtain ⟨g1,g2⟩:=hg q;exact ⟨g1,g2.set (by omega) u⟩
 ·rw [ea] at q;obtain ⟨o1,o2⟩:=h.oa q;exact ⟨owns_set o1 (hr o1),o2⟩
end
structure W3 (i1 i2 i3:Nat) (s1 s2 s3:Tmp) (w0:World) (n:Nat) (D:Nat → Bool) (x:Tmp → Value) (w:World):Prop where
 bel:Below w0.heap.size w0 w
 a1:D i1 = true → ∃ g,x s1 = .slice (some ⟨g,0,none⟩) n n ∧ w0.heap.size ≤ g ∧ Blk w g 3 (nums (fun _ => 0) n)
 a2:D i2 = true → ∃ g,x s2 = .slice (some ⟨g,0,none⟩) n n ∧ w0.heap.size ≤ g ∧ Blk w g 3 (nums (fun _ => 0) n)
 a3:D i3 = true → ∃ g,x s3 = .slice (some ⟨g,0,none⟩) n n ∧ w0.heap.size ≤ g ∧ Blk w g 3 (nums (fun _ => 0) n)
 n12:D i1 = true → D i2 = true → x s1 ≠ x s2
 n13:D i1 = true → D i3 = true → x s1 ≠ x s3
 n23:D i2 = true → D i3 = true → x s2 ≠ x s3
section
variable {i1 i2 i3:Nat} {s1 s2 s3:Tmp} {w0 w w':World} {n:Nat} {D:Nat → Bool} {x:Tmp → Value}
theorem W3.start {x0:Tmp → Value}:W3 i1 i2 i3 s1 s2 s3 w0 n (fun _ => false) x0 { w0 with drawn:=w0.drawn + 1 }:=
 ⟨⟨rfl,rfl,rfl,Nat.le_refl _,fun _ _ => rfl⟩,fun h => by (cases h),fun h => by (cases h),fun h => by (cases h),fun h => by (cases h),fun h => by (cases h),fun h => by (cases h)⟩
theorem W3.pure (h:W3 i1 i2 i3 s1 s2 s3 w0 n D x w) {i:Nat} (hi:i ∉ [i1,i2,i3]):W3 i1 i2 i3 s1 s2 s3 w0 n (alsoG D i) x w:=by
 simp only [List.mem_cons,List.not_mem_nil,or_false,not_or] at hi;obtain ⟨h1,h2,h3⟩:=hi;have e1:=alsoG_ne (D:=D) (Ne.symm h1);have e2:=alsoG_ne (D:=D) (Ne.symm h2);have e3:=alsoG_ne (D:=D) (Ne.symm h3);exact ⟨h.bel,by rw [e1];exact h.a1,by rw [e2];exact h.a2,by rw [e3];exact h.a3,by rw [e1,e2];exact h.n12,by rw [e1,e3];exact h.n13,by rw [e2,e3];exact h.n23⟩
theorem W3.turn (h:W3 i1 i2 i3 s1 s2 s3 w0 n D x w):W3 i2 i3 i1 s2 s3 s1 w0 n D x w:=⟨h.bel,h.a2,h.a3,h.a1,h.n23,fun p q e => h.n12 q p e.symm,fun p q e => h.n13 q p e.symm⟩
theorem W3.make1 (hok:[i1,i2,i3].Nodup ∧ [s1,s2,s3].Nodup) (h:W3 i1 i2 i3 s1 s2 s3 w0 n D x w):W3 i1 i2 i3 s1 s2 s3 w0 n (alsoG D i1) (updT x s1 (.slice (some ⟨w.heap.size,0,none⟩) n n)) (w.alloc (.cells (nums (fun _ => 0) n) 3)):=by
 obtain ⟨hi,hs⟩:=hok;simp only [List.nodup_cons,List.mem_cons,List.not_mem_nil,or_false,not_or,List.nodup_nil,and_true,not_false_eq_true] at hi hs;have e2:alsoG D i1 i2 = D i2:=alsoG_ne (Ne.symm hi.1.1);have e3:alsoG D i1 i3 = D i3:=alsoG_ne (Ne.symm hi.1.2);have u2:∀ u,updT x s1 u s2 = x s2:=fun u => upd_neT (Ne.symm hs.1.1);have u3:∀ u,updT x s1 u s3 = x s3:=fun u => upd_neT (Ne.symm hs.1.2);have hb:Below w.heap.size w (w.alloc (.cells (nums (fun _ => 0) n) 3)):=(Below.refl _ w).alloc (Nat.le_refl _) _;have k:∀ {s:Tmp},(∃ g,x s = .slice (some ⟨g,0,none⟩) n n ∧ w0.heap.size ≤ g ∧ Blk w g 3 (nums (fun _ => 0) n)) → (∃ g,x s = .slice (some ⟨g,0,none⟩) n n ∧ w0.heap.size ≤ g ∧ Blk (w.alloc (.cells (nums (fun _ => 0) n) 3)) g 3 (nums (fun _ => 0) n)) ∧ Value.slice (some ⟨w.heap.size,0,none⟩) n n ≠ x s:=fun {s} ⟨g,q1,q2,q3⟩ => ⟨⟨g,q1,q2,q3.below hb⟩,fun e => by
  rw [q1] at e;have:=q3.lt;simp only [Value.slice.injEq,Option.some.injEq,Addr.mk.injEq] at e;omega⟩
 refine ⟨h.bel.trans (hb.mono h.bel.size),fun _ => ⟨_,upd_eqT,h.bel.size,Blk.new w _ _⟩,?_,?_,?_,?_,?_⟩
 ·rw [e2,u2];exact fun q => (k (h.a2 q)).1
 ·rw [e3,u3];exact fun q => (k (h.a3 q)).1
 ·rw [e2,u2,upd_eqT];exact fun _ q => (k (h.a2 q)).2
 ·rw [e3,u3,upd_eqT];exact fun _ q => (k (h.a3 q)).2
 ·rw [e2,e3,u2,u3];exact h.n23
theorem W3.make2 (hok:[i1,i2,i3].Nodup ∧ [s1,s2,s3].Nodup) (h:W3 i1 i2 i3 s1 s2 s3 w0 n D x w):W3 i1 i2 i3 s1 s2 s3 w0 n (alsoG D i2) (updT x s2 (.slice (some ⟨w.heap.size,0,none⟩) n n)) (w.alloc (.cells (nums (fun _ => 0) n) 3)):=by
 refine (W3.make1 ?_ h.turn).turn.turn;simp only [List.nodup_cons,List.mem_cons,List.not_mem_nil,or_false,not_or,List.nodup_nil,and_true,not_false_eq_true] at hok ⊢;exact ⟨⟨⟨hok.1.2,Ne.symm hok.1.1.1⟩,Ne.symm hok.1.1.2⟩,⟨⟨hok.2.2,Ne.symm hok.2.1.1⟩,Ne.symm hok.2.1.2⟩⟩
theorem W3.make3 (hok:[i1,i2,i3].Nodup ∧ [s1,s2,s3].Nodup) (h:W3 i1 i2 i3 s1 s2 s3 w0 n D x w):W3 i1 i2 i3 s1 s2 s3 w0 n (alsoG D i3) (updT x s3 (.slice (some ⟨w.heap.size,0,none⟩) n n)) (w.alloc (.cells (nums (fun _ => 0) n) 3)):=by
 refine (W3.make1 ?_ h.turn.turn).turn;simp only [List.nodup_cons,List.mem_cons,List.not_mem_nil,or_false,not_or,List.nodup_nil,and_true,not_false_eq_true] at hok ⊢;exact ⟨⟨⟨Ne.symm hok.1.1.2,Ne.symm hok.1.2⟩,hok.1.1.1⟩,⟨⟨Ne.symm hok.2.1.2,Ne.symm hok.2.2⟩,hok.2.1.1⟩⟩
end
def Copied (i j:Nat) (s t:Tmp) (D:Nat → Bool) (x:Tmp → Value):Prop:=D j = true → x t = x s ∧ D i = true
section
variable {i j k:Nat} {s t g:Tmp} {D:Nat → Bool} {x:Tmp → Value}
theorem Copied.start {x0:Tmp → Value}:Copied i j s t (fun _ => false) x0:=fun h => by cases h
theorem Copied.pure (h:Copied i j s t D x) (hk:k ∉ [i,j]):Copied i j s t (alsoG D k) x:=by
 simp only [List.mem_cons,List.not_mem_nil,or_false,not_or] at hk;unfold Copied;rw [alsoG_ne (Ne.symm hk.1),alsoG_ne (Ne.symm hk.2)];exact h
theorem Copied.put (h:Copied i j s t D x) (hk:k ∉ [i,j]) (hg:g ∉ [s,t]) {u:Value}:Copied i j s t (alsoG D k) (updT x g u):=by
 simp only [List.mem_cons,List.not_mem_nil,or_false,not_or] at hk hg;unfold Copied;rw [alsoG_ne (Ne.symm hk.1),alsoG_ne (Ne.symm hk.2),upd_neT (Ne.symm hg.1),upd_neT (Ne.symm hg.2)];exact h
theorem Copied.make (h:Copied i j s t D x) (hij:i ≠ j) (hd:D i = false) {u:Value}:Copied i j s t (alsoG D i) (updT x s u):=fun q => by
 rw [alsoG_ne (Ne.symm hij)] at q;exact nof hd (h q).2
theorem Copied.copy (hij:i ≠ j) (hst:s ≠ t) (hd:D i = true):Copied i j s t (alsoG D j) (updT x t (x s)):=fun _ => ⟨by rw [upd_eqT,upd_neT hst],by rw [alsoG_ne hij];exact hd⟩
end
theorem W3.slots {i1 i2 i3:Nat} {s1 s2 s3:Tmp} {w0 w:World} {n:Nat} {D D':Nat → Bool} {x x':Tmp → Value} (h:W3 i1 i2 i3 s1 s2 s3 w0 n D x w) (e1:D' i1 = D i1) (e2:D' i2 = D i2) (e3:D' i3 = D i3) (f1:x' s1 = x s1) (f2:x' s2 = x s2) (f3:x' s3 = x s3):W3 i1 i2 i3 s1 s2 s3 w0 n D' x' w:=
 ⟨h.bel,by rw [e1,f1];exact h.a1,by rw [e2,f2];exact h.a2,by rw [e3,f3];exact h.a3,by rw [e1,e2,f1,f2];exact h.n12,by rw [e1,e3,f1,f3];exact h.n13,by rw [e2,e3,f2,f3];exact h.n23⟩
def selL (f:Nat → Bool) (m:Nat):List Int:=((List.range m).filter f).map fun c:Nat => (c:Int)
theorem selL_succ (f:Nat → Bool) (m:Nat):selL f (m + 1) = selL f m ++ if f m = true then [(m:Int)] else []:=by
 unfold selL;rw [List.range_succ,List.filter_append,List.map_append];cases h:f m <;> simp [List.filter_cons,h]
theorem selL_len (f:Nat → Bool) (m:Nat):(selL f m).length ≤ m:=by
 unfold selL;rw [List.length_map];have:=List.length_filter_le f (List.range m);simpa using this
theorem selL_open {b:Book} {n:Nat} {f:Nat → Bool} (h:∀ c,f c = true → ((b.after n).cases c).state = 0):OpenL b n (selL f b.cs.length):=by
 refine ⟨fun x hx => ?_,?_⟩
 ·obtain ⟨c,hc,rfl⟩:=List.mem_map.1 hx;obtain ⟨h1,h2⟩:=List.mem_filter.1 hc;exact ⟨c,rfl,List.mem_range.1 h1,h c h2⟩
 ·unfold selL;refine List.Pairwise.map _ (fun a b h e => h (by omega)) (List.Pairwise.sublist List.filter_sublist List.nodup_range)
theorem cntC_snoc (b:Book) (k:Nat) (l:List Int) (x:Int):cntC b k (l ++ [x]) = cntC b k l + if k = b.coin x.toNat then 1 else 0:=by
 unfold cntC;rw [List.countP_append,List.countP_cons,List.countP_nil];by_cases h:b.coin x.toNat = k
 ·rw [if_pos (by simpa using h),if_pos h.symm]
 ·rw [if_neg (by simpa using h),if_neg (Ne.symm h)]
theorem cntC_le (b:Book) (k:Nat) (l:List Int):cntC b k l ≤ l.length:=List.countP_le_length
theorem sumL_snoc (b:Book) (n:Int) (k:Nat) (l:List Int) (x:Int):sumL b n k (l ++ [x]) = sumL b n k l + if k = b.coin x.toNat then b.lack n x.toNat else 0:=by
 rw [sumL_append,sumL,sumL];by_cases h:b.coin x.toNat = k
 ·rw [if_pos h,if_pos h.symm];omega
 ·rw [if_neg h,if_neg (Ne.symm h)];omega
theorem sumL_sel {b:Book} (hv:Valid b) {n:Nat} {f:Nat → Bool} (h:∀ c,f c = true → ((b.after n).cases c).state = 0):∀ {m:Nat},m ≤ b.cs.length → ∀ k,0 ≤ sumL b n k (selL f m) ∧ sumL b n k (selL f m) ≤ 470000 * m
 | 0,_,k => by simp [selL,sumL]
 | m + 1,hm,k => by
  have ih:=sumL_sel hv h (m:=m) (by omega) k;rw [selL_succ];split
  ·rename_i hf;have:=lack_bounds hv (by omega) (h m hf);rw [sumL_snoc,Int.toNat_natCast];split <;> omega
  ·rw [List.append_nil];omega
end Go.Proofs.YtnkejaohnhpbpaaGreatDoor
end
