/- FeePlanned in plain words: moves of what the planned cases lack. -/
import Derived.Test.YtnkejaohnhpbpaaGreatDoorA23
import Derived.Test.YtnkejaohnhpbpaaGreatDoorA53
import Derived.Test.YtnkejaohnhpbpaaGreatDoorA63
import Derived.Test.YtnkejaohnhpbpaaGreatDoorA64
set_option linter.all false
section
namespace Go.Proofs.YtnkejaohnhpbpaaGreatDoor
open Go Go.RowKit Lift
def Book.lack (b:Book) (n:Int) (c:Nat):Int:=(b.fee c n).1 - ((b.after n).cases c).held
theorem lack_bounds {b:Book} (hv:Valid b) {n c:Nat} (hc:c < b.cs.length) (hs:((b.after n).cases c).state = 0) :
  1 ≤ b.lack n c ∧ b.lack n c ≤ 470000 ∧ (b.fee c n).2 = true ∧ wrap64 ((b.fee c n).1 - ((b.after n).cases c).held) = b.lack n c:=by
 have hA:=after_aft hv n c hc;have hf:=hv.fee_le hc n;unfold Book.lack;rcases hA with ⟨h1,h2,h3,h4,h5,h6⟩ | h | h
 ·refine ⟨by omega,by omega,h6,?_⟩;unfold wrap64;omega
 ·have:=h.1;omega
 ·have:=h.1;omega
theorem mem_lacks {b:Book} {s:St} {k:Nat} {n:Int}:∀ {m:Nat} {p:Int × Int},p ∈ b.lacks s k n m → ∃ c:Nat,c < m ∧ (s.cases c).state = 0 ∧ b.coin c = k ∧ p = ((c:Int),wrap64 ((b.fee c n).1 - (s.cases c).held))
 | 0,p,h => absurd h List.not_mem_nil
 | m + 1,p,h => by
  rw [lacks_succ] at h;rcases List.mem_append.1 h with h | h
  ·obtain ⟨c,h1,h2⟩:=mem_lacks h;exact ⟨c,by omega,h2⟩
  ·split at h
   ·rename_i hc;exact ⟨m,by omega,hc.1,hc.2,by simpa using h⟩
   ·exact absurd h List.not_mem_nil
theorem lacks_nodup (b:Book) (s:St) (k:Nat) (n:Int):∀ m,((b.lacks s k n m).map (·.1)).Nodup
 | 0 => List.nodup_nil
 | m + 1 => by
  rw [lacks_succ,List.map_append];refine List.nodup_append.2 ⟨lacks_nodup b s k n m,?_,?_⟩
  ·split <;> simp
  ·intro x hx y hy e;obtain ⟨p,hp,rfl⟩:=List.mem_map.1 hx;obtain ⟨c,h1,-,-,rfl⟩:=mem_lacks hp;split at hy
   ·simp at hy;omega
   ·simp at hy
theorem swo_ltL:Sort.SWO ltL where
 irrefl:=fun x => swo_ltI.irrefl x.2
 trans:=fun x y z => swo_ltI.trans x.2 y.2 z.2
 ntrans:=fun x y z => swo_ltI.ntrans x.2 y.2 z.2
theorem sortL_perm (xs:List (Int × Int)):xs.Perm (sortL xs):=by
 have h:=(Sort.insertionSort_holds (lt:=ltL) swo_ltL xs.toArray 0 xs.length (Nat.zero_le _) (by simp)).1;unfold sortL;generalize Sort.insertionSort ltL xs.toArray 0 xs.length = A at *;obtain ⟨h1,-,h3⟩:=h;have hz:xs.length = A.size:=by rw [h1];simp
 have e2:(xs.toArray.extract 0 xs.length) = xs.toArray:=by simp
 rw [e2,hz,Array.extract_size] at h3;exact h3.symm
def sumL (b:Book) (n:Int) (k:Nat):List Int → Int
 | [] => 0
 | x :: l => (if b.coin x.toNat = k then b.lack n x.toNat else 0) + sumL b n k l
theorem sumL_append (b:Book) (n:Int) (k:Nat):∀ l l',sumL b n k (l ++ l') = sumL b n k l + sumL b n k l'
 | [],l' => by simp [sumL]
 | x :: l,l' => by rw [List.cons_append,sumL,sumL_append b n k l l',sumL];omega
theorem sumL_perm (b:Book) (n:Int) (k:Nat) {l l':List Int} (h:l.Perm l'):sumL b n k l = sumL b n k l':=by
 induction h with
 | nil => rfl
 | cons x _ ih => simp only [sumL,ih]
 | swap x y l => simp only [sumL];omega
 | trans _ _ i1 i2 => exact i1.trans i2
theorem sumL_zero {b:Book} {n:Int} {k:Nat}:∀ {l:List Int},(∀ x ∈ l,b.coin x.toNat ≠ k) → sumL b n k l = 0
 | [],_ => rfl
 | x :: l,h => by rw [sumL,if_neg (h x (by simp)),sumL_zero fun y hy => h y (by simp [hy])];rfl
theorem sumL_nonneg {b:Book} {n:Int} {k:Nat}:∀ {l:List Int},(∀ x ∈ l,0 ≤ b.lack n x.toNat) → 0 ≤ sumL b n k l
 | [],_ => Int.le_refl _
 | x :: l,h => by
  have h1:=h x (by simp);have h2:=sumL_nonneg (b:=b) (n:=n) (k:=k) (l:=l) fun y hy => h y (by simp [hy]);rw [sumL];split <;> omega
def sum2:List (Int × Int) → Int
 | [] => 0
 | p :: l => p.2 + sum2 l
theorem sum2_append:∀ l l',sum2 (l ++ l') = sum2 l + sum2 l'
 | [],l' => by simp [sum2]
 | x :: l,l' => by rw [List.cons_append,sum2,sum2_append l l',sum2];omega
theorem took_sum {L:List (Int × Int)} {left:Int} {k:Nat} (h:Took L left k) (h0:0 ≤ left) (h1:left ≤ 100000000000) (hp:∀ p ∈ L,0 ≤ p.2 ∧ p.2 ≤ 1000000):∀ j,j ≤ k → sum2 (L.take j) + lefts L left j = left ∧ 0 ≤ lefts L left j
 | 0,_ => by simp [sum2,lefts,h0]
 | j + 1,hj => by
  obtain ⟨i1,i2⟩:=took_sum h h0 h1 hp j (by omega);have hl:j < L.length:=by have:=h.le;omega
  have hh:=h.had j (by omega);have hb:=hp L[j] (List.getElem_mem hl);have e:L.getD j (0,0) = L[j]:=by simp [hl]
  rw [e] at hh;rw [lefts_succ,e,List.take_add_one,List.getElem?_eq_getElem hl,sum2_append];have e2:sum2 (some L[j]).toList = L[j].2:=by simp [sum2]
  have hs:0 ≤ sum2 (L.take j):=by
   have:∀ l:List (Int × Int),(∀ p ∈ l,0 ≤ p.2) → 0 ≤ sum2 l:=fun l => by
    induction l with
    | nil => intro _;exact Int.le_refl _
    | cons x l ih => intro q;have:=q x (by simp);have:=ih fun y hy => q y (by simp [hy]);rw [sum2];omega
   exact this _ fun p hp' => (hp p (List.mem_of_mem_take hp')).1
  rw [e2];have:wrap64 (lefts L left j - L[j].2) = lefts L left j - L[j].2:=by unfold wrap64;omega
  omega
theorem sum2_L {b:Book} {n:Int} {k:Nat}:∀ {T:List (Int × Int)},(∀ p ∈ T,b.coin p.1.toNat = k ∧ p.2 = b.lack n p.1.toNat) → sum2 T = sumL b n k (T.map (·.1))
 | [],_ => rfl
 | p :: T,h => by
  obtain ⟨h1,h2⟩:=h p (by simp);rw [sum2,List.map_cons,sumL,if_pos h1,h2,sum2_L fun q hq => h q (by simp [hq])]
structure PlanIs (b:Book) (n m:Nat) (cs:List Int):Prop where
 of:∀ x ∈ cs,∃ c:Nat,x = c ∧ c < b.cs.length ∧ ((b.after n).cases c).state = 0 ∧ b.coin c < m
 nd:cs.Nodup
 fit:∀ k,k < m → sumL b n k cs ≤ (b.after n).acc k
theorem PlanIs.perm {b:Book} {n m:Nat} {cs cs':List Int} (h:PlanIs b n m cs) (hp:cs.Perm cs'):PlanIs b n m cs':=
 ⟨fun x hx => h.of x (hp.mem_iff.2 hx),hp.nodup_iff.1 h.nd,fun k hk => by rw [← sumL_perm b n k hp];exact h.fit k hk⟩
theorem planned_is {b:Book} (hf:Full b) {n:Nat} (hn:n ≤ 9999):∀ m,m ≤ b.coins.length → ∀ {cs ps:List Int},Planned b (b.after n) n m cs ps → PlanIs b n m cs
 | 0,_,cs,ps,h => by
  obtain ⟨rfl,rfl⟩:=h;exact ⟨fun x hx => absurd hx List.not_mem_nil,List.nodup_nil,fun k hk => by omega⟩
 | m + 1,hm,cs,ps,h => by
  obtain ⟨cs0,ps0,k,h0,ht,rfl,-⟩:=h;have ih:=planned_is hf hn m (by omega) h0;have hnc:=hf.v.nc;have hS:=after_sums hf.v hf.al n hn;have ha0:=hS.acc m (by omega);have ha1:=(hS.bounds (k:=m) (by omega)).1;have hperm:=sortL_perm (b.lacks (b.after n) m n b.cs.length);have hmem:∀ p ∈ b.short (b.after n) n m,∃ c:Nat,c < b.cs.length ∧ ((b.after n).cases c).state = 0 ∧ b.coin c = m ∧ p = ((c:Int),b.lack n c):=fun p hp => by
   obtain ⟨c,h1,h2,h3,h4⟩:=mem_lacks (hperm.mem_iff.2 hp);exact ⟨c,h1,h2,h3,by rw [h4,(lack_bounds hf.v h1 h2).2.2.2]⟩
  have hnd:((b.short (b.after n) n m).map (·.1)).Nodup:=(hperm.map (·.1)).nodup_iff.1 (lacks_nodup b _ m n _);have hT:∀ p ∈ (b.short (b.after n) n m).take k,b.coin p.1.toNat = m ∧ p.2 = b.lack n p.1.toNat:=fun p hp => by
   obtain ⟨c,-,-,h3,rfl⟩:=hmem p (List.mem_of_mem_take hp);exact ⟨by simpa using h3,by simp⟩
  have hsum:=(took_sum ht ha0 (by omega) (fun p hp => by
   obtain ⟨c,h1,h2,-,rfl⟩:=hmem p hp;have:=lack_bounds hf.v h1 h2;simp only;omega) k (Nat.le_refl _))
  rw [sum2_L hT] at hsum;refine ⟨fun x hx => ?_,?_,fun j hj => ?_⟩
  ·rcases List.mem_append.1 hx with hx | hx
   ·obtain ⟨c,h1,h2,h3,h4⟩:=ih.of x hx;exact ⟨c,h1,h2,h3,by omega⟩
   ·obtain ⟨p,hp,rfl⟩:=List.mem_map.1 hx;obtain ⟨c,h1,h2,h3,rfl⟩:=hmem p (List.mem_of_mem_take hp);exact ⟨c,rfl,h1,h2,by omega⟩
  ·refine List.nodup_append.2 ⟨ih.nd,?_,?_⟩
   ·rw [List.map_take];exact List.Pairwise.sublist (List.take_sublist _ _) hnd
   ·intro x hx y hy e;obtain ⟨c,h1,-,-,h4⟩:=ih.of x hx;obtain ⟨p,hp,rfl⟩:=List.mem_map.1 hy;obtain ⟨c',-,-,h3,rfl⟩:=hmem p (List.mem_of_mem_take hp);simp only at e;have:c = c':=by omega
    subst this;omega
  ·rw [sumL_append];by_cases hjm:j = m
   ·subst hjm;rw [sumL_zero (l:=cs0) fun x hx => by
     obtain ⟨c,rfl,-,-,h4⟩:=ih.of x hx;simp only [Int.toNat_natCast];omega]
    omega
   ·rw [sumL_zero (l:=List.map _ _) fun x hx => by
     obtain ⟨p,hp,rfl⟩:=List.mem_map.1 hx;have:=(hT p hp).1;omega]
    have:=ih.fit j (by omega);omega
def mvOf (b:Book) (n:Int) (x:Int):Pay:=⟨2,n,b.coin x.toNat,b.lack n x.toNat,x.toNat⟩
structure MvAt (b:Book) (n:Nat) (l:List Int) (t:St):Prop where
 cs:∀ c,c < b.cs.length → t.cases c = if (c:Int) ∈ l then ⟨1,0,n,(b.fee c n).1⟩ else (b.after n).cases c
 acc:∀ k,t.acc k = (b.after n).acc k - sumL b n k l
theorem keep_acc1 {b:Book} {d:Int} {c:Nat} {s:St} (hr:∀ j,j < b.cs.length → j ≠ c → ¬ ((s.cases j).state = 0 ∧ (b.fee j d).2 = true ∧ (b.fee j d).1 ≤ (s.cases j).held)) (hc:(s.cases c).held = (b.fee c d).1) (ha:wrap64 (s.acc (b.coin c)) = s.acc (b.coin c)) :
  ∀ m,m ≤ b.cs.length → (iter (St.keep1 b d) m s).acc = s.acc ∧ ∀ j,m ≤ j → (iter (St.keep1 b d) m s).cases j = s.cases j
 | 0,_ => ⟨rfl,fun _ _ => rfl⟩
 | m + 1,hm => by
  obtain ⟨i1,i2⟩:=keep_acc1 hr hc ha m (by omega);have e:=i2 m (Nat.le_refl _);rw [iter];generalize iter (St.keep1 b d) m s = T at *;refine ⟨?_,fun j hj => ?_⟩
  ·by_cases hmc:m = c
   ·subst hmc;unfold St.keep1;rw [e];split
    ·show upd T.acc (b.coin m) (wrap64 (T.acc (b.coin m) + (upd T.cases m { T.cases m with held:=wrap64 ((T.cases m).held - (b.fee m d).1) } m).held)) = s.acc
     rw [upd_same,e,i1,hc,Int.sub_self,show wrap64 0 = 0 by unfold wrap64;omega,Int.add_zero,ha];exact upd_self _ _
    ·exact i1
   ·unfold St.keep1;rw [if_neg (by rw [e];exact hr m (by omega) hmc)];exact i1
  ·rw [keep1_cases,if_neg (by omega)];exact i2 j (by omega)
theorem aft_keep {b:Book} {c:Nat} {d:Int} {x:Std} (h:Aft b c d x):ckeep b d c x = x:=by
 unfold ckeep;rw [if_neg];rintro ⟨h1,h2,h3⟩;rcases h with ⟨q1,q2,q3,q4,q5,q6⟩ | q | q
 ·omega
 ·have:=q.1;omega
 ·have:=q.1;omega
theorem mv_step {b:Book} (hf:Full b) {n:Nat} (hn:n ≤ 9999) {l' l2:List Int} {x:Int} (hP:PlanIs b n b.coins.length (l' ++ x :: l2)) {t:St} (ht:MvAt b n l' t):okP (mvOf b n x) t ∧ MvAt b n (l' ++ [x]) (mvsP b n t (mvOf b n x)):=by
 obtain ⟨c,rfl,hc,hs,hk⟩:=hP.of x (by simp);obtain ⟨b1,b2,b3,b4⟩:=lack_bounds hf.v hc hs;have hnc:=hf.v.nc;have hS:=after_sums hf.v hf.al n hn;have ha0:=hS.acc (b.coin c) (by omega);have ha1:=(hS.bounds (k:=b.coin c) (by omega)).1;have hfit:=hP.fit (b.coin c) hk;rw [sumL_append,sumL,Int.toNat_natCast,if_pos rfl] at hfit;have hlk:∀ y ∈ l' ++ (c:Int) :: l2,0 ≤ b.lack n y.toNat:=fun y hy => by
  obtain ⟨c',rfl,g1,g2,-⟩:=hP.of y hy;have:=lack_bounds hf.v g1 g2;simp only [Int.toNat_natCast];omega
 have s1:=sumL_nonneg (b:=b) (n:=n) (k:=b.coin c) (l:=l2) fun y hy => hlk y (by simp [hy]);have s2:=sumL_nonneg (b:=b) (n:=n) (k:=b.coin c) (l:=l') fun y hy => hlk y (by simp [hy]);have hacc:=ht.acc (b.coin c);have hnm:(c:Int) ∉ l':=fun hm => by
  have:=(List.nodup_append.1 hP.nd).2.2 _ hm _ (List.mem_cons_self ..);exact this rfl
 have hcs:=ht.cs c hc;rw [if_neg hnm] at hcs;have hok:okP (mvOf b n c) t:=by
  refine ⟨fun q => ?_,?_,?_⟩
  ·have:b.coin c = 0 ∨ b.coin c = 1 ∨ b.coin c = 2:=by omega
   rcases this with e | e | e <;> rw [e] at hacc hfit s1 s2 ha0 <;> omega
  ·show (t.cases ((c:Int).toNat)).state = 0
   rw [Int.toNat_natCast,hcs];exact hs
  ·show 0 ≤ wrap64 (t.acc (b.coin ((c:Int).toNat)) - b.lack n ((c:Int).toNat))
   rw [Int.toNat_natCast,hacc];unfold wrap64;omega
 refine ⟨hok,?_⟩;have hstep:mvsP b n t (mvOf b n c) = ((t.subAcc (b.coin c) (b.lack n c)).addHeld c (b.lack n c)).keep b n:=by
  unfold mvsP;rw [if_pos ⟨rfl,rfl⟩];unfold mvP;rw [if_pos hok];simp only [mvOf,Int.toNat_natCast]
 rw [hstep];refine ⟨fun j hj => ?_,fun k => ?_⟩
 ·rw [keep_cases,if_pos hj,addHeld_cases];have e1:(t.subAcc (b.coin c) (b.lack n c)).cases = t.cases:=rfl;rw [e1];by_cases hjc:j = c
  ·subst hjc;rw [if_pos rfl,if_pos (by simp),hcs];have hA:=after_aft hf.v n j hj;have hfl:=hf.v.fee_le hj n;unfold ckeep cadd;have e2:wrap64 (((b.after n).cases j).held + b.lack n j) = (b.fee j n).1:=by
    unfold Book.lack wrap64;omega
   rw [if_pos ⟨hs,b3,by simp only;rw [e2];exact Int.le_refl _⟩]
  ·rw [if_neg hjc,ht.cs j hj];by_cases hm:(j:Int) ∈ l'
   ·rw [if_pos hm,if_pos (by simp [hm])];unfold ckeep;rw [if_neg fun q => by have:=q.1;simp at this]
   ·rw [if_neg hm,if_neg (by simp [hm];omega)];exact aft_keep (after_aft hf.v n j hj)
 ·have e1:(t.subAcc (b.coin c) (b.lack n c)).cases = t.cases:=rfl;have hka:=(keep_acc1 (b:=b) (d:=n) (c:=c) (s:=(t.subAcc (b.coin c) (b.lack n c)).addHeld c (b.lack n c)) (fun j hj hjc => by
   rw [addHeld_cases,if_neg hjc,e1,ht.cs j hj];by_cases hm:(j:Int) ∈ l'
   ·rw [if_pos hm];intro q;have:=q.1;simp at this
   ·rw [if_neg hm];have hA:=after_aft hf.v n j hj;rintro ⟨q1,q2,q3⟩;rcases hA with ⟨g1,g2,g3,g4,g5,g6⟩ | g | g
    ·omega
    ·have:=g.1;omega
    ·have:=g.1;omega) (by
   rw [addHeld_cases,if_pos rfl,e1,hcs];have hA:=after_aft hf.v n c hc;have hfl:=hf.v.fee_le hc n
   show wrap64 (((b.after n).cases c).held + b.lack n c) = (b.fee c n).1
   unfold Book.lack wrap64;omega) (by
   show wrap64 ((t.subAcc (b.coin c) (b.lack n c)).acc (b.coin c)) = (t.subAcc (b.coin c) (b.lack n c)).acc (b.coin c)
   simp only [St.subAcc,upd,if_true];unfold wrap64;omega) b.cs.length (Nat.le_refl _)).1
  show (iter (St.keep1 b n) b.cs.length _).acc k = _
  rw [hka]
  show (t.subAcc (b.coin c) (b.lack n c)).acc k = _
  rw [sumL_append,sumL,sumL,Int.toNat_natCast];have hk':=ht.acc k;by_cases e:k = b.coin c
  ·subst e;rw [if_pos rfl];simp only [St.subAcc,upd,if_true];rw [hk'];unfold wrap64;omega
  ·rw [if_neg fun q => e q.symm];simp only [St.subAcc,upd,if_neg e];rw [hk'];omega
theorem mvs_are {b:Book} (hf:Full b) {n:Nat} (hn:n ≤ 9999):∀ (l2 l':List Int) (t:St),PlanIs b n b.coins.length (l' ++ l2) → MvAt b n l' t →
  MvAt b n (l' ++ l2) ((l2.map (mvOf b n)).foldl (mvsP b n) t) ∧ ∀ L1 p L2,l2.map (mvOf b n) = L1 ++ p :: L2 → okP p (L1.foldl (mvsP b n) t)
 | [],l',t,_,ht => ⟨by simpa using ht,fun L1 p L2 h => by simp at h⟩
 | x :: l2,l',t,hP,ht => by
  obtain ⟨h1,h2⟩:=mv_step hf hn hP ht;obtain ⟨h3,h4⟩:=mvs_are hf hn l2 (l' ++ [x]) _ (by simpa using hP) h2;refine ⟨by simpa using h3,fun L1 p L2 he => ?_⟩;cases L1 with
  | nil =>
   have:mvOf b n x = p:=by simpa using (List.cons.inj he).1
   subst this;exact h1
  | cons q L1 =>
   rw [List.map_cons,List.cons_append] at he;obtain ⟨e1,e2⟩:=List.cons.inj he;subst e1;exact h4 L1 p L2 e2
def vcount (b:Book) (d:Int):List Pay → St → Nat
 | [],_ => 0
 | p :: L,s => (if (p.day = d ∧ p.kind = 2) ∧ ¬ okP p s then 1 else 0) + vcount b d L (mvsP b d s p)
theorem vcount_append (b:Book) (d:Int):∀ L L' s,vcount b d (L ++ L') s = vcount b d L s + vcount b d L' (L.foldl (mvsP b d) s)
 | [],L',s => by simp [vcount]
 | p :: L,L',s => by rw [List.cons_append,vcount,vcount_append b d L L',vcount,List.foldl_cons];omega
theorem failed_vcount (b:Book) (d:Int) (u:St):∀ k,k ≤ b.ps.length → (failed b d u k).length = vcount b d (b.ps.take k) u.nov
 | 0,_ => by simp [failed,vcount]
 | k + 1,hk => by
  have ih:=failed_vcount b d u k (by omega);have hi:=iter_fold b (mvs1_P b d) u k (by omega);rw [take_payAt (show k < b.ps.length by omega),vcount_append,← ih,← hi];unfold failed;rw [List.range_succ,List.filter_append,List.length_append]
  congr 1
  by_cases h:failing b d k (iter (St.mvs1 b d) k u)
  ·have h':((b.payAt k).day = d ∧ (b.payAt k).kind = 2) ∧ ¬ okP (b.payAt k) (iter (St.mvs1 b d) k u).nov:=h;rw [vcount,if_pos h'];simp [h,vcount]
  ·have h':¬ (((b.payAt k).day = d ∧ (b.payAt k).kind = 2) ∧ ¬ okP (b.payAt k) (iter (St.mvs1 b d) k u).nov):=h;rw [vcount,if_neg h'];simp [h,vcount]
theorem vcount_upTo (b:Book) {d n:Int} (hd:d ≤ n):∀ L s,vcount b d (L.filter fun p => decide (p.day ≤ n)) s = vcount b d L s ∧ (L.filter fun p => decide (p.day ≤ n)).foldl (mvsP b d) s = L.foldl (mvsP b d) s
 | [],s => ⟨rfl,rfl⟩
 | p :: L,s => by
  by_cases h:p.day ≤ n
  ·rw [List.filter_cons_of_pos (by simpa using h)];obtain ⟨h1,h2⟩:=vcount_upTo b hd L (mvsP b d s p);exact ⟨by rw [vcount,vcount,h1],by rw [List.foldl_cons,List.foldl_cons,h2]⟩
  ·rw [List.filter_cons_of_neg (by simpa using h)];obtain ⟨h1,h2⟩:=vcount_upTo b hd L s;have e:mvsP b d s p = s:=by unfold mvsP;rw [if_neg fun q => h (by have:=q.1;omega)]
   refine ⟨?_,by rw [List.foldl_cons,e,h2]⟩;rw [vcount,if_neg fun q => h (by have:=q.1.1;omega),e,h1];omega
theorem vcount_none {b:Book} {d:Int}:∀ {L:List Pay} {s:St},(∀ p ∈ L,p.day ≠ d) → vcount b d L s = 0
 | [],_,_ => rfl
 | p :: L,s,h => by
  rw [vcount,if_neg fun q => h p (by simp) q.1.1,vcount_none fun q hq => h q (by simp [hq])]
theorem vcount_ok {b:Book} {d:Int}:∀ {L:List Pay} {s:St},(∀ L1 p L2,L = L1 ++ p :: L2 → okP p (L1.foldl (mvsP b d) s)) → vcount b d L s = 0
 | [],_,_ => rfl
 | p :: L,s,h => by
  have h0:=h [] p L rfl;rw [vcount,if_neg fun q => q.2 h0,vcount_ok fun L1 q L2 e => by
   have:=h (p :: L1) q L2 (by rw [e];rfl);simpa using this]
end Go.Proofs.YtnkejaohnhpbpaaGreatDoor
end
section
namespace Go.Proofs.YtnkejaohnhpbpaaGreatDoor
open Go Go.RowKit Lift
theorem vcount_ps (b:Book) (ps':List Pay) (d:Int):∀ L s,vcount { b with ps:=ps' } d L s = vcount b d L s
 | [],_ => rfl
 | p :: L,s => by
  rw [vcount,vcount,vcount_ps b ps' d L];rfl
def Book.plan (b:Book) (n:Nat) (l:List Int):Book:={ b with ps:=(b.ps.filter fun p => decide (p.day ≤ (n:Int))) ++ l.map (mvOf b n) }
section
variable {b:Book} {n:Nat} {l:List Int}
theorem plan_in (d:Int) (hd:d ≤ n):(b.plan n l).ps.filter (inOn d) = b.ps.filter (inOn d):=by
 show ((b.ps.filter fun p => decide (p.day ≤ (n:Int))) ++ l.map (mvOf b n)).filter (inOn d) = _
 rw [List.filter_append,List.filter_filter];have e1:(l.map (mvOf b n)).filter (inOn d) = []:=List.filter_eq_nil_iff.2 fun p hp => by
  obtain ⟨x,_,rfl⟩:=List.mem_map.1 hp;simp [inOn,mvOf]
 rw [e1,List.append_nil]
 congr 1
 funext p
 by_cases h:p.day = d
 ·have:p.day ≤ (n:Int):=by omega
  simp [inOn,h,hd]
 ·simp [inOn,h]
theorem plan_mv (d:Int) (hd:d < n):(b.plan n l).ps.filter (mvOn d) = b.ps.filter (mvOn d):=by
 show ((b.ps.filter fun p => decide (p.day ≤ (n:Int))) ++ l.map (mvOf b n)).filter (mvOn d) = _
 rw [List.filter_append,List.filter_filter];have e1:(l.map (mvOf b n)).filter (mvOn d) = []:=List.filter_eq_nil_iff.2 fun p hp => by
  obtain ⟨x,_,rfl⟩:=List.mem_map.1 hp;simp [mvOn,mvOf];omega
 rw [e1,List.append_nil]
 congr 1
 funext p
 by_cases h:p.day = d
 ·have:d ≤ n:=by omega
  simp [mvOn,h,this]
 ·simp [mvOn,h]
theorem plan_before (hv:Valid b) (hv':Valid (b.plan n l)):∀ m:Nat,m ≤ n → ((b.plan n l).after ((m:Int) - 1)).nov = (b.after ((m:Int) - 1)).nov
 | 0,_ => by
  have e1:b.after (((0:Nat):Int) - 1) = St.init:=hv.after_zero;have e2:(b.plan n l).after (((0:Nat):Int) - 1) = St.init:=hv'.after_zero;rw [e1,e2]
 | m + 1,hm => by
  have ih:=plan_before hv hv' m (by omega);have h1:=after_dayP' hv m;have h2:=after_dayP' hv' m;rw [show ((m + 1:Nat):Int) - 1 = m by omega,h1,h2,ih]
  show dayP b (b.plan n l).ps m _ = _
  exact dayP_alike b (by rw [plan_in _ (by omega)]) (plan_mv _ (by omega)) _
theorem plan_pre (hv:Valid b) (hv':Valid (b.plan n l)) (m:Nat) (hm:m ≤ n):(St.pre (b.plan n l) m ((b.plan n l).after ((m:Int) - 1))).nov = (St.pre b m (b.after ((m:Int) - 1))).nov:=by
 rw [pre_nov,pre_nov,plan_before hv hv' m hm]
 show ((b.plan n l).ps.foldl (insP b m) _).keep b m = _
 rw [ins_filter,plan_in _ (by omega),← ins_filter];rfl
theorem plan_up (hv:Valid b):(b.ps.filter fun p => decide (p.day ≤ (n:Int))).foldl (mvsP b n) (St.pre b n (b.after ((n:Int) - 1))).nov = (b.after n).nov:=by
 rw [(vcount_upTo b (Int.le_refl (n:Int)) b.ps _).2,after_dayP' hv n,pre_nov];rfl
theorem mvAt_nil (b:Book) (n:Nat):MvAt b n [] (b.after n).nov:=⟨fun c _ => by rw [if_neg List.not_mem_nil];rfl,fun k => by rw [sumL,Int.sub_zero];rfl⟩
theorem plan_after (hv:Valid b) (hv':Valid (b.plan n l)):((b.plan n l).after n).nov = (l.map (mvOf b n)).foldl (mvsP b n) (b.after n).nov:=by
 have h:=after_dayP' hv' n;rw [h];have hp:=plan_pre hv hv' n (Nat.le_refl n);rw [pre_nov] at hp;have e:dayP (b.plan n l) (b.plan n l).ps n ((b.plan n l).after ((n:Int) - 1)).nov = (b.plan n l).ps.foldl (mvsP b n) (((b.plan n l).ps.foldl (insP (b.plan n l) n) (((b.plan n l).after ((n:Int) - 1)).nov.lapse (b.plan n l) n)).keep (b.plan n l) n):=rfl;rw [e,hp]
 show ((b.ps.filter fun p => decide (p.day ≤ (n:Int))) ++ l.map (mvOf b n)).foldl (mvsP b n) _ = _
 rw [List.foldl_append,plan_up hv]
theorem plan_days {p:Pay} (h:p ∈ (b.plan n l).ps):p.day ≤ (n:Int):=by
 rcases List.mem_append.1 h with h | h
 ·simpa using (List.mem_filter.1 h).2
 ·obtain ⟨x,_,rfl⟩:=List.mem_map.1 h;exact Int.le_refl _
theorem no_pay {d:Int} (hd:d ∉ b.evdays):∀ p ∈ b.ps,p.day ≠ d:=fun p hp e => hd (by
 rw [b.mem_evdays,← e];unfold Book.dayList;exact List.mem_cons_of_mem _ (List.mem_append_left _ (List.mem_map.2 ⟨p,hp,rfl⟩)))
theorem plan_fresh (hf:Full b) (hn:n ≤ 9999) (hP:PlanIs b n b.coins.length l) (hv':Valid (b.plan n l)) (m:Nat):((b.plan n l).fresh m).length ≤ (b.fresh m).length:=by
 unfold Book.fresh;by_cases hd:(m:Int) ∈ (b.plan n l).evdays
 ·rw [if_pos hd,failed_vcount _ _ _ _ (Nat.le_refl _),List.take_length];have hps:vcount (b.plan n l) m (b.plan n l).ps (St.pre (b.plan n l) m ((b.plan n l).after ((m:Int) - 1))).nov = vcount b m (b.plan n l).ps (St.pre (b.plan n l) m ((b.plan n l).after ((m:Int) - 1))).nov:=vcount_ps b _ m _ _;rw [hps];by_cases hm:m ≤ n
  ·rw [plan_pre hf.v hv' m hm];have e:vcount b m (b.plan n l).ps (St.pre b m (b.after ((m:Int) - 1))).nov = vcount b m b.ps (St.pre b m (b.after ((m:Int) - 1))).nov:=by
    show vcount b m ((b.ps.filter fun p => decide (p.day ≤ (n:Int))) ++ l.map (mvOf b n)) _ = _
    rw [vcount_append,(vcount_upTo b (by omega) b.ps _).1];have hz:vcount b m (l.map (mvOf b n)) ((b.ps.filter fun p => decide (p.day ≤ (n:Int))).foldl (mvsP b m) (St.pre b m (b.after ((m:Int) - 1))).nov) = 0:=by
     by_cases e:m = n
     ·subst e;rw [plan_up hf.v];exact vcount_ok (mvs_are hf hn l [] _ (by simpa using hP) (mvAt_nil b m)).2
     ·exact vcount_none fun p hp => by
       obtain ⟨x,_,rfl⟩:=List.mem_map.1 hp;simp only [mvOf];omega
    rw [hz,Nat.add_zero]
   rw [e];by_cases hd2:(m:Int) ∈ b.evdays
   ·rw [if_pos hd2,failed_vcount _ _ _ _ (Nat.le_refl _),List.take_length];exact Nat.le_refl _
   ·rw [vcount_none (no_pay hd2)];exact Nat.zero_le _
  ·rw [vcount_none fun p hp => by have:=plan_days hp;omega];exact Nat.zero_le _
 ·rw [if_neg hd];exact Nat.zero_le _
theorem plan_voids (hf:Full b) (hn:n ≤ 9999) (hP:PlanIs b n b.coins.length l) (hv':Valid (b.plan n l)):∀ m:Nat,((b.plan n l).after ((m:Int) - 1)).voids.length ≤ (b.after ((m:Int) - 1)).voids.length
 | 0 => by
  have e2:(b.plan n l).after (((0:Nat):Int) - 1) = St.init:=hv'.after_zero;rw [e2];exact Nat.zero_le _
 | m + 1 => by
  have ih:=plan_voids hf hn hP hv' m;have hfr:=plan_fresh hf hn hP hv' m;rw [show ((m + 1:Nat):Int) - 1 = m by omega,after_vds (b.plan n l),after_vds b,List.length_append,List.length_append,List.length_map,List.length_map];omega
structure PlannedAre (b:Book) (n:Nat) (l:List Int):Prop where
 cs:∀ c,c < b.cs.length → (((b.plan n l).after n).cases c).state = if (c:Int) ∈ l then 1 else ((b.after n).cases c).state
 len:((b.plan n l).after 9999).voids.length ≤ (b.after 9999).voids.length
 early:∀ x ∈ ((b.plan n l).after 9999).voids,x < (b.ps.filter fun p => decide (p.day ≤ (n:Int))).length
theorem planned_are (hf:Full b) (hn:n ≤ 9999) (hP:PlanIs b n b.coins.length l) (hv':Valid (b.plan n l)):PlannedAre b n l:=by
 have hM:=mvs_are hf hn l [] _ (by simpa using hP) (mvAt_nil b n);rw [← plan_after hf.v hv',List.nil_append] at hM;refine ⟨fun c hc => ?_,plan_voids hf hn hP hv' 10000,fun x hx => ?_⟩
 ·have h:=hM.1.cs c hc;have h':((b.plan n l).after n).cases c = if (c:Int) ∈ l then ⟨1,0,n,(b.fee c n).1⟩ else (b.after n).cases c:=h
  rw [h'];split <;> rfl
 ·have hV:=voids_are hv';obtain ⟨i,rfl,hi,hk⟩:=hV.of x hx;have hfr:=(hV.iff i hi).1 hx;refine Decidable.byContradiction fun hge => ?_;have hge':(b.ps.filter fun p => decide (p.day ≤ (n:Int))).length ≤ i:=by omega
  obtain ⟨k,hk'⟩:∃ k,i = (b.ps.filter fun p => decide (p.day ≤ (n:Int))).length + k:=⟨i - (b.ps.filter fun p => decide (p.day ≤ (n:Int))).length,by omega⟩
  have hkl:k < (l.map (mvOf b n)).length:=by
   have:(b.plan n l).ps.length = (b.ps.filter fun p => decide (p.day ≤ (n:Int))).length + (l.map (mvOf b n)).length:=List.length_append;omega
  have hpay:(b.plan n l).payAt i = (l.map (mvOf b n))[k]:=by
   unfold Book.payAt
   show (((b.ps.filter fun p => decide (p.day ≤ (n:Int))) ++ l.map (mvOf b n)).getD i _) = _
   rw [List.getD_eq_getElem?_getD,List.getElem?_append_right hge',show i - (b.ps.filter fun p => decide (p.day ≤ (n:Int))).length = k by omega,List.getElem?_eq_getElem hkl];rfl
  have hday:((b.plan n l).payAt i).day = n:=by
   rw [hpay,List.getElem_map];rfl
  rw [hday] at hfr;obtain ⟨-,-,-,hno⟩:=mem_fresh hfr;refine hno ?_;have hit:=iter_fold (b.plan n l) (mvs1_P (b.plan n l) n) (St.pre (b.plan n l) n ((b.plan n l).after ((n:Int) - 1))) i (Nat.le_of_lt hi);have htake:(b.plan n l).ps.take i = (b.ps.filter fun p => decide (p.day ≤ (n:Int))) ++ (l.map (mvOf b n)).take k:=by
   show ((b.ps.filter fun p => decide (p.day ≤ (n:Int))) ++ l.map (mvOf b n)).take i = _
   rw [List.take_append,List.take_of_length_le hge',show i - (b.ps.filter fun p => decide (p.day ≤ (n:Int))).length = k by omega]
  rw [htake,plan_pre hf.v hv' n (Nat.le_refl n),List.foldl_append] at hit;have hok:=(mvs_are hf hn l [] _ (by simpa using hP) (mvAt_nil b n)).2 ((l.map (mvOf b n)).take k) ((l.map (mvOf b n))[k]) ((l.map (mvOf b n)).drop (k + 1)) (by rw [List.getElem_cons_drop,List.take_append_drop]);rw [← plan_up hf.v,← hpay] at hok;have hok':okP ((b.plan n l).payAt i) (iter (St.mvs1 (b.plan n l) n) i (St.pre (b.plan n l) n ((b.plan n l).after ((n:Int) - 1)))).nov:=by
   rw [hit];exact hok
  exact hok'
end
end Go.Proofs.YtnkejaohnhpbpaaGreatDoor
end
section
namespace Go.Proofs.YtnkejaohnhpbpaaGreatDoor
open Go Go.RowKit Lift
def WG0 (w0:World):Wm:=fun _ _ w => Below w0.heap.size w0 w
theorem WG0.step {w0 w w':World} {D D':Nat → Bool} {x x':Tmp → Value} (h:WG0 w0 D x w) (hb:Below w.heap.size w w'):WG0 w0 D' x' w':=h.trans (hb.mono h.size)
set_option maxHeartbeats 8000000 in
set_option maxRecDepth 1000000 in
theorem lacking_in {N:Nat} {lay:Lay} {b:Book} {w:World} (hbk:BkAt N lay b w) (hf:Full b) (hkd:KindsAt w) {n:Nat} (hn:n ≤ 9999) {v:Value} {xs:List Int} (hseq:SeqAt w v xs) (hP:PlanIs b n b.coins.length xs) (hxl:xs.length ≤ 100) :
  CallsIn Fz 0 Tryz.prog 41 #[lay.val b,v,.int .i64 n] w fun e w' => ∃ vo,e = .returned (.tuple #[vo,.bool true]) ∧ w'.ownsRow w.heap.size 3 1 vo xs.length (ints (xs.map fun x => b.lack n x.toNat)) ∧ Below w.heap.size w w':=by
 obtain ⟨base,off,cap,rfl,hcells⟩:=hseq;obtain ⟨i0,hi0,hz0,hz1,hz2⟩:=info_parts Tryz.infoI;have hw0:=hkd.lt;have hb1:Below w.heap.size w (w.alloc (.cells (lay.arr b) 27)):=(Below.refl _ w).alloc (Nat.le_refl _) _;have hA:=Blk.new w (lay.arr b) 27;have hbk1:=hbk.top.below hb1;have hkd1:=hkd.below hb1 hw0;have hsz:(w.alloc (.cells (lay.arr b) 27)).heap.size = w.heap.size + 1:=by simp
 replace hcells:∀ i,i < xs.length → ∃ SB,base = some ⟨SB,off,none⟩ ∧ SB < w.heap.size ∧ (w.alloc (.cells (lay.arr b) 27)).cell? ⟨SB,off + i,none⟩ = some (.int .i64 (xs.getD i 0)):=fun i hi => by
  obtain ⟨SB,h1,h2,h3⟩:=hcells i hi;exact ⟨SB,h1,h2,(hb1.cell (p:=⟨SB,off + i,none⟩) h2).trans h3⟩
 unfold Lay.val;gi_enter Tryz.func41,Tryz.ntmps41
 gi_wp2;generalize hW1:w.alloc _ = W1 at *;generalize hBx:w.heap.size = Bx at *;gi_loopw [8,9] (fun v i wr => ∃ k:Nat,k ≤ xs.length ∧ i = .int .i64 k ∧ wr.ownsRow (Bx + 1) 3 1 v k (ints ((xs.take k).map fun x => b.lack n x.toNat)) ∧ Below W1.heap.size W1 wr) (fun _ i _ => xs.length - (intOf i).toNat)
 case atStart => exact ⟨0,Nat.zero_le _,rfl,⟨rfl,.inl ⟨rfl,rfl⟩⟩,Below.refl _ _⟩
 case round =>
  obtain ⟨k,hk,rfl,hrow,HB⟩:=hrel;by_cases hlt:k < xs.length
  ·obtain ⟨SB,rfl,ltS0,cK0⟩:=hcells k hlt;obtain ⟨c,hc1,hc2,hc3,hc4⟩:=hP.of xs[k] (List.getElem_mem hlt);have eK:xs.getD k 0 = (c:Int):=by rw [← hc1];simp [hlt]
   rw [eK] at cK0;obtain ⟨r1,r2,r3,r4⟩:=lack_bounds hf.v hc2 hc3;obtain ⟨hd,hhd⟩:∃ hd,((b.after n).cases c).held = hd:=⟨_,rfl⟩
   obtain ⟨fe,hfe⟩:∃ fe,(b.fee c n).1 = fe:=⟨_,rfl⟩
   have hlk:b.lack n c = fe - hd:=by unfold Book.lack;rw [hfe,hhd]
   have hA0:=after_aft hf.v n c hc2;have hfl:=hf.v.fee_le hc2 n;have h0d:0 ≤ hd:=by
    rcases hA0 with ⟨q1,q2,q3,q4,q5,q6⟩ | q | q
    ·omega
    ·have:=q.1;omega
    ·have:=q.1;omega
   rw [hlk] at r1 r2;rw [hfe] at hfl;have h1d:hd < fe:=by omega
   have h2d:fe ≤ 470000:=hfl.2;have HTK:=Lib.hid (show (xs.take (k + 1)).map (fun x => b.lack n x.toNat) = (xs.take k).map (fun x => b.lack n x.toNat) ++ [fe - hd] by
    rw [List.take_add_one,List.getElem?_eq_getElem hlt,List.map_append,hc1];simp [hlk])
   clear hlk hA0 hfl r1 r2 r4;have hBx1:Bx ≤ W1.heap.size:=by omega
   have hB1:Bx < W1.heap.size:=by omega
   have hAr:=hA.below HB;have cKr:=(HB.cell (p:=⟨SB,off + k,none⟩) (show SB < W1.heap.size by omega)).trans cK0;have hbkr:=hbk1.below (HB.mono hBx1);have hkdr:=hkd1.below HB (by omega);have q0:=hAr.cell 0;have q1:=hAr.cell 1;have q2:=hAr.cell 2;have q3:=hAr.cell 3;simp at q0 q1 q2 q3;have ltq:=hAr.lt;have ltS:SB < wr.heap.size:=by have:=HB.size;omega
   have j1:decide ((c:Int) < 0) = false:=decide_eq_false (by omega);have j2:decide ((b.cs.length:Int) ≤ c) = false:=decide_eq_false (by omega);have j2n:decide (b.cs.length ≤ c) = false:=decide_eq_false (by omega);have j4:(k:Int) < xs.length:=by omega
   have HSZ:=Lib.hid hsz;have HHD:=Lib.hid hhd;have HFE:=Lib.hid hfe;have HC3:=Lib.hid hc3;have HR3:=Lib.hid r3;have HBh:=Lib.hid HB;clear hhd hfe hc3 r3 cK0 hcells eK hc1 hc4 HB hsz
   gi_wp2_with fail
   gi_big_quiet_th (fail)
   gi_wp2;clear q0 q1 q2 q3 ltq;have hdr:=below_drewN wr nq;have hA4:=hAr.below hdr;have cK:=(hdr.cell (p:=⟨SB,off + k,none⟩) ltS).trans cKr;have hbk4:=hbkr.below (hdr.mono (by have:=HBh.out.size;omega));have hkd4:=hkdr.below hdr (by omega);have hrow4:=owns_below hrow hdr;have HB4:=HBh.out.trans (hdr.mono HBh.out.size);replace ltS:SB < (wr.drewN nq).heap.size:=Nat.lt_of_lt_of_le ltS hdr.size;clear hdr hAr cKr hbkr hkdr hrow HBh;generalize wr.drewN nq = w4 at *;have hA:=hA4;have hBx4:Bx ≤ w4.heap.size:=Nat.le_of_lt hA4.lt;clear hA4;refine hideQ fun Q' hQ => ?_;refine wpIn_region_ghosts rfl mixed (by kernel_rfl) (WG0 w4) [] (x₀:=fun _ => undef) (fun g hg => by cases hg) (show Below w4.heap.size w4 { w4 with drawn:=w4.drawn + 1 } from ⟨rfl,rfl,rfl,Nat.le_refl _,fun _ _ => rfl⟩) ?_;simp only [List.size_toArray,List.length_cons,List.length_nil,Nat.reduceAdd,List.range,List.range.loop];refine detM_at (u0:=fun _ => undef) rfl (fun _ => rfl) (by decide) (fun g hg => by cases hg) ?_;apply Exists.intro;refine ⟨fun D x w' hm hW K Q hK => ?_,?_⟩
   ·have hb:Below w4.heap.size w4 w':=hW;have q:=hA.below hb;have q0:=q.cell 0;have q1:=q.cell 1;have q2:=q.cell 2;have q3:=q.cell 3;simp at q0 q1 q2 q3;have ltq:=q.lt;simp only [Lift.Act.setG,List.foldl_cons,List.foldl_nil,List.setIfInBounds_toArray,List.set_cons_zero,List.set_cons_succ];gi_wp2;exact hW.step (Below.refl _ _)
   iterate 3
    apply Exists.intro;refine ⟨fun x => rfl,?_⟩;refine detM_at (u0:=fun _ => undef) rfl (fun _ => rfl) (by decide) (fun g hg => by cases hg) ?_;apply Exists.intro;refine ⟨fun D x w' hm hW K Q hK => ?_,?_⟩
    ·have hb:Below w4.heap.size w4 w':=hW;skip;simp only [Lift.Act.setG,List.foldl_cons,List.foldl_nil,List.setIfInBounds_toArray,List.set_cons_zero,List.set_cons_succ];gi_wp2;exact hW.step (Below.refl _ _)
   apply Exists.intro;refine ⟨fun x => rfl,?_⟩;refine detM_at (u0:=fun _ => undef) rfl (fun _ => rfl) (by decide) (fun g hg => by cases hg) ?_;apply Exists.intro;refine ⟨fun D x w' hm hW K Q hK => ?_,?_⟩
   ·have hb:Below w4.heap.size w4 w':=hW;have z0:=(hb.cell (p:=⟨SB,off + k,none⟩) ltS).trans cK;have ltz:=Nat.lt_of_lt_of_le ltS hb.size;simp only [Lift.Act.setG,List.foldl_cons,List.foldl_nil,List.setIfInBounds_toArray,List.set_cons_zero,List.set_cons_succ];gi_wp2;exact hW.step (Below.refl _ _)
   apply Exists.intro;refine ⟨fun x => rfl,?_⟩;refine detM_at (u0:=fun _ => undef) rfl (fun _ => rfl) (by decide) (fun g hg => by cases hg) ?_;apply Exists.intro;refine ⟨fun D x w' hm hW K Q hK => ?_,?_⟩
   ·have hb:Below w4.heap.size w4 w':=hW;skip;simp only [Lift.Act.setG,List.foldl_cons,List.foldl_nil,List.setIfInBounds_toArray,List.set_cons_zero,List.set_cons_succ];gi_wp2;exact hW.step (Below.refl _ _)
   apply Exists.intro;refine ⟨fun x => rfl,?_⟩;refine detM_at (u0:=fun _ => undef) rfl (fun _ => rfl) (by decide) (fun g hg => by cases hg) ?_;apply Exists.intro;refine ⟨fun D x w' hm hW K Q hK => ?_,?_⟩
   ·have hb:Below w4.heap.size w4 w':=hW;have hcall:=State_in (hbk4.below (hb.mono hBx4)) hf (hkd4.below hb (by omega)) hc2 (day:=n) (by omega) (by omega);simp only [Lay.val,HC3.out,HHD.out] at hcall;simp only [Lift.Act.setG,List.foldl_cons,List.foldl_nil,List.setIfInBounds_toArray,List.set_cons_zero,List.set_cons_succ]
    gi_wp2_with (gi_at_call 22;with_reducible refine hcall.mono ?_;rintro e w3 ⟨rfl,hb3⟩)
    exact hW.step hb3
   iterate 7
    apply Exists.intro;refine ⟨fun x => rfl,?_⟩;refine detM_at (u0:=fun _ => undef) rfl (fun _ => rfl) (by decide) (fun g hg => by cases hg) ?_;apply Exists.intro;refine ⟨fun D x w' hm hW K Q hK => ?_,?_⟩
    ·have hb:Below w4.heap.size w4 w':=hW;skip;simp only [Lift.Act.setG,List.foldl_cons,List.foldl_nil,List.setIfInBounds_toArray,List.set_cons_zero,List.set_cons_succ];gi_wp2;exact hW.step (Below.refl _ _)
   apply Exists.intro;refine ⟨fun x => rfl,?_⟩;intro x w5 hW;have hb:Below w4.heap.size w4 w5:=hW;clear hW;simp only [Lift.Act.setG,List.foldl_cons,List.foldl_nil,List.setIfInBounds_toArray,List.set_cons_zero,List.set_cons_succ];refine hQ _ _ _ ?_;clear hQ;replace hA:=hA.below hb;replace cK:=(hb.cell (p:=⟨SB,off + k,none⟩) ltS).trans cK;replace ltS:=Nat.lt_of_lt_of_le ltS hb.size;replace hbk4:=hbk4.below (hb.mono hBx4);replace hkd4:=hkd4.below hb (by omega);replace hrow4:=owns_below hrow4 hb;replace HB4:=HB4.trans (hb.mono HB4.size);replace hBx4:=Nat.le_trans hBx4 hb.size;clear hb;have HBX:=Lib.hid hBx4
   gi_wp2_with fail
   replace hBx4:=HBX.out;clear HBX;obtain ⟨w4,hw4⟩:∃ w4,w5 = w4:=⟨_,rfl⟩
   subst hw4;refine hideQ fun Q' hQ => ?_;refine wpIn_region_ghosts rfl mixed (by kernel_rfl) (WG0 w5) [] (x₀:=fun _ => undef) (fun g hg => by cases hg) (show Below w5.heap.size w5 { w5 with drawn:=w5.drawn + 1 } from ⟨rfl,rfl,rfl,Nat.le_refl _,fun _ _ => rfl⟩) ?_;simp only [List.size_toArray,List.length_cons,List.length_nil,Nat.reduceAdd,List.range,List.range.loop];refine detM_at (u0:=fun _ => undef) rfl (fun _ => rfl) (by decide) (fun g hg => by cases hg) ?_;apply Exists.intro;refine ⟨fun D x w' hm hW K Q hK => ?_,?_⟩
   ·have hb:Below w5.heap.size w5 w':=hW;have q:=hA.below hb;have q0:=q.cell 0;have q1:=q.cell 1;have q2:=q.cell 2;have q3:=q.cell 3;simp at q0 q1 q2 q3;have ltq:=q.lt;simp only [Lift.Act.setG,List.foldl_cons,List.foldl_nil,List.setIfInBounds_toArray,List.set_cons_zero,List.set_cons_succ];gi_wp2;exact hW.step (Below.refl _ _)
   iterate 3
    apply Exists.intro;refine ⟨fun x => rfl,?_⟩;refine detM_at (u0:=fun _ => undef) rfl (fun _ => rfl) (by decide) (fun g hg => by cases hg) ?_;apply Exists.intro;refine ⟨fun D x w' hm hW K Q hK => ?_,?_⟩
    ·have hb:Below w5.heap.size w5 w':=hW;skip;simp only [Lift.Act.setG,List.foldl_cons,List.foldl_nil,List.setIfInBounds_toArray,List.set_cons_zero,List.set_cons_succ];gi_wp2;exact hW.step (Below.refl _ _)
   apply Exists.intro;refine ⟨fun x => rfl,?_⟩;refine detM_at (u0:=fun _ => undef) rfl (fun _ => rfl) (by decide) (fun g hg => by cases hg) ?_;apply Exists.intro;refine ⟨fun D x w' hm hW K Q hK => ?_,?_⟩
   ·have hb:Below w5.heap.size w5 w':=hW;have z0:=(hb.cell (p:=⟨SB,off + k,none⟩) ltS).trans cK;have ltz:=Nat.lt_of_lt_of_le ltS hb.size;simp only [Lift.Act.setG,List.foldl_cons,List.foldl_nil,List.setIfInBounds_toArray,List.set_cons_zero,List.set_cons_succ];gi_wp2;exact hW.step (Below.refl _ _)
   apply Exists.intro;refine ⟨fun x => rfl,?_⟩;refine detM_at (u0:=fun _ => undef) rfl (fun _ => rfl) (by decide) (fun g hg => by cases hg) ?_;apply Exists.intro;refine ⟨fun D x w' hm hW K Q hK => ?_,?_⟩
   ·have hb:Below w5.heap.size w5 w':=hW;skip;simp only [Lift.Act.setG,List.foldl_cons,List.foldl_nil,List.setIfInBounds_toArray,List.set_cons_zero,List.set_cons_succ];gi_wp2;exact hW.step (Below.refl _ _)
   apply Exists.intro;refine ⟨fun x => rfl,?_⟩;refine detM_at (u0:=fun _ => undef) rfl (fun _ => rfl) (by decide) (fun g hg => by cases hg) ?_;apply Exists.intro;refine ⟨fun D x w' hm hW K Q hK => ?_,?_⟩
   ·have hb:Below w5.heap.size w5 w':=hW;have hcall:=Fee_in (hbk4.below (hb.mono hBx4)) hf hc2 (day:=n) (by omega) (by omega);simp only [Lay.val,HFE.out,HR3.out] at hcall;simp only [Lift.Act.setG,List.foldl_cons,List.foldl_nil,List.setIfInBounds_toArray,List.set_cons_zero,List.set_cons_succ]
    gi_wp2_with (gi_at_call 18;with_reducible refine hcall.mono ?_;rintro e w3 ⟨rfl,hb3⟩)
    exact hW.step hb3
   iterate 7
    apply Exists.intro;refine ⟨fun x => rfl,?_⟩;refine detM_at (u0:=fun _ => undef) rfl (fun _ => rfl) (by decide) (fun g hg => by cases hg) ?_;apply Exists.intro;refine ⟨fun D x w' hm hW K Q hK => ?_,?_⟩
    ·have hb:Below w5.heap.size w5 w':=hW;skip;simp only [Lift.Act.setG,List.foldl_cons,List.foldl_nil,List.setIfInBounds_toArray,List.set_cons_zero,List.set_cons_succ];gi_wp2;exact hW.step (Below.refl _ _)
   apply Exists.intro;refine ⟨fun x => rfl,?_⟩;intro x w6 hW;have hb:Below w5.heap.size w5 w6:=hW;clear hW;simp only [Lift.Act.setG,List.foldl_cons,List.foldl_nil,List.setIfInBounds_toArray,List.set_cons_zero,List.set_cons_succ];refine hQ _ _ _ ?_;clear hQ;replace hA:=hA.below hb;replace cK:=(hb.cell (p:=⟨SB,off + k,none⟩) ltS).trans cK;replace ltS:=Nat.lt_of_lt_of_le ltS hb.size;replace hbk4:=hbk4.below (hb.mono hBx4);replace hkd4:=hkd4.below hb (by omega);replace hrow4:=owns_below hrow4 hb;replace HB4:=HB4.trans (hb.mono HB4.size);replace hBx4:=Nat.le_trans hBx4 hb.size;clear hb;have j5:decide (fe ≤ hd) = false:=decide_eq_false (by omega);have e1:IntKind.i64.wrap (fe - hd) = fe - hd:=by rw [IntKind.wrap_i64];omega
   have hB6:Bx + 1 ≤ w6.heap.size:=by have:=hA.lt;omega
   gi_wp2_with (gi_at_builtin;refine wpListIn_append_own _ rfl _ _ 44 rfl (Bx + 1) 3 i0 (.int .i64 0) 1 8 Tryz.underlying44 hi0 hz0 hz1 hz2 rfl (by decide) _ _ _ rfl (hrow4.alloc _) ⟨w6.heap.size,0,none⟩ 1 1 [.int .i64 (fe - hd)] rfl rfl (cell_one_new _ _ _) (by simp [Value.oneCell']) (by unfold maxLen;omega) (by omega) (by simp;omega) ?_;intro v' w7 hown' hgrow hnil)
   have hbw:=(HB4.alloc HB4.size (.cells #[.int .i64 (fe - hd)] 3)).grown hgrow (Nat.le_trans HB4.size (by simp)) (fun j hj => by have:=owns_ge hrow4 j hj;have:=HSZ.out;omega);refine ⟨⟨k + 1,by omega,by go_num,?_,hbw⟩,by simp [intOf];omega⟩;rw [HTK.out];unfold ints at hown' ⊢;rw [List.map_append];exact hown'
  ·obtain rfl:k = xs.length:=by omega
   rw [List.take_length] at hrow;have hrow2:wr.ownsRow Bx 3 1 u8 xs.length (ints (xs.map fun x => b.lack n x.toNat)):=⟨hrow.1,hrow.2.imp id fun ⟨g,cap',cur,e1,e2,e3⟩ => ⟨g,cap',cur,e1,by omega,e3⟩⟩
   clear hrow;gi_wp2
   (try simp only [Exit.inBlock,Exit.then])
   refine bodyPost_ret (results_tmp2 rfl _ _ _) rfl ?_;exact ⟨u8,rfl,by rw [hBx];exact hrow2,by rw [hBx];exact hb1.trans (HB.mono (by omega))⟩
end Go.Proofs.YtnkejaohnhpbpaaGreatDoor
end
section
namespace Go.Proofs.YtnkejaohnhpbpaaGreatDoor
open Go Go.RowKit Lift
def mvR (b:RBook) (n:Nat) (x:Int):RPay:=⟨2,n,b.to.coin x.toNat,b.to.lack n x.toNat,x⟩
def RBook.planned (b:RBook) (n:Nat) (l:List Int):List RPay:=b.upTo n b.ps.length ++ l.map (mvR b n)
theorem planned_to (b:RBook) (n:Nat) (l:List Int):RBook.to { b with ps:=b.planned n l } = b.to.plan n l:=by
 unfold RBook.planned Book.plan RBook.to;simp only [List.map_append,List.map_map]
 congr 1
 congr 1
 ·rw [b.upTo_all,List.filter_map];rfl
theorem upTo_filter (b:RBook) (n:Nat):(b.to.ps.filter fun p => decide (p.day ≤ (n:Int))).length = (b.upTo n b.ps.length).length:=by
 rw [b.upTo_all]
 show ((b.ps.map RPay.to).filter _).length = _
 rw [List.filter_map,List.length_map];rfl
theorem planned_right {b:RBook} (hR:b.Right) {n:Nat} (hn:n ≤ 9999) {l:List Int} (hP:PlanIs b.to n b.coins.length l) (hl:∀ x ∈ l,b.to.lack n x.toNat ≤ 10000) (hlen:(b.planned n l).length ≤ 10):RBook.Right { b with ps:=b.planned n l }:=by
 refine ⟨hR.nc,hR.cn,hR.cd,hR.nt,hR.tn,hR.td,hR.t,hR.nk,hR.kn,hR.kd,hR.k,hlen,fun p hp => ?_⟩;rcases List.mem_append.1 hp with hp | hp
 ·rw [b.upTo_all] at hp;exact hR.p p (List.mem_filter.1 hp).1
 ·obtain ⟨x,hx,rfl⟩:=List.mem_map.1 hp;obtain ⟨c,rfl,hc,hs,hk⟩:=hP.of x hx;have hb:=lack_bounds hR.full.v hc hs;have hle:=hl _ hx;rw [Int.toNat_natCast] at hle;have hc':c < b.cs.length:=by simpa [RBook.to] using hc
  have e1:b.cs[c]? = some b.cs[c]:=by simp
  have ht:=hR.k _ (List.mem_of_getElem? e1);have htl:(b.cs[c]).tar.toNat < b.ts.length:=by omega
  have hT:=hR.t _ (List.getElem_mem htl);simp only [mvR,Int.toNat_natCast];refine ⟨by omega,by omega,by omega,by have hk':b.to.coin c < b.coins.length:=hk;omega,fun h => by omega,fun _ => by omega,fun _ => ?_⟩;simp only [Book.coin,Book.tarOf,RBook.to,List.getD_eq_getElem?_getD,List.getElem?_map,e1,Option.map_some,Option.getD_some,RCas.to,List.getElem?_eq_getElem htl,RTrf.to];omega
theorem planned_step (b:RBook) (n:Nat) {l:List Int} {i:Nat} (hi:i < l.length):b.upTo n b.ps.length ++ (l.take (i + 1)).map (mvR b n) = (b.upTo n b.ps.length ++ (l.take i).map (mvR b n)) ++ [mvR b n l[i]]:=by
 rw [List.take_add_one,List.getElem?_eq_getElem hi,List.map_append,List.append_assoc];rfl
theorem WA1.grow {N0 ib ia is BO:Nat} {sb sa:Tmp} {w0 w w':World} {v:Value} {xs:List RPay} {m:RPay} {D:Nat → Bool} {x:Tmp → Value} (h:WA1 N0 ib ia is sb sa w0 BO v xs m D x w) (hN:N0 ≤ w0.heap.size) {i:Nat} (hi:i ∉ [ib,ia,is]) (ds:D is = false) (hb:Below w.heap.size w w'):WA1 N0 ib ia is sb sa w0 BO v xs m (alsoG D i) x w':=by
 simp only [List.mem_cons,List.not_mem_nil,or_false,not_or] at hi;obtain ⟨h1,h2,h3⟩:=hi;have e1:=alsoG_ne (D:=D) (Ne.symm h1);have e2:=alsoG_ne (D:=D) (Ne.symm h2);have e3:=alsoG_ne (D:=D) (Ne.symm h3);have hs:=(h.bel ds).size;exact ⟨fun q => nof (e3.trans ds) q,fun _ => (h.bel ds).trans (hb.mono (Nat.le_trans hN hs)),fun _ q => owns_below (h.ov ds (by rw [← e2];exact q)) hb,fun _ q r => owns_below (h.ob ds (by rw [← e1];exact q) (by rw [← e2];exact r)) hb,fun _ q => owns_below (h.oa ds (by rw [← e2];exact q)) hb⟩
end Go.Proofs.YtnkejaohnhpbpaaGreatDoor
end
