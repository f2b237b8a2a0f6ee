/- Without moves: a case is kept on the first day on which what came in reaches its fee. -/
import Derived.Test.YtnkejaohnhpbpaaGreatDoorA11
set_option linter.all false
section
namespace Go.Proofs.YtnkejaohnhpbpaaGreatDoor
open Go Go.RowKit
def Book.hits (b : Book) (c i : Nat) : Prop := (b.payAt i).kind = 0 ∧ (b.payAt i).cas = c ∧ (b.payAt i).coin = b.coin c
instance (b : Book) (c i : Nat) : Decidable (b.hits c i) := by unfold Book.hits; exact inferInstance
def Book.came (b : Book) (c : Nat) (e : Int) : Nat → Int
 | 0 => 0
 | k + 1 => b.came c e k + if b.hits c k ∧ (b.payAt k).day ≤ e then (b.payAt k).amount else 0
def Book.onday (b : Book) (c : Nat) (d : Int) : Nat → Int
 | 0 => 0
 | k + 1 => b.onday c d k + if b.hits c k ∧ (b.payAt k).day = d then (b.payAt k).amount else 0
def Book.ok (b : Book) (c : Nat) (d : Int) : Prop := (b.fee c d).2 = true ∧ (b.fee c d).1 ≤ b.came c d b.ps.length
def Book.still (b : Book) : Prop := ∀ p ∈ b.ps, p.kind ≠ 2
theorem came_onday (b : Book) (c : Nat) (n : Int) : ∀ k, b.came c (n + 1) k = b.came c n k + b.onday c (n + 1) k
 | 0 => rfl
 | k + 1 => by
  simp only [Book.came, Book.onday, came_onday b c n k]
  by_cases h : b.hits c k
  ·by_cases h1 : (b.payAt k).day ≤ n
   ·have h2 : (b.payAt k).day ≤ n + 1 := by omega
    have h3 : (b.payAt k).day ≠ n + 1 := by omega
    simp only [h, h1, h2, h3, and_self, and_false, if_true, if_false]; omega
   ·by_cases h3 : (b.payAt k).day = n + 1
    ·have h2 : (b.payAt k).day ≤ n + 1 := by omega
     rw [if_pos ⟨h, h2⟩, if_neg (fun h => h1 h.2), if_pos ⟨h, h3⟩]; omega
    ·have h2 : ¬ (b.payAt k).day ≤ n + 1 := by omega
     rw [if_neg (fun h => h2 h.2), if_neg (fun h => h1 h.2), if_neg (fun h => h3 h.2)]; omega
  ·rw [if_neg (fun x => h x.1), if_neg (fun x => h x.1), if_neg (fun x => h x.1)]; omega
section
variable {b : Book} (hv : Valid b) {c : Nat}
include hv
theorem came_bound (e : Int) : ∀ k, k ≤ b.ps.length → 0 ≤ b.came c e k ∧ b.came c e k ≤ 10000 * k
 | 0, _ => by simp [Book.came]
 | k + 1, hk => by
  have ih := came_bound e k (by omega)
  have hp := hv.p _ (hv.pay (show k < b.ps.length by omega))
  simp only [Book.came]
  split <;> omega
theorem onday_bound (e : Int) : ∀ k, k ≤ b.ps.length → 0 ≤ b.onday c e k ∧ b.onday c e k ≤ 10000 * k
 | 0, _ => by simp [Book.onday]
 | k + 1, hk => by
  have ih := onday_bound e k (by omega)
  have hp := hv.p _ (hv.pay (show k < b.ps.length by omega))
  simp only [Book.onday]
  split <;> omega
theorem came_neg : ∀ k, k ≤ b.ps.length → b.came c (-1) k = 0
 | 0, _ => rfl
 | k + 1, hk => by
  have hp := hv.p _ (hv.pay (show k < b.ps.length by omega))
  simp only [Book.came]
  rw [came_neg k (by omega), if_neg (fun h => by have := h.2; omega)]; rfl
theorem onday_none {d : Int} (hn : d ∉ b.evdays) : ∀ k, k ≤ b.ps.length → b.onday c d k = 0
 | 0, _ => rfl
 | k + 1, hk => by
  simp only [Book.onday]
  rw [onday_none hn k (by omega), if_neg (fun h => hn (by rw [← h.2]; exact hv.pay_ev (by omega)))]; rfl
end
def Came (b : Book) (c : Nat) (e : Int) (x : Std) : Prop :=
 (x.state = 0 ∧ x.held = b.came c e b.ps.length ∧ ∀ d, 0 ≤ d → d ≤ e → ¬ b.ok c d) ∨
 (x.state = 1 ∧ 0 ≤ x.day ∧ x.day ≤ e ∧ b.ok c x.day ∧ ∀ d, 0 ≤ d → d < x.day → ¬ b.ok c d) ∨
 (x.state = 2 ∧ (b.fee c e).2 = false ∧ ∀ d, 0 ≤ d → d ≤ e → ¬ b.ok c d)
section
variable {b : Book} {c : Nat} {n : Int} {x : Std}
theorem Came.next (h : Came b c n x) (hv : Valid b) (hc : c < b.cs.length) (h0 : 0 ≤ n) (hn : n + 1 ∉ b.evdays) : Came b c (n + 1) x := by
 have hcm : b.came c (n + 1) b.ps.length = b.came c n b.ps.length := by
  rw [came_onday, onday_none hv hn _ (Nat.le_refl _)]; omega
 have key : (∀ d, 0 ≤ d → d ≤ n → ¬ b.ok c d) → ∀ d, 0 ≤ d → d ≤ n + 1 → ¬ b.ok c d := fun h d hd0 hd => by
  by_cases e : d = n + 1
  ·subst e
   rintro ⟨k1, k2⟩
   have := hv.fee_mono hc (show n ≤ n + 1 by omega) k1
   exact h n h0 (Int.le_refl _) ⟨this.2, by omega⟩
  ·exact h d hd0 (by omega)
 rcases h with ⟨h1, h2, h3⟩ | ⟨h1, h2, h3, h4, h5⟩ | ⟨h1, h2, h3⟩
 ·exact .inl ⟨h1, by rw [hcm]; exact h2, key h3⟩
 ·exact .inr (.inl ⟨h1, h2, by omega, h4, h5⟩)
 ·refine .inr (.inr ⟨h1, ?_, key h3⟩)
  rw [hv.due hc, decide_eq_false_iff_not] at h2 ⊢
  omega
def CameMid (b : Book) (c : Nat) (n : Int) (k : Nat) (x : Std) : Prop :=
 (x.state = 0 ∧ x.held = b.came c n b.ps.length + b.onday c (n + 1) k ∧ (b.fee c (n + 1)).2 = true ∧ ∀ d, 0 ≤ d → d ≤ n → ¬ b.ok c d) ∨
 (x.state = 1 ∧ 0 ≤ x.day ∧ x.day ≤ n ∧ b.ok c x.day ∧ ∀ d, 0 ≤ d → d < x.day → ¬ b.ok c d) ∨
 (x.state = 2 ∧ (b.fee c (n + 1)).2 = false ∧ ∀ d, 0 ≤ d → d ≤ n + 1 → ¬ b.ok c d)
theorem Came.lapse (h : Came b c n x) (hv : Valid b) (hc : c < b.cs.length) : CameMid b c n 0 (clapse b (n + 1) c x) := by
 have last : (b.fee c (n + 1)).2 = false → (∀ d, 0 ≤ d → d ≤ n → ¬ b.ok c d) → ∀ d, 0 ≤ d → d ≤ n + 1 → ¬ b.ok c d := fun hd h d hd0 hd1 => by
  by_cases e : d = n + 1
  ·subst e; rintro ⟨k1, _⟩; rw [hd] at k1; cases k1
  ·exact h d hd0 (by omega)
 unfold clapse
 rcases h with ⟨h1, h2, h3⟩ | h | ⟨h1, h2, h3⟩
 ·cases hd : (b.fee c (n + 1)).2 with
  | false => rw [if_pos ⟨rfl, h1⟩]; exact .inr (.inr ⟨rfl, hd, last hd h3⟩)
  | true => rw [if_neg (by simp)]; exact .inl ⟨h1, by simp [h2, Book.onday], hd, h3⟩
 ·rw [if_neg (by have := h.1; omega)]; exact .inr (.inl h)
 ·rw [if_neg (by omega)]
  have hd : (b.fee c (n + 1)).2 = false := by
   rw [hv.due hc, decide_eq_false_iff_not] at h2 ⊢
   omega
  exact .inr (.inr ⟨h1, hd, last hd h3⟩)
theorem CameMid.ins1 {s : St} {k : Nat} (h : CameMid b c n k (s.cases c)) (hv : Valid b) (hst : b.still) (hk : k < b.ps.length) : CameMid b c n (k + 1) ((St.ins1 b (n + 1) k s).cases c) := by
 have hp := hv.p _ (hv.pay hk)
 have hk2 := hst _ (hv.pay hk)
 have hc0 := came_bound (c := c) hv n b.ps.length (Nat.le_refl _)
 have ho0 := onday_bound (c := c) hv (n + 1) k (by omega)
 have hnp := hv.np
 have e : b.onday c (n + 1) (k + 1) = b.onday c (n + 1) k + if b.hits c k ∧ (b.payAt k).day = n + 1 then (b.payAt k).amount else 0 := rfl
 have settled : (s.cases c).state ≠ 0 → (St.ins1 b (n + 1) k s).cases c = s.cases c := fun hs => by
  unfold St.ins1
  split
  ·split
   ·rfl
   ·rw [inn_cases, if_neg (fun h => hs (by rw [h.1]; exact h.2.1))]
  ·rfl
 rcases h with ⟨h1, h2, h3⟩ | h | h
 ·have h1k : (St.ins1 b (n + 1) k s).cases c = if b.hits c k ∧ (b.payAt k).day = n + 1 then cadd (b.payAt k).amount (s.cases c) else s.cases c := by
   unfold St.ins1
   by_cases hd : (b.payAt k).day = n + 1
   ·rw [if_pos ⟨hd, hk2⟩]
    by_cases hf : (b.payAt k).kind = 1
    ·rw [if_pos hf, if_neg (fun h => by have := h.1.1; omega)]; rfl
    ·rw [if_neg hf, inn_cases]
     have hk0 : (b.payAt k).kind = 0 := by omega
     by_cases hh : b.hits c k
     ·rw [if_pos ⟨hh.2.1.symm, by rw [hh.2.1]; exact h1, by rw [hh.2.1]; exact hh.2.2⟩, if_pos ⟨hh, hd⟩]
     ·rw [if_neg (fun h => hh ⟨hk0, h.1.symm, by rw [h.1]; exact h.2.2⟩), if_neg (fun h => hh h.1)]
   ·rw [if_neg (fun h => hd h.1), if_neg (fun h => hd h.2)]
  rw [h1k]
  refine .inl ⟨?_, ?_, h3⟩
  ·split <;> exact h1
  ·rw [e]
   split
   ·show wrap64 ((s.cases c).held + (b.payAt k).amount) = _
    rw [h2]
    unfold wrap64
    omega
   ·rw [h2]; omega
 ·rw [settled (by have := h.1; omega)]; exact .inr (.inl h)
 ·rw [settled (by have := h.1; omega)]; exact .inr (.inr h)
theorem CameMid.ins {s : St} (h : CameMid b c n 0 (s.cases c)) (hv : Valid b) (hst : b.still) : ∀ k, k ≤ b.ps.length → CameMid b c n k ((iter (St.ins1 b (n + 1)) k s).cases c)
 | 0, _ => h
 | k + 1, hk => (CameMid.ins h hv hst k (by omega)).ins1 hv hst (by omega)
theorem CameMid.keep (h : CameMid b c n b.ps.length x) (h0 : 0 ≤ n + 1) : Came b c (n + 1) (ckeep b (n + 1) c x) := by
 unfold ckeep
 rcases h with ⟨h1, h2, h3, h4⟩ | ⟨h1, h2, h3, h4⟩ | h
 ·rw [← came_onday] at h2
  by_cases hf : (b.fee c (n + 1)).1 ≤ x.held
  ·rw [if_pos ⟨h1, h3, hf⟩]
   exact .inr (.inl ⟨rfl, h0, Int.le_refl _, ⟨h3, by rw [← h2]; exact hf⟩, fun d hd0 hd => h4 d hd0 (by simp only at hd; omega)⟩)
  ·rw [if_neg (fun h => hf h.2.2)]
   refine .inl ⟨h1, h2, fun d hd0 hd => ?_⟩
   by_cases e : d = n + 1
   ·subst e; rintro ⟨_, k⟩; exact hf (by rw [h2]; exact k)
   ·exact h4 d hd0 (by omega)
 ·rw [if_neg (by omega)]; exact .inr (.inl ⟨h1, h2, by omega, h4⟩)
 ·rw [if_neg (by have := h.1; omega)]; exact .inr (.inr h)
end
theorem mvs_still {b : Book} (hv : Valid b) (hst : b.still) (d : Int) (s : St) : ∀ k, k ≤ b.ps.length → iter (St.mvs1 b d) k s = s
 | 0, _ => rfl
 | k + 1, hk => by
  have hk2 := hst _ (hv.pay (show k < b.ps.length by omega))
  show St.mvs1 b d k (iter (St.mvs1 b d) k s) = s
  rw [mvs_still hv hst d s k (by omega)]
  unfold St.mvs1
  rw [if_neg (fun h => hk2 h.2)]
theorem came_day1 {b : Book} (hv : Valid b) (hst : b.still) {c : Nat} (hc : c < b.cs.length) {n : Int} (h0 : 0 ≤ n + 1) {s : St} (h : Came b c n (s.cases c)) : Came b c (n + 1) ((St.day1 b s (n + 1)).cases c) := by
 unfold St.day1 St.mvs
 rw [mvs_still hv hst _ _ _ (Nat.le_refl _), keep_cases, if_pos hc]
 refine CameMid.keep (CameMid.ins ?_ hv hst _ (Nat.le_refl _)) h0
 rw [lapse_cases, if_pos hc]
 exact h.lapse hv hc
theorem after_came {b : Book} (hv : Valid b) (hst : b.still) {c : Nat} (hc : c < b.cs.length) : ∀ n : Nat, Came b c n ((b.after n).cases c)
 | 0 => by
  have e := b.after_succ (-1)
  rw [show (-1 : Int) + 1 = 0 from rfl, if_pos b.zero_ev, hv.after_zero] at e
  show Came b c 0 ((b.after 0).cases c)
  rw [e]
  exact came_day1 (n := -1) hv hst hc (by decide) (show Came b c (-1) (St.init.cases c) from .inl ⟨rfl, (came_neg (c := c) hv _ (Nat.le_refl _)).symm, fun d hd hd' => by omega⟩)
 | n + 1 => by
  have e := b.after_succ n
  have e2 : ((n + 1 : Nat) : Int) = (n : Int) + 1 := by omega
  rw [e2, e]
  split
  ·exact came_day1 hv hst hc (by omega) (after_came hv hst hc n)
  ·rename_i h
   exact (after_came hv hst hc n).next hv hc (by omega) h
theorem lasts_of {b b' : Book} (hv : Valid b) (hst : b.still) (hv' : Valid b') (hst' : b'.still) {c : Nat} (hc : c < b.cs.length) (hc' : c < b'.cs.length) (hok : ∀ d, 0 ≤ d → d ≤ 9999 → b.ok c d → b'.ok c d)
  (hx : ((b.after 9999).cases c).state = 1) : ((b'.after 9999).cases c).state = 1 ∧ ((b'.after 9999).cases c).day ≤ ((b.after 9999).cases c).day := by
 have h1 := after_came hv hst hc 9999
 have h2 := after_came hv' hst' hc' 9999
 have c9 : ((9999 : Nat) : Int) = 9999 := rfl
 rw [c9] at h1 h2
 generalize (b.after 9999).cases c = x at *
 generalize (b'.after 9999).cases c = y at *
 rcases h1 with h1 | ⟨k1, k2, k3, k4, k5⟩ | h1
 ·have := h1.1; omega
 ·have hy := hok _ k2 k3 k4
  rcases h2 with h2 | ⟨m1, m2, m3, m4, m5⟩ | h2
  ·exact absurd hy (h2.2.2 _ k2 k3)
  ·refine ⟨m1, ?_⟩
   rcases Int.lt_or_le x.day y.day with h | h
   ·exact absurd hy (m5 _ k2 h)
   ·exact h
  ·exact absurd hy (h2.2.2 _ k2 k3)
 ·have := h1.1; omega
end Go.Proofs.YtnkejaohnhpbpaaGreatDoor
end
section
namespace Go.Proofs.YtnkejaohnhpbpaaGreatDoor
open Go Go.RowKit
def Lasts (b b' : Book) (c : Nat) : Prop := ((b.after 9999).cases c).state = 1 → ((b'.after 9999).cases c).state = 1 ∧ ((b'.after 9999).cases c).day ≤ ((b.after 9999).cases c).day
theorem ok_of {b b' : Book} {c : Nat} {d : Int} (hf : (b.fee c d).2 = true → (b'.fee c d).2 = true ∧ (b'.fee c d).1 ≤ (b.fee c d).1) (hcm : b.came c d b.ps.length ≤ b'.came c d b'.ps.length) (h : b.ok c d) : b'.ok c d := by
 obtain ⟨h1, h2⟩ := h
 obtain ⟨k1, k2⟩ := hf h1
 exact ⟨k1, by omega⟩
theorem ite_iff {α : Type} {p q : Prop} [Decidable p] [Decidable q] {x y z : α} (h : p ↔ q) (e : x = y) : (if p then x else z) = if q then y else z := by
 subst e
 by_cases hp : p
 ·rw [if_pos hp, if_pos (h.1 hp)]
 ·rw [if_neg hp, if_neg (fun k => hp (h.2 k))]
theorem came_eq {b b' : Book} {c : Nat} {d : Int} (hco : b'.coin c = b.coin c) : ∀ k, (∀ i, i < k → b'.payAt i = b.payAt i) → b'.came c d k = b.came c d k
 | 0, _ => rfl
 | k + 1, h => by
  have hk := h k (by omega)
  have hi : (b'.hits c k ∧ (b'.payAt k).day ≤ d) ↔ (b.hits c k ∧ (b.payAt k).day ≤ d) := by unfold Book.hits; rw [hk, hco]
  simp only [Book.came]
  rw [came_eq hco k (fun i hi => h i (by omega))]
  congr 1
  exact ite_iff hi (by rw [hk])
theorem lasts_more {b : Book} {p : Pay} (hv : Valid b) (hst : b.still) (hv' : Valid { b with ps := b.ps ++ [p] }) (hp : p.kind ≠ 2) {c : Nat} (hc : c < b.cs.length) : Lasts b { b with ps := b.ps ++ [p] } c := fun hx => by
 have hst' : Book.still { b with ps := b.ps ++ [p] } := fun q hq => by
  rcases List.mem_append.1 hq with h | h
  ·exact hst q h
  ·rw [List.mem_singleton.1 h]; exact hp
 refine lasts_of hv hst hv' hst' hc hc (fun d _ _ h => ok_of (b := b) (fun h => ⟨h, Int.le_refl _⟩) ?_ h) hx
 have hsame : ∀ i, i < b.ps.length → Book.payAt { b with ps := b.ps ++ [p] } i = b.payAt i := fun i hi => by
  simp only [Book.payAt, List.getD_eq_getElem?_getD]
  rw [List.getElem?_append_left hi]
 have e := came_eq (b := b) (b' := { b with ps := b.ps ++ [p] }) (c := c) (d := d) rfl b.ps.length hsame
 have hpp := hv'.p p (by simp)
 have hlen : (Book.ps { b with ps := b.ps ++ [p] }).length = b.ps.length + 1 := by simp
 rw [hlen]
 show b.came c d b.ps.length ≤ Book.came { b with ps := b.ps ++ [p] } c d b.ps.length + _
 rw [e]
 have : (Book.payAt { b with ps := b.ps ++ [p] } b.ps.length) = p := by simp [Book.payAt]
 rw [this]
 split <;> omega
theorem valid_early {b : Book} (hv : Valid b) (j : Nat) (n : Int) (hn : 0 ≤ n) : Valid { b with ps := b.ps.set j { b.payAt j with day := max 0 ((b.payAt j).day - n) } } := by
 by_cases hj : j < b.ps.length
 ·have hp := hv.p _ (hv.pay hj)
  refine ⟨hv.nc, hv.nt, hv.nk, by simpa using hv.np, hv.t, hv.k, fun p hp' => ?_⟩
  rcases List.mem_or_eq_of_mem_set hp' with h | rfl
  ·exact hv.p p h
  ·exact ⟨hp.1, by simp only; omega, by simp only; omega, hp.2.2.2⟩
 ·have : b.ps.set j { b.payAt j with day := max 0 ((b.payAt j).day - n) } = b.ps := List.set_eq_of_length_le (by omega)
  rw [this]
  exact hv
theorem lasts_early {b : Book} (hv : Valid b) (hst : b.still) (j : Nat) (hj : j < b.ps.length) (n : Int) (hn : 0 ≤ n) {c : Nat} (hc : c < b.cs.length) : Lasts b { b with ps := b.ps.set j { b.payAt j with day := max 0 ((b.payAt j).day - n) } } c := fun hx => by
 have hst' : Book.still { b with ps := b.ps.set j { b.payAt j with day := max 0 ((b.payAt j).day - n) } } := fun q hq => by
  rcases List.mem_or_eq_of_mem_set hq with h | rfl
  ·exact hst q h
  ·show (b.payAt j).kind ≠ 2
   exact hst _ (hv.pay hj)
 refine lasts_of hv hst (valid_early hv j n hn) hst' hc hc (fun d hd0 _ h => ok_of (b := b) (fun h => ⟨h, Int.le_refl _⟩) ?_ h) hx
 have hlen : (Book.ps { b with ps := b.ps.set j { b.payAt j with day := max 0 ((b.payAt j).day - n) } }).length = b.ps.length := by simp
 rw [hlen]
 have hat : ∀ i, Book.payAt { b with ps := b.ps.set j { b.payAt j with day := max 0 ((b.payAt j).day - n) } } i = if i = j then { b.payAt j with day := max 0 ((b.payAt j).day - n) } else b.payAt i := fun i => by
  by_cases e : i = j
  ·subst e
   simp [Book.payAt, hj]
  ·rw [if_neg e]
   simp only [Book.payAt, List.getD_eq_getElem?_getD]
   rw [List.getElem?_set_ne (fun h => e h.symm)]
 have : ∀ k, k ≤ b.ps.length → b.came c d k ≤ Book.came { b with ps := b.ps.set j { b.payAt j with day := max 0 ((b.payAt j).day - n) } } c d k := by
  intro k
  induction k with
  | zero => intro _; exact Int.le_refl _
  | succ k ih =>
   intro hk
   have ih := ih (by omega)
   have hp := hv.p _ (hv.pay (show k < b.ps.length by omega))
   have hco : Book.coin { b with ps := b.ps.set j { b.payAt j with day := max 0 ((b.payAt j).day - n) } } c = b.coin c := rfl
   have hat := hat k
   simp only [Book.came]
   generalize hb' : { b with ps := b.ps.set j { b.payAt j with day := max 0 ((b.payAt j).day - n) } } = b' at *
   by_cases e : k = j
   ·subst e
    rw [if_pos rfl] at hat
    have ha : (b'.payAt k).amount = (b.payAt k).amount := by rw [hat]
    by_cases h1 : b.hits c k ∧ (b.payAt k).day ≤ d
    ·have h2 : b'.hits c k ∧ (b'.payAt k).day ≤ d := ⟨by unfold Book.hits; rw [hat, hco]; exact h1.1, by rw [hat]; show max 0 _ ≤ d; have := h1.2; omega⟩
     rw [if_pos h1, if_pos h2, ha]; omega
    ·rw [if_neg h1]; split <;> omega
   ·rw [if_neg e] at hat
    have h2 : (b'.hits c k ∧ (b'.payAt k).day ≤ d) ↔ (b.hits c k ∧ (b.payAt k).day ≤ d) := by unfold Book.hits; rw [hat, hco]
    have h3 : (if b'.hits c k ∧ (b'.payAt k).day ≤ d then (b'.payAt k).amount else 0) = if b.hits c k ∧ (b.payAt k).day ≤ d then (b.payAt k).amount else 0 := ite_iff h2 (by rw [hat])
    rw [h3]; omega
 exact this _ (Nat.le_refl _)
theorem feeRaw_le {ba ea fr cl du gr ex ba' fr' cl' du' gr' ex' d : Int} (hea : 0 ≤ ea) (hba : ba' ≤ ba) (hfr : fr ≤ fr') (hcl : cl' ≤ cl) (hdu : du ≤ du') (hg : du + gr ≤ du' + gr') (hex : ex' ≤ ex) (h0 : 0 ≤ ex) (hgr : 0 ≤ gr)
  (h : (feeRaw ba ea fr cl du gr ex d).2 = true) : (feeRaw ba' ea fr' cl' du' gr' ex' d).2 = true ∧ (feeRaw ba' ea fr' cl' du' gr' ex' d).1 ≤ (feeRaw ba ea fr cl du gr ex d).1 := by
 have hm : ea * max 0 (cl' - fr') ≤ ea * max 0 (cl - fr) := Int.mul_le_mul_of_nonneg_left (by omega) hea
 unfold feeRaw at h ⊢
 generalize ea * max 0 (cl' - fr') = p at *
 generalize ea * max 0 (cl - fr) = q at *
 by_cases h1 : d ≤ du
 ·have h2 : d ≤ du' := by omega
  simp only [h1, h2, if_true]
  exact ⟨trivial, by omega⟩
 ·by_cases h3 : d ≤ du + gr
  ·simp only [h1, h3, if_false, if_true]
   by_cases h2 : d ≤ du'
   ·simp only [h2, if_true]; exact ⟨trivial, by omega⟩
   ·have h4 : d ≤ du' + gr' := by omega
    simp only [h2, h4, if_false, if_true]; exact ⟨trivial, by omega⟩
  ·simp [h1, h3] at h
structure Kinder (b b' : Book) : Prop where
 ps : b'.ps = b.ps
 ks : b'.cs.length = b.cs.length
 coin : ∀ c, c < b.cs.length → b'.coin c = b.coin c
 each : ∀ c, c < b.cs.length → (b'.tarOf c).each = (b.tarOf c).each
 base : ∀ c, c < b.cs.length → (b'.tarOf c).base ≤ (b.tarOf c).base
 free : ∀ c, c < b.cs.length → (b.tarOf c).free ≤ (b'.tarOf c).free
 classes : ∀ c, c < b.cs.length → (b'.casAt c).classes ≤ (b.casAt c).classes
 due : ∀ c, c < b.cs.length → (b.casAt c).due ≤ (b'.casAt c).due
 grace : ∀ c, c < b.cs.length → (b.casAt c).due + (b.casAt c).grace ≤ (b'.casAt c).due + (b'.casAt c).grace
 extra : ∀ c, c < b.cs.length → (b'.casAt c).extra ≤ (b.casAt c).extra
theorem lasts_kinder {b b' : Book} (hv : Valid b) (hst : b.still) (hv' : Valid b') (k : Kinder b b') {c : Nat} (hc : c < b.cs.length) : Lasts b b' c := fun hx => by
 have hst' : b'.still := fun q hq => hst q (by rw [← k.ps]; exact hq)
 have h1 := hv.k _ (hv.cas hc)
 have h2 := hv.t _ (hv.tar hc)
 refine lasts_of hv hst hv' hst' hc (by rw [k.ks]; exact hc) (fun d _ _ h => ok_of (fun h => ?_) ?_ h) hx
 ·unfold Book.fee at h ⊢
  rw [k.each c hc]
  exact feeRaw_le h2.2.2.2.1 (k.base c hc) (k.free c hc) (k.classes c hc) (k.due c hc) (k.grace c hc) (k.extra c hc) h1.2.2.2.2.2.2.2.1 h1.2.2.2.2.2.1 h
 ·rw [k.ps]
  have hat : ∀ i, b'.payAt i = b.payAt i := fun i => by unfold Book.payAt; rw [k.ps]
  rw [came_eq (k.coin c hc) b.ps.length (fun i _ => hat i)]
  exact Int.le_refl _
theorem casAt_set (b : Book) (w : Nat) (x : Cas) (hw : w < b.cs.length) (c : Nat) : Book.casAt { b with cs := b.cs.set w x } c = if c = w then x else b.casAt c := by
 by_cases e : c = w
 ·subst e; simp [Book.casAt, hw]
 ·rw [if_neg e]
  simp only [Book.casAt, List.getD_eq_getElem?_getD]
  rw [List.getElem?_set_ne (fun h => e h.symm)]
theorem tarOf_eq (b : Book) (c : Nat) : b.tarOf c = b.ts.getD (b.casAt c).tar ⟨⟨#[]⟩, 0, 0, 0, 0⟩ := rfl
theorem kinder_case {b : Book} {w : Nat} (hw : w < b.cs.length) {x : Cas} (htar : x.tar = (b.casAt w).tar) (hcl : x.classes ≤ (b.casAt w).classes) (hdu : (b.casAt w).due ≤ x.due) (hg : (b.casAt w).due + (b.casAt w).grace ≤ x.due + x.grace) (hex : x.extra ≤ (b.casAt w).extra) :
  Kinder b { b with cs := b.cs.set w x } := by
 have ha := casAt_set b w x hw
 have ht : ∀ c, Book.tarOf { b with cs := b.cs.set w x } c = b.tarOf c := fun c => by
  rw [tarOf_eq, tarOf_eq, ha]
  by_cases e : c = w
  ·subst e; rw [if_pos rfl, htar]
  ·rw [if_neg e]
 refine ⟨rfl, by simp, fun c _ => by unfold Book.coin; rw [ht], fun c _ => by rw [ht], fun c _ => by rw [ht]; exact Int.le_refl _, fun c _ => by rw [ht]; exact Int.le_refl _, fun c _ => ?_, fun c _ => ?_, fun c _ => ?_, fun c _ => ?_⟩ <;> rw [ha] <;> split <;> first | exact Int.le_refl _ | (rename_i e; subst e; assumption)
theorem kinder_tariff {b : Book} (hv : Valid b) {w : Nat} (hw : w < b.ts.length) {x : Trf} (hco : x.coin = (b.ts.getD w ⟨⟨#[]⟩, 0, 0, 0, 0⟩).coin) (hea : x.each = (b.ts.getD w ⟨⟨#[]⟩, 0, 0, 0, 0⟩).each) (hba : x.base ≤ (b.ts.getD w ⟨⟨#[]⟩, 0, 0, 0, 0⟩).base) (hfr : (b.ts.getD w ⟨⟨#[]⟩, 0, 0, 0, 0⟩).free ≤ x.free) :
  Kinder b { b with ts := b.ts.set w x } := by
 have ht : ∀ c, Book.tarOf { b with ts := b.ts.set w x } c = if (b.casAt c).tar = w then x else b.tarOf c := fun c => by
  have e1 : Book.tarOf { b with ts := b.ts.set w x } c = (b.ts.set w x).getD (b.casAt c).tar ⟨⟨#[]⟩, 0, 0, 0, 0⟩ := rfl
  rw [e1, tarOf_eq]
  by_cases e : (b.casAt c).tar = w
  ·rw [if_pos e, e]; simp [hw]
  ·rw [if_neg e]
   simp only [List.getD_eq_getElem?_getD]
   rw [List.getElem?_set_ne (fun h => e h.symm)]
 have hg : ∀ c, (b.casAt c).tar = w → b.ts.getD w ⟨⟨#[]⟩, 0, 0, 0, 0⟩ = b.tarOf c := fun c e => by rw [tarOf_eq, e]
 refine ⟨rfl, rfl, fun c _ => ?_, fun c _ => ?_, fun c _ => ?_, fun c _ => ?_, fun c _ => Int.le_refl _, fun c _ => Int.le_refl _, fun c _ => Int.le_refl _, fun c _ => Int.le_refl _⟩
 ·unfold Book.coin; rw [ht]; split
  ·rename_i e; rw [hco, hg c e]
  ·rfl
 ·rw [ht]; split
  ·rename_i e; rw [hea, hg c e]
  ·rfl
 ·rw [ht]; split
  ·rename_i e; rw [← hg c e]; exact hba
  ·exact Int.le_refl _
 ·rw [ht]; split
  ·rename_i e; rw [← hg c e]; exact hfr
  ·exact Int.le_refl _
end Go.Proofs.YtnkejaohnhpbpaaGreatDoor
end
