/- FeeEarly's books: one more payment, one that comes earlier; in plain words. -/
import Derived.Test.YtnkejaohnhpbpaaGreatDoorA47
import Derived.Test.YtnkejaohnhpbpaaGreatDoorA52
set_option linter.all false
namespace Go.Proofs.YtnkejaohnhpbpaaGreatDoor
open Go Go.RowKit Lift
theorem keeps_iff {b : Book} (hv : Valid b) {c : Nat} (hc : c < b.cs.length) : b.keeps c = true ↔ ((b.after 9999).cases c).state = 1 := by
 have h := (days_are hv hc (n := 9999) (Nat.le_refl _)).held0
 unfold Book.keeps
 constructor
 ·intro q
  simp only [Bool.and_eq_true, beq_iff_eq] at q
  exact q.1
 ·intro q
  simp [q, h q]
theorem lasts_keeps {b b' : Book} (hv : Valid b) (hv' : Valid b') {c : Nat} (hc : c < b.cs.length) (hc' : c < b'.cs.length) (h : Lasts b b' c) (hk : b.keeps c = true) : b'.keeps c = true ∧ ((b'.after 9999).cases c).day ≤ ((b.after 9999).cases c).day := by
 obtain ⟨h1, h2⟩ := h ((keeps_iff hv hc).1 hk)
 exact ⟨(keeps_iff hv' hc').2 h1, h2⟩
theorem to_still {b : RBook} (hR : b.Right) (h : ∀ p ∈ b.ps, p.kind ≠ 2) : b.to.still := fun p hp => by
 obtain ⟨r, hr, rfl⟩ := List.mem_map.1 hp
 have := h r hr
 have := (hR.p r hr).1
 simp only [RPay.to]; omega
theorem more_lasts {b : RBook} (hR : b.Right) (hst : ∀ p ∈ b.ps, p.kind ≠ 2) {m : RPay} (hR' : RBook.Right { b with ps := b.ps ++ [m] }) (hm : m.kind ≠ 2) : ∀ c, c < b.to.cs.length → b.to.keeps c = true →
  (RBook.to { b with ps := b.ps ++ [m] }).keeps c = true ∧ (((RBook.to { b with ps := b.ps ++ [m] }).after 9999).cases c).day ≤ ((b.to.after 9999).cases c).day := by
 have e : RBook.to { b with ps := b.ps ++ [m] } = { b.to with ps := b.to.ps ++ [m.to] } := by simp [RBook.to]
 have hv' := hR'.full.v
 have h0 := (hR'.p m (by simp)).1
 rw [e] at hv' ⊢
 intro c hc
 exact lasts_keeps hR.full.v hv' hc hc (lasts_more hR.full.v (to_still hR hst) hv' (by simp only [RPay.to]; omega) hc)
theorem to_payAtE {b : RBook} {i : Nat} (hi : i < b.ps.length) : b.to.payAt i = (b.payAt i).to := by
 unfold Book.payAt RBook.payAt RBook.to
 simp only [List.getD_eq_getElem?_getD, List.getElem?_map, List.getElem?_eq_getElem hi, Option.map_some, Option.getD_some]
def RBook.early (b : RBook) (k : Nat) (n : Int) : RBook := { b with ps := b.ps.set k { b.payAt k with day := max 0 ((b.payAt k).day - n) } }
theorem early_right {b : RBook} (hR : b.Right) {k : Nat} (hk : k < b.ps.length) {n : Int} (hn : 0 ≤ n) : (b.early k n).Right := by
 have hm : b.payAt k ∈ b.ps := by rw [payAt_get hk]; exact List.getElem_mem hk
 refine ⟨hR.nc, hR.cn, hR.cd, hR.nt, hR.tn, hR.td, hR.t, hR.nk, hR.kn, hR.kd, hR.k, by simpa [RBook.early] using hR.np, fun p hp => ?_⟩
 rcases List.mem_or_eq_of_mem_set hp with h | rfl
 ·exact hR.p p h
 ·have h := hR.p _ hm
  refine ⟨h.1, ?_, h.2.2⟩
  have := h.2.1
  simp only; omega
theorem early_lasts {b : RBook} (hR : b.Right) (hst : ∀ p ∈ b.ps, p.kind ≠ 2) {k : Nat} (hk : k < b.ps.length) {n : Int} (hn : 0 ≤ n) : ∀ c, c < b.to.cs.length → b.to.keeps c = true →
  (b.early k n).to.keeps c = true ∧ (((b.early k n).to.after 9999).cases c).day ≤ ((b.to.after 9999).cases c).day := by
 have e : (b.early k n).to = { b.to with ps := b.to.ps.set k { b.to.payAt k with day := max 0 ((b.to.payAt k).day - n) } } := by
  rw [to_payAtE hk]
  simp only [RBook.early, RBook.to, List.map_set]
  rfl
 have hv' := (early_right hR hk hn).full.v
 rw [e] at hv' ⊢
 intro c hc
 exact lasts_keeps hR.full.v hv' hc hc (lasts_early hR.full.v (to_still hR hst) k (by simpa [RBook.to] using hk) n hn hc)
end Go.Proofs.YtnkejaohnhpbpaaGreatDoor
