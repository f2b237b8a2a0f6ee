/- FeeTakes: lists of numbers that are made and added to; what they come to, in plain words. -/
import Derived.Test.YtnkejaohnhpbpaaGreatDoorA48
import Derived.Test.YtnkejaohnhpbpaaGreatDoorA65
set_option linter.all false
namespace Go.Proofs.YtnkejaohnhpbpaaGreatDoor
open Go Go.RowKit Lift
def nums (f:Nat → Int) (n:Nat):Array Value:=((List.range n).map fun k => Value.int .i64 (f k)).toArray
theorem nums_size (f:Nat → Int) (n:Nat):(nums f n).size = n:=by simp [nums]
theorem nums_get {f:Nat → Int} {n k:Nat} (h:k < n):(nums f n)[k]? = some (.int .i64 (f k)):=by simp [nums,h]
theorem nums_congr {f g:Nat → Int} {n:Nat} (h:∀ k,k < n → f k = g k):nums f n = nums g n:=by
 unfold nums
 rw [List.map_congr_left fun k hk => by rw [h k (List.mem_range.1 hk)]]
theorem nums_set {f g:Nat → Int} {n c:Nat} {v:Int} (hc:c < n) (hv:g c = v) (h:∀ k,k < n → k ≠ c → g k = f k):(nums f n).setIfInBounds c (.int .i64 v) = nums g n:=by
 apply Array.ext_getElem?
 intro k
 by_cases hk:k < n
 ·by_cases e:k = c
  ·subst e
   rw [Array.getElem?_setIfInBounds_self_of_lt (by rw [nums_size];exact hk),nums_get hk,hv]
  ·rw [Array.getElem?_setIfInBounds_ne (Ne.symm e),nums_get hk,nums_get hk,h k hk e]
 ·rw [Array.getElem?_eq_none (by rw [Array.size_setIfInBounds,nums_size];omega),Array.getElem?_eq_none (by rw [nums_size];omega)]
theorem run_makeInts {n:Nat} (hn:n ≤ 6) (w:World):(Instr.makeSlice 44 (.int .i64 n) (.int .i64 n)).run Tryz.prog w = .ok (.slice (some ⟨w.heap.size,0,none⟩) n n) (w.alloc (.cells (nums (fun _ => 0) n) 3)):=by
 obtain ⟨i0,hi,hz0,hz1,hz2⟩:=info_parts Tryz.infoI
 have:=run_make (P:=Tryz.prog) w 44 3 i0 _ Tryz.underlying44 hi hz0 .i64 .i64 n n (by omega) (Int.le_refl _) (by rw [hz2];omega) (by omega)
 rw [hz1] at this
 have e:madeCells (Value.int IntKind.i64 0).cells (n * 1) = nums (fun _ => 0) n:=by
  apply Array.ext_getElem?
  intro k
  by_cases hk:k < n
  ·rw [nums_get hk]
   simp [madeCells,Value.cells,hk,Nat.mod_one]
  ·rw [Array.getElem?_eq_none (by rw [size_madeCells];omega),Array.getElem?_eq_none (by rw [nums_size];omega)]
 simp only [Int.toNat_natCast] at this
 rw [e] at this
 exact this
theorem to_cslen (b:RBook):b.to.cs.length = b.cs.length:=by simp [RBook.to]
def heldL (b:Book) (n:Int) (j:Nat):Nat → Int:=fun k => sumC b k (heldOf (b.after n)) j
def tookL (b:Book) (n:Int) (j:Nat):Nat → Int:=fun k => sumC b k (tookOf (b.after n)) j
theorem heldL_succ (b:Book) (n:Int) (j k:Nat):heldL b n (j + 1) k = if k = b.coin j then heldL b n j k + ((b.after n).cases j).held else heldL b n j k:=by
 unfold heldL
 rw [sumC]
 by_cases e:k = b.coin j
 ·rw [if_pos e,if_pos e.symm];rfl
 ·rw [if_neg e,if_neg (Ne.symm e)];omega
theorem tookL_succ (b:Book) (n:Int) (j k:Nat):tookL b n (j + 1) k = if k = b.coin j then tookL b n j k + tookOf (b.after n) j else tookL b n j k:=by
 unfold tookL
 rw [sumC]
 by_cases e:k = b.coin j
 ·rw [if_pos e,if_pos e.symm]
 ·rw [if_neg e,if_neg (Ne.symm e)];omega
structure TakesAre (b:Book) (n:Nat):Prop where
 held:∀ k,k < b.coins.length → b.heldOf (b.after n) k = heldL b n b.cs.length k
 took:∀ k,k < b.coins.length → (b.after n).tkn k = tookL b n b.cs.length k
 hb:∀ j k,j ≤ b.cs.length → k < b.coins.length → 0 ≤ heldL b n j k ∧ heldL b n j k ≤ 10000000000
 tb:∀ j k,j ≤ b.cs.length → k < b.coins.length → 0 ≤ tookL b n j k ∧ tookL b n j k ≤ 10000000000
theorem takes_are {b:Book} (hf:Full b) {n:Nat} (hn:n ≤ 9999):TakesAre b n:=by
 have hnc:=hf.v.nc
 have h:=after_sums hf.v hf.al n hn
 have hM:(100000 * ((n:Int) + 1)) ≤ 10000000000:=by omega
 have htk:∀ c,c < b.cs.length → 0 ≤ tookOf (b.after n) c:=fun c hc => by
  unfold tookOf
  split
  ·rename_i hs
   have hD:=days_are hf.v hc hn
   have hA:=after_aft hf.v n c hc
   rcases hA with q | ⟨q1,q2,q3,q4,q5⟩ | q
   ·have:=q.1;omega
   ·have:=(hf.v.fee_le hc ((b.after n).cases c).day).1
    rw [q5] at this;exact this
   ·have:=q.1;omega
  ·exact Int.le_refl _
 refine ⟨fun k hk => ?_,fun k hk => h.took k (by omega),fun j k hj hk => ?_,fun j k hj hk => ?_⟩
 ·unfold Book.heldOf
  rw [if_pos hk]
  exact held_sum h (by omega) hM _ (Nat.le_refl _)
 ·have h1:=sumC_le (b:=b) (k:=k) (f:=heldOf (b.after n)) j h.held hj
  have h2:=(h.bounds (k:=k) (by omega)).2.2.1
  have h3:=sumC_nonneg (b:=b) (k:=k) (f:=heldOf (b.after n)) (m:=j) (fun c hc => h.held c (by omega))
  unfold heldL
  omega
 ·have h1:=sumC_le (b:=b) (k:=k) (f:=tookOf (b.after n)) j htk hj
  have h2:=(h.bounds (k:=k) (by omega)).2.1
  have h3:=sumC_nonneg (b:=b) (k:=k) (f:=tookOf (b.after n)) (m:=j) (fun c hc => htk c (by omega))
  have h4:=h.took k (by omega)
  unfold tookL
  omega
end Go.Proofs.YtnkejaohnhpbpaaGreatDoor
