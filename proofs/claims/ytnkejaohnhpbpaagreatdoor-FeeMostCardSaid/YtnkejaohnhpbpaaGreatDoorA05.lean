/- The fee of a case, inside the fence. -/
import Derived.Sort.BigQuietIn
import Derived.Test.YtnkejaohnhpbpaaGreatDoorA03
import Derived.Test.YtnkejaohnhpbpaaGreatDoorA04
set_option linter.all false
section
namespace Go.Proofs.YtnkejaohnhpbpaaGreatDoor
open Go Go.RowKit
theorem isDay_in (a:Int) (w:World):CallsIn Fz 0 Tryz.prog 75 #[.int .i64 a] w fun e w' => e = .returned (.bool (decide (0 ≤ a) && decide (a ≤ 9999))) ∧ w' = w:=by
 gi_enter Tryz.func75,Tryz.ntmps75
 gi_wp2_with (gi_at_call 76;refine (between_in _ _ _ _).mono ?_;rintro e w' ⟨rfl,rfl⟩)
 go_ret;exact ⟨rfl,rfl⟩
theorem ret_ib {x a:Int} {y b:Bool} (h1:x = a) (h2:y = b):Ending.returned (.tuple #[.int .i64 x,.bool y]) = .returned (.tuple #[.int .i64 a,.bool b]):=by rw [h1,h2]
theorem fee_raw (kb ko kn kc tb to tn tc c tar:Nat) (day cl du gr ex ba ea fr co:Int) (v0 v3:Value) (s1 s2:ByteArray) (w:World) (hc:c < kn) (ht:tar < tn) (hkb:kb < w.heap.size) (htb:tb < w.heap.size)
 (k0:w.cell? ⟨kb,ko + c * 6,none⟩ = some (.string s1)) (k1:w.cell? ⟨kb,ko + c * 6 + 1,none⟩ = some (.int .i64 tar))  (k2:w.cell? ⟨kb,ko + c * 6 + 2,none⟩ = some (.int .i64 cl)) (k3:w.cell? ⟨kb,ko + c * 6 + 3,none⟩ = some (.int .i64 du)) (k4:w.cell? ⟨kb,ko + c * 6 + 4,none⟩ = some (.int .i64 gr)) (k5:w.cell? ⟨kb,ko + c * 6 + 5,none⟩ = some (.int .i64 ex))
 (t0:w.cell? ⟨tb,to + tar * 5,none⟩ = some (.string s2)) (t1:w.cell? ⟨tb,to + tar * 5 + 1,none⟩ = some (.int .i64 co))  (t2:w.cell? ⟨tb,to + tar * 5 + 2,none⟩ = some (.int .i64 ba)) (t3:w.cell? ⟨tb,to + tar * 5 + 3,none⟩ = some (.int .i64 ea)) (t4:w.cell? ⟨tb,to + tar * 5 + 4,none⟩ = some (.int .i64 fr))
 (b1:0 ≤ cl) (b2:cl ≤ 45) (b3:0 ≤ fr) (b4:fr ≤ 45) (b5:0 ≤ ea) (b6:ea ≤ 10000) (b7:0 ≤ ba) (b8:ba ≤ 10000) (b9:0 ≤ du) (b10:du ≤ 9999) (b11:0 ≤ gr) (b12:gr ≤ 999) (b13:0 ≤ ex) (b14:ex ≤ 10000) :
 CallsIn Fz 0 Tryz.prog 45 #[.agg #[v0,.slice (some ⟨tb,to,none⟩) tn tc,.slice (some ⟨kb,ko,none⟩) kn kc,v3],.int .i64 c,.int .i64 day] w fun e w' => e = .returned (.tuple #[.int .i64 (feeRaw ba ea fr cl du gr ex day).1,.bool (feeRaw ba ea fr cl du gr ex day).2]) ∧ Below w.heap.size w w':=by
 have hm1:0 ≤ ea * (cl - fr) ∨ cl < fr:=by
  by_cases h:cl < fr
  ·exact .inr h
  ·exact .inl (Int.mul_nonneg b5 (by omega))
 have hm2:ea * (cl - fr) ≤ 10000 * 45:=by
  by_cases h:cl < fr
  ·have:=Int.mul_nonpos_of_nonneg_of_nonpos b5 (show cl - fr ≤ 0 by omega);omega
  ·exact Int.mul_le_mul b6 (by omega) (by omega) (by omega)
 gi_enter Tryz.func45,Tryz.ntmps45
 gi_wp2
 all_goals
  go_ret2
  refine ⟨ret_ib ?_ ?_,(((Below.refl _ _).alloc (Nat.le_refl _) _).alloc (by simp <;> omega) _).alloc (by simp <;> omega) _⟩
  ·unfold feeRaw
   first
    | rw [if_pos (by assumption)]
    | rw [if_neg (by omega),if_pos (by assumption)]
    | rw [if_neg (by omega),if_neg (by omega)]
   try dsimp only
   try first
    | rw [show max 0 (cl - fr) = cl - fr by omega]
    | rw [show max 0 (cl - fr) = 0 by omega,Int.mul_zero]
   try (generalize ea * (cl - fr) = p at *;unfold wrap64;omega)
  ·unfold feeRaw
   first
    | rw [if_pos (by assumption)]
    | rw [if_neg (by omega),if_pos (by assumption)]
    | rw [if_neg (by omega),if_neg (by omega)]
theorem fee_in {N:Nat} {l:Lay} {b:Book} {w:World} (h:BkAt N l b w) (hv:Valid b) {c:Nat} (hc:c < b.cs.length) (day:Int) :
 CallsIn Fz 0 Tryz.prog 45 #[l.val b,.int .i64 c,.int .i64 day] w fun e w' => e = .returned (.tuple #[.int .i64 (b.fee c day).1,.bool (b.fee c day).2]) ∧ Below w.heap.size w w':=by
 obtain ⟨kb,ko,tb,to,H⟩:=h.case hv hc;have hN:=h.hN;have v1:=hv.k _ H.mk_;have v2:=hv.t _ H.mt_;have k:=H.rk;have t:=H.rt;have k0:=k 0 _ rfl;have k1:=k 1 _ rfl;have k2:=k 2 _ rfl;have k3:=k 3 _ rfl;have k4:=k 4 _ rfl;have k5:=k 5 _ rfl;have t0:=t 0 _ rfl;have t1:=t 1 _ rfl;have t2:=t 2 _ rfl;have t3:=t 3 _ rfl;have t4:=t 4 _ rfl;simp only [Nat.add_zero] at k0 t0;unfold Lay.val Book.fee;rw [H.ek,H.et]
 exact fee_raw kb ko b.cs.length l.kc tb to b.ts.length l.tc c (b.casAt c).tar day (b.casAt c).classes (b.casAt c).due (b.casAt c).grace (b.casAt c).extra (b.tarOf c).base (b.tarOf c).each (b.tarOf c).free (b.tarOf c).coin _ _ (b.casAt c).name (b.tarOf c).name w hc H.lt
  (Nat.lt_of_lt_of_le H.hk hN) (Nat.lt_of_lt_of_le H.ht hN) k0 k1 k2 k3 k4 k5 t0 t1 t2 t3 t4 v1.2.1 v1.2.2.1 v2.2.2.2.2.2.1 v2.2.2.2.2.2.2 v2.2.2.2.1 v2.2.2.2.2.1 v2.2.1 v2.2.2.1 v1.2.2.2.1 v1.2.2.2.2.1 v1.2.2.2.2.2.1 v1.2.2.2.2.2.2.1 v1.2.2.2.2.2.2.2.1 v1.2.2.2.2.2.2.2.2
end Go.Proofs.YtnkejaohnhpbpaaGreatDoor
end
section
namespace Go.Proofs.YtnkejaohnhpbpaaGreatDoor
open Go Go.RowKit
theorem coin_raw (kb ko kn kc tb to tn tc c tar:Nat) (co:Int) (v0 v3:Value) (w:World) (hc:c < kn) (ht:tar < tn) (hkb:kb < w.heap.size) (htb:tb < w.heap.size)
 (k1:w.cell? ⟨kb,ko + c * 6 + 1,none⟩ = some (.int .i64 tar)) (t1:w.cell? ⟨tb,to + tar * 5 + 1,none⟩ = some (.int .i64 co)) :
 CallsIn Fz 0 Tryz.prog 88 #[.agg #[v0,.slice (some ⟨tb,to,none⟩) tn tc,.slice (some ⟨kb,ko,none⟩) kn kc,v3],.int .i64 c] w fun e w' => e = .returned (.int .i64 co) ∧ Below w.heap.size w w':=by
 gi_enter Tryz.func88,Tryz.ntmps88
 gi_wp2;gi_big_quiet_th (fail)
 gi_wp2;go_ret;exact ⟨rfl,⟨rfl,rfl,rfl,by simp [World.drewN],fun k hk => ((Below.refl w.heap.size w).alloc (Nat.le_refl _) _).block k hk⟩⟩
theorem coin_in {N:Nat} {l:Lay} {b:Book} {w:World} (h:BkAt N l b w) (hv:Valid b) {c:Nat} (hc:c < b.cs.length) :
 CallsIn Fz 0 Tryz.prog 88 #[l.val b,.int .i64 c] w fun e w' => e = .returned (.int .i64 (b.coin c:Nat)) ∧ Below w.heap.size w w':=by
 obtain ⟨kb,ko,tb,to,H⟩:=h.case hv hc;have hN:=h.hN;have k1:=H.rk 1 _ rfl;have t1:=H.rt 1 _ rfl;unfold Lay.val Book.coin;rw [H.ek,H.et];exact coin_raw kb ko b.cs.length l.kc tb to b.ts.length l.tc c (b.casAt c).tar (b.tarOf c).coin _ _ w hc H.lt (Nat.lt_of_lt_of_le H.hk hN) (Nat.lt_of_lt_of_le H.ht hN) k1 t1
end Go.Proofs.YtnkejaohnhpbpaaGreatDoor
end
