/- FeeEarly, beside leavers. PRINTED BY A PROGRAM. -/
import Derived.Test.YtnkejaohnhpbpaaGreatDoorA36
import Derived.Test.YtnkejaohnhpbpaaGreatDoorA52
import Derived.Test.YtnkejaohnhpbpaaGreatDoorA53
set_option linter.all false
namespace Go.Proofs.YtnkejaohnhpbpaaGreatDoor
open Go Go.Conc Go.RowKit Lift
set_option maxHeartbeats 16000000 in
set_option maxRecDepth 1000000 in
theorem law11 [Keep] {w : World} {l : Lay} {b : RBook} (hbk : RBkAt w.heap.size l b w) (hcap : b.coins.length ≤ l.cc) (hkd : KindsAt w) (hlim : Keep.lim ≤ w.heap.size) {m : RPay} {which by_ : Int} (c0 : 0 ≤ which) (c1 : which ≤ 255) (d0 : 0 ≤ by_) (d1 : by_ ≤ 65535) :
  Raw Tryz.prog (AtLeave Tryz.prog 11 Tryz.f11 fun v w1 S1 => v = .bool true ∧ GrowS w.heap.size w (fun _ => False) w1 S1) (G (Frame.enter Tryz.prog 11 #[.agg (l.rarr b), .agg #[.int .i64 m.kind, .int .i64 m.day, .int .i64 m.coin, .int .i64 m.amount, .int .i64 m.cas], .int .u8 which, .int .u16 by_] .normal) []) w (fun _ => False) := by
 refine raw_of_wpR fit (by simp) Tryz.func11 rfl ?_
 generalize (fun _ => False : Blks) = S
 simp only [Tryz.ntmps11, List.size_toArray, List.length_cons, List.length_nil, Nat.reduceAdd, Nat.reduceSub, Array.replicate_succ, Array.replicate_zero, List.push_toArray, List.append_toArray, List.nil_append, List.cons_append]
 refine wpR_thenZ fun wa hs => ?_
 gi_wp2
 have ha1 : Below wa.heap.size wa (wa.alloc (.cells (l.rarr b) 27)) := (Below.refl _ wa).alloc (Nat.le_refl _) _
 have ha2 : Below (wa.alloc (.cells (l.rarr b) 27)).heap.size (wa.alloc (.cells (l.rarr b) 27)) ((wa.alloc (.cells (l.rarr b) 27)).alloc (.cells #[.int .i64 m.kind, .int .i64 m.day, .int .i64 m.coin, .int .i64 m.amount, .int .i64 m.cas] 56)) := (Below.refl _ _).alloc (Nat.le_refl _) _
 have E : LawAt w S w.heap.size l b wa.heap.size ((wa.alloc (.cells (l.rarr b) 27)).alloc (.cells #[.int .i64 m.kind, .int .i64 m.day, .int .i64 m.coin, .int .i64 m.amount, .int .i64 m.cas] 56)) S := by
  have hsz : wa.heap.size = w.heap.size := by rw [hs.heap]
  have hg : Grow w.heap.size w ((wa.alloc (.cells (l.rarr b) 27)).alloc (.cells #[.int .i64 m.kind, .int .i64 m.day, .int .i64 m.coin, .int .i64 m.amount, .int .i64 m.cas] 56)) := hs.grow ((ha1.trans (ha2.mono ha1.size)).mono (by omega))
  exact ⟨hg.s, hbk.grow hg, (Blk.new wa _ _).below ha2, by omega, hkd.grow hg hkd.lt⟩
 have hM : Blk ((wa.alloc (.cells (l.rarr b) 27)).alloc (.cells #[.int .i64 m.kind, .int .i64 m.day, .int .i64 m.coin, .int .i64 m.amount, .int .i64 m.cas] 56)) (wa.heap.size + 1) 56 #[.int .i64 m.kind, .int .i64 m.day, .int .i64 m.coin, .int .i64 m.amount, .int .i64 m.cas] := by
  have := Blk.new (wa.alloc (.cells (l.rarr b) 27)) #[.int .i64 m.kind, .int .i64 m.day, .int .i64 m.coin, .int .i64 m.amount, .int .i64 m.cas] 56
  rwa [World.size_alloc] at this
 have h0 := hkd.lt
 clear hs hbk hkd ha1 ha2
 generalize (wa.alloc _).alloc _ = W at *
 obtain ⟨BM, hBM⟩ : ∃ BM, wa.heap.size + 1 = BM := ⟨_, rfl⟩
 rw [hBM] at hM ⊢
 clear hBM
 generalize wa.heap.size = B at *
 refine wpR_seq fit ?_
 refine wpR_thenZ fun wb hs => ?_
 replace E := E.same hs
 replace hM := hM.gr (hs.g _)
 clear hs
 have g0 := E.bx.cell 0; have g1 := E.bx.cell 1; have g2 := E.bx.cell 2; have g3 := E.bx.cell 3; simp at g0 g1 g2 g3; have ltB := E.bx.lt
 have hcall := Fit_in E.bk hcap
 gi_wp2_with (first
  | (gi_at_call 35; with_reducible refine hcall.mono ?_; rintro e w2 ⟨⟨r, rfl, hr⟩, hb2⟩; replace E := E.below hb2; replace hM := hM.gr (Grow.of hb2); clear g0 g1 g2 g3 ltB hb2; have g0 := E.bx.cell 0; have g1 := E.bx.cell 1; have g2 := E.bx.cell 2; have g3 := E.bx.cell 3; simp at g0 g1 g2 g3; have ltB := E.bx.lt; rcases r with _ | _)
  | (gi_at_call 38; with_reducible refine (moves_in E.bk (hr (by trivial)).np).mono ?_; rintro e w3 ⟨⟨q, rfl, hq⟩, hb3⟩; replace E := E.below hb3; replace hM := hM.gr (Grow.of hb3); rcases q with _ | _))
 ·refine wpR_cond fit (t := true) rfl ?_
  simp only [if_true]
  refine wpR_seq fit (wpR_region fit ?_)
  simp only [List.size_toArray, List.length_cons, List.length_nil, Nat.reduceAdd, List.range, List.range.loop]
  refine opsR_callZ rfl rfl rfl Tryz.func17 (by kernel_rfl) body17 (vals := #[]) (by simp) (paid_R E.kd (Nat.le_trans hlim E.g.size)) ?_
  rintro u w5 S5 ⟨rfl, hg5⟩
  replace E := E.grow hg5
  clear hg5
  refine opsR_loneZ rfl rfl fun wr hs => ?_
  replace E := E.same hs
  clear hs
  gi_wp2
  refine opsR_nil fit ?_
  refine wpR_ret fit ?_
  exact ⟨rfl, .bool true, fun τ d => by rw [results_tmp rfl]; rfl, rfl, E.g⟩
 ·have hR : b.Right := hr (by trivial)
  have hf := hR.full
  have hst := hq (by trivial)
  refine wpR_cond fit (t := false) rfl ?_
  simp only [Bool.false_eq_true, if_false]
  refine wpR_skip fit ?_
  clear g0 g1 g2 g3 ltB hr hq
  refine wpR_thenZ fun wr hs => ?_
  replace E := E.same hs
  replace hM := hM.gr (hs.g _)
  clear hs
  have g0 := E.bx.cell 0; have g1 := E.bx.cell 1; have g2 := E.bx.cell 2; have g3 := E.bx.cell 3; simp at g0 g1 g2 g3; have ltB := E.bx.lt
  gi_wp2
  clear g0 g1 g2 g3 ltB
  have ha : Below wr.heap.size wr (wr.alloc (.cells (l.rarr b) 27)) := (Below.refl _ wr).alloc (Nat.le_refl _) _
  have hO := Blk.new wr (l.rarr b) 27
  have loO : w.heap.size ≤ wr.heap.size := E.g.size
  have hBO : B < wr.heap.size := E.bx.lt
  have hMO : BM < wr.heap.size := hM.lt
  replace E := E.below ha
  replace hM := hM.gr (Grow.of ha)
  clear ha
  generalize wr.alloc _ = W at *
  generalize wr.heap.size = BO at *
  simp only [thenR]
  refine wpR_thenZ fun w4 hs => ?_
  replace E := E.same hs
  replace hM := hM.gr (hs.g _)
  replace hO := hO.gr (hs.g _)
  clear hs
  have hnp := hR.np
  refine wpIn_region_ghosts rfl mixed (by kernel_rfl) (WAA ⟨0, 3, 5, 6, 8, 21, 24, 26, 27⟩ w4 BO b.ps m) [21, 24, 26, 27] (x₀ := fun _ => undef) (fun g hg => by simp only [List.mem_cons, List.not_mem_nil, or_false] at hg; rcases hg with rfl | rfl | rfl | rfl <;> rfl) WAA.start ?_
  simp only [List.size_toArray, List.length_cons, List.length_nil, Nat.reduceAdd, List.range, List.range.loop]
  refine detM_mk 21 (by decide) rfl (fun _ => rfl) rfl rfl (fun D x w' hm hW K Q hK => build0_wp rfl (hK _ _ (WAA.build0 rfl hW hm.1 (hm.2.2 8 (by kernel_rfl))))) ?_
  refine detM_at (u0 := fun _ => undef) rfl (fun _ => rfl) (by decide) (fun g hg => by simp only [List.mem_cons, List.not_mem_nil, or_false] at hg; rcases hg with rfl | rfl | rfl | rfl <;> rfl) ?_
  apply Exists.intro
  refine ⟨fun D x w' hm hW K Q hK => ?_, ?_⟩
  ·have d5 := hm.2.2 8 (by kernel_rfl)
   have hb := hW.bel d5
   skip
   simp only [Lift.Act.setG, List.foldl_cons, List.foldl_nil, List.setIfInBounds_toArray, List.set_cons_zero, List.set_cons_succ]
   gi_wp2
   exact hW.pure (by decide)
  apply Exists.intro
  refine ⟨fun x => rfl, ?_⟩
  refine detM_at (u0 := fun _ => undef) rfl (fun _ => rfl) (by decide) (fun g hg => by simp only [List.mem_cons, List.not_mem_nil, or_false] at hg; rcases hg with rfl | rfl | rfl | rfl <;> rfl) ?_
  apply Exists.intro
  refine ⟨fun D x w' hm hW K Q hK => ?_, ?_⟩
  ·have d5 := hm.2.2 8 (by kernel_rfl)
   have hb := hW.bel d5
   have q := E.bx.below (hb.mono (Nat.le_refl _)); have q0 := q.cell 0; have q1 := q.cell 1; have q2 := q.cell 2; have q3 := q.cell 3; simp at q0 q1 q2 q3
   simp only [Lift.Act.setG, List.foldl_cons, List.foldl_nil, List.setIfInBounds_toArray, List.set_cons_zero, List.set_cons_succ]
   gi_wp2
   exact hW.pure (by decide)
  apply Exists.intro
  refine ⟨fun x => rfl, ?_⟩
  refine detM_mk 24 (by decide) rfl (fun _ => rfl) rfl rfl (fun D x w' hm hW K Q hK => ?_) ?_
  ·have d5 := hm.2.2 8 (by kernel_rfl)
   have hb := hW.bel d5
   have q1 := hm.2.1 0 (by kernel_rfl)
   have hp := (E.bk.below (hb.mono E.bk.hN)).paysAt
   exact append_pays (.tmp 21) _ rfl (xs := []) rfl (hW.o1 d5 q1 hm.1) rfl hp (by omega) hb.size fun v w'' hown hg => hK v w'' (WAA.app1 rfl hW q1 hm.1 d5 hown hg)
  refine detM_at (u0 := fun _ => undef) rfl (fun _ => rfl) (by decide) (fun g hg => by simp only [List.mem_cons, List.not_mem_nil, or_false] at hg; rcases hg with rfl | rfl | rfl | rfl <;> rfl) ?_
  apply Exists.intro
  refine ⟨fun D x w' hm hW K Q hK => ?_, ?_⟩
  ·have d5 := hm.2.2 8 (by kernel_rfl)
   have hb := hW.bel d5
   have q := hM.below (hb.mono (Nat.le_refl _)); have q0 := q.cell 0; have q1 := q.cell 1; have q2 := q.cell 2; have q3 := q.cell 3; have q4 := q.cell 4; simp at q0 q1 q2 q3 q4
   simp only [Lift.Act.setG, List.foldl_cons, List.foldl_nil, List.setIfInBounds_toArray, List.set_cons_zero, List.set_cons_succ]
   gi_wp2
   exact hW.pure (by decide)
  apply Exists.intro
  refine ⟨fun x => rfl, ?_⟩
  refine detM_mk 26 (by decide) rfl (fun _ => rfl) rfl rfl (fun D x w' hm hW K Q hK => build1_wp rfl rfl (hK _ _ (WAA.build1 rfl hW hm.1 (hm.2.2 8 (by kernel_rfl))))) ?_
  refine detM_mk 27 (by decide) rfl (fun _ => rfl) rfl rfl (fun D x w' hm hW K Q hK => ?_) ?_
  ·have d5 := hm.2.2 8 (by kernel_rfl)
   have hb := hW.bel d5
   have q2 := hm.2.1 3 (by kernel_rfl)
   have q3 := hm.2.1 5 (by kernel_rfl)
   obtain ⟨-, hp⟩ := owns_pays (hW.o3 d5 q3 hm.1)
   exact append_pays (.tmp 24) (.tmp 26) rfl (ys := [m]) rfl (hW.o2 d5 q2 hm.1) rfl hp (by simp only [List.length_cons, List.length_nil]; omega) hb.size fun v w'' hown hg => hK v w'' (WAA.app2 rfl hW q2 q3 hm.1 d5 hown hg)
  refine detM_at (u0 := fun _ => undef) rfl (fun _ => rfl) (by decide) (fun g hg => by simp only [List.mem_cons, List.not_mem_nil, or_false] at hg; rcases hg with rfl | rfl | rfl | rfl <;> rfl) ?_
  apply Exists.intro
  refine ⟨fun D x w' hm hW K Q hK => ?_, ?_⟩
  ·have d5 := hm.2.2 8 (by kernel_rfl)
   have hb := hW.bel d5
   skip
   simp only [Lift.Act.setG, List.foldl_cons, List.foldl_nil, List.setIfInBounds_toArray, List.set_cons_zero, List.set_cons_succ]
   gi_wp2
   exact hW.pure (by decide)
  apply Exists.intro
  refine ⟨fun x => rfl, ?_⟩
  refine detM_none rfl (fun _ => rfl) rfl (fun D x w' hm hW K Q hK => ?_) ?_
  ·have d5 := hm.1
   have hb := hW.bel d5
   have q4 := hm.2.1 6 (by kernel_rfl)
   have q := hO.below (hb.mono (Nat.le_refl _)); have z3 := q.cell 3; have y3 := q.frozen 3; simp at z3
   have hst := WAA.store rfl hW q4 d5
   simp only at hst
   obtain ⟨gr, cr, hx⟩ := owns_some (hW.o4 d5 q4)
   simp only at hx
   rw [hx] at hst
   simp only [Lift.Act.setG, List.foldl_cons, List.foldl_nil, List.setIfInBounds_toArray, List.set_cons_zero, List.set_cons_succ, hx] at hK ⊢
   gi_wp2
   exact hst
  intro x w5 hW
  obtain ⟨w1, hb1, hown, rfl⟩ := hW.fin (by decide)
  simp only at hown
  obtain ⟨go, co, hx⟩ := owns_some hown
  have hown5 := owns_poke (BO := BO) (j := 3) (u := x 27) hown hO.lt
  obtain ⟨-, base, cap, hv, hrows⟩ := owns_pays hown5
  replace E := E.poke (j := 3) (v := x 27) h0 hb1 loO (by omega)
  replace hM := (hM.below hb1).set (j := 3) (show BO ≠ BM by omega) (x 27)
  replace hO := (hO.below hb1).put 3 (x 27)
  simp only [Lay.rarr, List.setIfInBounds_toArray, List.set_cons_zero, List.set_cons_succ] at hO
  generalize w1.setCell _ _ = W5 at *
  rw [hx] at hv hO
  have hv' : base = some ⟨go, 0, none⟩ ∧ cap = co := by simp at hv; exact ⟨hv.1.symm, hv.2.symm⟩
  obtain ⟨rfl, rfl⟩ := hv'
  have hB1 := E.bk.with_ (cap := cap) E.g.size (Nat.le_refl _) hrows
  clear hv hrows hown hown5 hW hb1 hx
  simp only [thenR]
  simp only [Lift.Act.setG, List.foldl_cons, List.foldl_nil, List.setIfInBounds_toArray, List.set_cons_zero, List.set_cons_succ]
  generalize x 21 = x21
  generalize x 24 = x24
  generalize x 26 = x26
  generalize x 27 = x27
  clear x
  refine wpR_seq fit (wpR_mono (Q := fun e a' w' S' => e = .normal ∧ LawAt w S w.heap.size l b B w' S' ∧ ∃ u1 u5 u6 u7 u9 u10 u11 u12 u13 u14 u15 u16 u17 u18 u19 u20 u21 u22 u23 u24 u25 u26 u27 u28 u29 u30 u31 u32 u33 u34 u35 u36 u37 u38 u39 u40 u41 u42 u43 u44 u45 u46 u47 u48 u49 u50 u51 u52 u53 u54 u55 u56 u57 u58 u59 u60 u61 u62 u63 u64 u65 u66 u67 u68 u69 u70 u71 u72 u73 u74 u75 u76 u77 u78 u79 : Value, a' = ⟨#[.agg (l.rarr b), u1, .int .u8 which, .int .u16 by_, .pointer (some ⟨B, 0, none⟩), u5, u6, u7, .bool false, u9, u10, u11, u12, u13, u14, u15, u16, u17, u18, u19, u20, u21, u22, u23, u24, u25, u26, u27, u28, u29, u30, u31, u32, u33, u34, u35, u36, u37, u38, u39, u40, u41, u42, u43, u44, u45, u46, u47, u48, u49, u50, u51, u52, u53, u54, u55, u56, u57, u58, u59, u60, u61, u62, u63, u64, u65, u66, u67, u68, u69, u70, u71, u72, u73, u74, u75, u76, u77, u78, u79], []⟩) ?pre ?post)
  case pre =>
   obtain ⟨kd, hkd⟩ : ∃ kd, m.kind = kd := ⟨_, rfl⟩
   rw [hkd] at hM
   by_cases hk2 : kd = 2
   ·subst hk2
    refine wpR_thenZ fun wr hs => ?_
    replace E := E.same hs
    replace hM := hM.gr (hs.g _)
    replace hO := hO.gr (hs.g _)
    clear hs
    have g0 := E.bx.cell 0; have g1 := E.bx.cell 1; have g2 := E.bx.cell 2; have g3 := E.bx.cell 3; simp at g0 g1 g2 g3; have ltB := E.bx.lt
    have o0 := hO.cell 0; have o1 := hO.cell 1; have o2 := hO.cell 2; have o3 := hO.cell 3; have m0 := hM.cell 0; simp at o0 o1 o2 o3 m0; have ltO := hO.lt; have ltM := hM.lt
    gi_wp2
    simp only [thenR]
    refine wpR_cond fit (t := false) rfl ?_
    simp only [Bool.false_eq_true, if_false]
    refine wpR_skip fit ?_
    refine ⟨rfl, E, ?_⟩
    (repeat apply Exists.intro)
    rfl
   ·have hk2' : (kd == 2) = false := by simp [hk2]
    have hmk : m.kind ≠ 2 := by rw [hkd]; exact hk2
    have HMK := Lib.hid hmk
    clear hkd hmk
    refine wpR_thenZ fun wr hs => ?_
    replace E := E.same hs
    replace hM := hM.gr (hs.g _)
    replace hO := hO.gr (hs.g _)
    replace hB1 := hB1.gr (hs.g _)
    clear hs
    have g0 := E.bx.cell 0; have g1 := E.bx.cell 1; have g2 := E.bx.cell 2; have g3 := E.bx.cell 3; simp at g0 g1 g2 g3; have ltB := E.bx.lt
    have o0 := hO.cell 0; have o1 := hO.cell 1; have o2 := hO.cell 2; have o3 := hO.cell 3; have m0 := hM.cell 0; simp at o0 o1 o2 o3 m0; have ltO := hO.lt; have ltM := hM.lt
    have hcall := CheckRef_in hB1 hcap (by have := hR.nc; simp only; omega) (by have := hR.nt; simp only; omega) (by have := hR.nk; simp only; omega) (by simp only [List.length_append, List.length_cons, List.length_nil]; omega)
    simp only [Lay.rarr, List.length_append, List.length_cons, List.length_nil, Nat.zero_add] at hcall
    gi_wp2_with (first
     | (gi_at_call 21; with_reducible refine hcall.mono ?_; rintro e w2 ⟨⟨f, rfl, hf0⟩, hb2⟩; replace E := E.below hb2; replace hO := hO.gr (Grow.of hb2); replace hB1 := hB1.gr (Grow.of hb2); clear g0 g1 g2 g3 ltB o0 o1 o2 o3 ltO m0 ltM hM hb2; have HF := Lib.hid hf0; clear hf0; have g0 := E.bx.cell 0; have g1 := E.bx.cell 1; have g2 := E.bx.cell 2; have g3 := E.bx.cell 3; simp at g0 g1 g2 g3; have ltB := E.bx.lt; have o0 := hO.cell 0; have o1 := hO.cell 1; have o2 := hO.cell 2; have o3 := hO.cell 3; simp at o0 o1 o2 o3; have ltO := hO.lt; rcases Decidable.em (f = 0) with rfl | q; rotate_left; have qf : (f == 0) = false := by simp [q]; rotate_left)
     | (gi_at_call 39; have hR1 := HF.out.1 (by trivial); have hl := lasts_in (E.bk.to hR) (hB1.to hR1) hf hR1.full E.kd (Nat.le_refl _) (more_lasts hR hst hR1 HMK.out); rw [RBook.to_val, RBook.to_val] at hl; simp only [Lay.rarr, List.length_append, List.length_cons, List.length_nil, Nat.zero_add] at hl; with_reducible refine hl.mono ?_; rintro e w3 ⟨rfl, hb3⟩; replace E := E.below hb3))
    all_goals
     (try simp only [thenR])
     refine wpR_cond fit (t := false) rfl ?_
     simp only [Bool.false_eq_true, if_false]
     refine wpR_skip fit ?_
     refine ⟨rfl, E, ?_⟩
     (repeat apply Exists.intro)
     rfl
  case post =>
   clear hM hO hB1 E
   rintro e a w1 S1 ⟨rfl, E, hfr⟩
   obtain ⟨u1, hfr⟩ := hfr; obtain ⟨u5, hfr⟩ := hfr; obtain ⟨u6, hfr⟩ := hfr; obtain ⟨u7, hfr⟩ := hfr; obtain ⟨u9, hfr⟩ := hfr; obtain ⟨u10, hfr⟩ := hfr; obtain ⟨u11, hfr⟩ := hfr; obtain ⟨u12, hfr⟩ := hfr; obtain ⟨u13, hfr⟩ := hfr; obtain ⟨u14, hfr⟩ := hfr; obtain ⟨u15, hfr⟩ := hfr; obtain ⟨u16, hfr⟩ := hfr; obtain ⟨u17, hfr⟩ := hfr; obtain ⟨u18, hfr⟩ := hfr; obtain ⟨u19, hfr⟩ := hfr; obtain ⟨u20, hfr⟩ := hfr; obtain ⟨u21, hfr⟩ := hfr; obtain ⟨u22, hfr⟩ := hfr; obtain ⟨u23, hfr⟩ := hfr; obtain ⟨u24, hfr⟩ := hfr; obtain ⟨u25, hfr⟩ := hfr; obtain ⟨u26, hfr⟩ := hfr; obtain ⟨u27, hfr⟩ := hfr; obtain ⟨u28, hfr⟩ := hfr; obtain ⟨u29, hfr⟩ := hfr; obtain ⟨u30, hfr⟩ := hfr; obtain ⟨u31, hfr⟩ := hfr; obtain ⟨u32, hfr⟩ := hfr; obtain ⟨u33, hfr⟩ := hfr; obtain ⟨u34, hfr⟩ := hfr; obtain ⟨u35, hfr⟩ := hfr; obtain ⟨u36, hfr⟩ := hfr; obtain ⟨u37, hfr⟩ := hfr; obtain ⟨u38, hfr⟩ := hfr; obtain ⟨u39, hfr⟩ := hfr; obtain ⟨u40, hfr⟩ := hfr; obtain ⟨u41, hfr⟩ := hfr; obtain ⟨u42, hfr⟩ := hfr; obtain ⟨u43, hfr⟩ := hfr; obtain ⟨u44, hfr⟩ := hfr; obtain ⟨u45, hfr⟩ := hfr; obtain ⟨u46, hfr⟩ := hfr; obtain ⟨u47, hfr⟩ := hfr; obtain ⟨u48, hfr⟩ := hfr; obtain ⟨u49, hfr⟩ := hfr; obtain ⟨u50, hfr⟩ := hfr; obtain ⟨u51, hfr⟩ := hfr; obtain ⟨u52, hfr⟩ := hfr; obtain ⟨u53, hfr⟩ := hfr; obtain ⟨u54, hfr⟩ := hfr; obtain ⟨u55, hfr⟩ := hfr; obtain ⟨u56, hfr⟩ := hfr; obtain ⟨u57, hfr⟩ := hfr; obtain ⟨u58, hfr⟩ := hfr; obtain ⟨u59, hfr⟩ := hfr; obtain ⟨u60, hfr⟩ := hfr; obtain ⟨u61, hfr⟩ := hfr; obtain ⟨u62, hfr⟩ := hfr; obtain ⟨u63, hfr⟩ := hfr; obtain ⟨u64, hfr⟩ := hfr; obtain ⟨u65, hfr⟩ := hfr; obtain ⟨u66, hfr⟩ := hfr; obtain ⟨u67, hfr⟩ := hfr; obtain ⟨u68, hfr⟩ := hfr; obtain ⟨u69, hfr⟩ := hfr; obtain ⟨u70, hfr⟩ := hfr; obtain ⟨u71, hfr⟩ := hfr; obtain ⟨u72, hfr⟩ := hfr; obtain ⟨u73, hfr⟩ := hfr; obtain ⟨u74, hfr⟩ := hfr; obtain ⟨u75, hfr⟩ := hfr; obtain ⟨u76, hfr⟩ := hfr; obtain ⟨u77, hfr⟩ := hfr; obtain ⟨u78, hfr⟩ := hfr; obtain ⟨u79, hfr⟩ := hfr
   subst hfr
   simp only [thenR]
   refine wpR_seq fit ?_
   by_cases hz : b.ps.length = 0
   ·have hzb : ((b.ps.length : Int) == 0) = true := by simp [hz]
    clear hz
    refine wpR_lawZ E fun wr E => ?_
    have g0 := E.bx.cell 0; have g1 := E.bx.cell 1; have g2 := E.bx.cell 2; have g3 := E.bx.cell 3; simp at g0 g1 g2 g3; have ltB := E.bx.lt
    gi_wp2
    clear g0 g1 g2 g3 ltB
    refine wpR_cond fit (t := true) rfl ?_
    simp only [if_true]
    refine wpR_seq fit (wpR_region fit ?_)
    simp only [List.size_toArray, List.length_cons, List.length_nil, Nat.reduceAdd, List.range, List.range.loop]
    refine opsR_callZ rfl rfl rfl Tryz.func17 (by kernel_rfl) body17 (vals := #[]) (by simp) (paid_R E.kd (Nat.le_trans hlim E.g.size)) ?_
    rintro u w5 S5 ⟨rfl, hg5⟩
    replace E := E.grow hg5
    clear hg5
    refine opsR_loneZ rfl rfl fun wr hs => ?_
    replace E := E.same hs
    clear hs
    gi_wp2
    refine opsR_nil fit ?_
    refine wpR_ret fit ?_
    exact ⟨rfl, .bool true, fun τ d => by rw [results_tmp rfl]; rfl, rfl, E.g⟩
   ·have hzb : ((b.ps.length : Int) == 0) = false := by simp [hz]
    refine wpR_lawZ E fun wr E => ?_
    have g0 := E.bx.cell 0; have g1 := E.bx.cell 1; have g2 := E.bx.cell 2; have g3 := E.bx.cell 3; simp at g0 g1 g2 g3; have ltB := E.bx.lt
    gi_wp2
    clear g0 g1 g2 g3 ltB
    refine wpR_cond fit (t := false) rfl ?_
    simp only [Bool.false_eq_true, if_false]
    refine wpR_skip fit ?_
    refine wpR_lawZ E fun wr E => ?_
    have g0 := E.bx.cell 0; have g1 := E.bx.cell 1; have g2 := E.bx.cell 2; have g3 := E.bx.cell 3; simp at g0 g1 g2 g3; have ltB := E.bx.lt
    gi_wp2
    clear g0 g1 g2 g3 ltB
    have ha : Below wr.heap.size wr (wr.alloc (.cells (l.rarr b) 27)) := (Below.refl _ wr).alloc (Nat.le_refl _) _
    have hP := Blk.new wr (l.rarr b) 27
    have hBP : B < wr.heap.size := E.bx.lt
    have loP : w.heap.size ≤ wr.heap.size := E.g.size
    replace E := E.below ha
    clear ha
    generalize wr.alloc _ = W at *
    generalize wr.heap.size = BP at *
    simp only [thenR]
    refine wpR_seq fit (wpR_region fit ?_)
    simp only [List.size_toArray, List.length_cons, List.length_nil, Nat.reduceAdd, List.range, List.range.loop]
    refine opsR_loneZ rfl rfl fun wx hs => ?_
    replace E := E.same hs
    replace hP := hP.gr (hs.g _)
    clear hs
    refine build0_wp rfl ?_
    have hown0 : (wx.alloc (.cells #[] 56)).ownsRow wx.heap.size 56 5 (.slice (some ⟨wx.heap.size, 0, none⟩) 0 0) 0 (payCells []) := World.ownsRow_lit wx #[] 0 (Nat.le_refl _) (by decide) rfl
    have HB : Grow wx.heap.size wx (wx.alloc (.cells #[] 56)) := Grow.of ((Below.refl _ wx).alloc (Nat.le_refl _) _)
    generalize wx.alloc _ = W1 at *
    refine opsR_loneZ rfl rfl fun wr hs => ?_
    replace HB := hs.pre HB; replace hown0 := owns_same hown0 hs
    clear hs
    gi_wp2
    refine opsR_loneZ rfl rfl fun wr hs => ?_
    replace HB := hs.pre HB; replace hown0 := owns_same hown0 hs
    clear hs
    have q := E.bx.grow HB E.bx.lt
    have q0 := q.cell 0; have q1 := q.cell 1; have q2 := q.cell 2; have q3 := q.cell 3
    simp at q0 q1 q2 q3
    gi_wp2
    clear q q0 q1 q2 q3
    refine opsR_loneZ rfl rfl fun wr hs => ?_
    replace HB := hs.pre HB; replace hown0 := owns_same hown0 hs
    clear hs
    refine append_pays (.tmp 49) (.tmp 51) rfl (xs := []) rfl hown0 rfl (E.bk.grow HB).paysAt (by have := hR.np; omega) HB.size fun v w2 hown hg => ?_
    replace HB := HB.trans (Grow.of (owns_bel hown0 hg HB.size))
    rw [Nat.zero_add, List.nil_append] at hown
    clear hg hown0
    obtain ⟨gp, cp, cur, rfl, logp, hcur⟩ := owns_some1 hown hz
    refine opsR_loneZ rfl rfl fun wr hs => ?_
    replace HB := hs.pre HB; replace hown := owns_same hown hs; replace hcur := hs.blk hcur
    clear hs
    gi_wp2
    refine opsR_loneZ rfl rfl fun wr hs => ?_
    replace HB := hs.pre HB; replace hown := owns_same hown hs; replace hcur := hs.blk hcur
    clear hs
    have z3 := (hP.grow HB hP.lt).cell 3
    have y3 := (hP.grow HB hP.lt).frozen 3
    simp at z3
    gi_wp2
    clear z3 y3
    refine opsR_nil fit ?_
    have ltP := hP.lt
    replace hown := owns_poke (BO := BP) (j := 3) (u := .slice (some ⟨gp, 0, none⟩) b.ps.length cp) hown ltP
    obtain ⟨-, base, cap, hv, hrows⟩ := owns_pays hown
    have hv' : base = some ⟨gp, 0, none⟩ ∧ cap = cp := by simp at hv; exact ⟨hv.1.symm, hv.2.symm⟩
    obtain ⟨rfl, rfl⟩ := hv'
    replace E := E.pokeG (j := 3) (v := .slice (some ⟨gp, 0, none⟩) b.ps.length cap) h0 HB loP (by omega)
    replace hcur := hcur.set (j := 3) (show BP ≠ gp by omega) (.slice (some ⟨gp, 0, none⟩) b.ps.length cap)
    replace hP := (hP.grow HB hP.lt).put 3 (.slice (some ⟨gp, 0, none⟩) b.ps.length cap)
    simp only [Lay.rarr, List.setIfInBounds_toArray, List.set_cons_zero, List.set_cons_succ] at hP
    have neP : BP ≠ gp := by omega
    have neB : B ≠ gp := by omega
    have logp' : w.heap.size ≤ gp := by omega
    clear hv hown HB ltP logp
    generalize World.setCell _ _ _ = W2 at *
    simp only [thenR]
    obtain ⟨k, ek⟩ : ∃ k : Nat, which % (b.ps.length : Int) = k := ⟨(which % (b.ps.length : Int)).toNat, by have := Int.emod_nonneg which (show (b.ps.length : Int) ≠ 0 by omega); omega⟩
    have hk : k < b.ps.length := by have := Int.emod_lt_of_pos which (show (0 : Int) < b.ps.length by omega); omega
    refine wpR_thenZ fun wr hs => ?_
    replace E := E.same hs
    replace hP := hs.blk hP
    replace hcur := hs.blk hcur
    replace hrows := RowsAt.mono (N' := wr.heap.size) (rows_same hrows hs) (Nat.le_of_eq (by rw [hs.heap]))
    clear hs
    have p0 := hP.cell 0; have p1 := hP.cell 1; have p2 := hP.cell 2; have p3 := hP.cell 3; simp at p0 p1 p2 p3; have ltP := hP.lt
    have hz' : ¬ ((b.ps.length : Int) = 0) := by omega
    have hkI : (k : Int) < b.ps.length := by omega
    gi_wp2_with fail
    gi_big_quiet_th (fail)
    gi_wp2
    simp only [thenR]
    have hdr := below_drewN wr nq
    replace E := E.below hdr
    replace hP := hP.below hdr
    replace hcur := hcur.below hdr
    replace hrows := (RowsAt.growN hrows (Grow.of hdr)).mono hdr.size
    clear hdr p0 p1 p2 p3 ltP
    generalize wr.drewN nq = W3 at *
    refine wpR_thenZ fun wr hs => ?_
    replace E := E.same hs
    replace hP := hs.blk hP
    replace hcur := hs.blk hcur
    replace hrows := RowsAt.mono (N' := wr.heap.size) (rows_same hrows hs) (Nat.le_of_eq (by rw [hs.heap]))
    clear hs
    have hp := hR.p (b.payAt k) (by rw [payAt_get hk]; exact List.getElem_mem hk)
    obtain ⟨bq, oq, eq1, -, e3⟩ := hrows k (b.payAt k).row (by rw [List.getElem?_map, List.getElem?_eq_getElem hk, payAt_get hk]; rfl)
    cases eq1
    have c1 := e3 1 _ rfl
    rw [Nat.zero_add] at c1
    clear e3
    have y1 := hcur.frozen (k * 5 + 1)
    have ltg := hcur.lt
    obtain ⟨dy, hdy⟩ : ∃ dy, (b.payAt k).day = dy := ⟨_, rfl⟩
    rw [hdy] at c1 hp
    obtain ⟨r1, r2⟩ := hp.2.1
    have HDY := Lib.hid hdy
    clear hp hdy ek
    gi_wp2
    have hB0 : BP < wr.heap.size := hP.lt
    have hrows2 := rows_early hcur hrows hk (max 0 (dy - by_))
    have hps : b.ps.set k { b.ps[k] with day := max 0 (dy - by_) } = (b.early k by_).ps := by
     simp only [RBook.early]; rw [payAt_get hk, ← HDY.out, payAt_get hk]
    rw [hps] at hrows2
    replace E := E.pokeG (j := k * 5 + 1) (v := .int .i64 (max 0 (dy - by_))) h0 (Grow.refl _ _) logp' (by omega)
    replace hP := hP.set (j := k * 5 + 1) (show gp ≠ BP by omega) (.int .i64 (max 0 (dy - by_)))
    have hB2 : RBkAt _ { l with pb := some ⟨gp, 0, none⟩, pc := cap } (b.early k by_) _ := E.bk.with_ (cap := cap) E.g.size (Nat.le_refl _) (hrows2.mono (Nat.le_of_eq (World.size_setCell ..).symm))
    clear hrows hrows2 hcur hps c1 y1 ltg HDY r1 r2 hB0
    generalize wr.setCell _ _ = W4 at *
    simp only [thenR]
    have hlen : (b.early k by_).ps.length = b.ps.length := by simp [RBook.early]
    refine wpR_seq fit (wpR_region fit ?_)
    simp only [List.size_toArray, List.length_cons, List.length_nil, Nat.reduceAdd, List.range, List.range.loop]
    refine opsR_loneZ rfl rfl fun wr hs => ?_
    replace E := E.same hs
    replace hP := hs.blk hP
    replace hB2 := hB2.gr (hs.g _)
    clear hs
    have g0 := E.bx.cell 0; have g1 := E.bx.cell 1; have g2 := E.bx.cell 2; have g3 := E.bx.cell 3; simp at g0 g1 g2 g3; have ltB := E.bx.lt
    gi_wp2
    clear g0 g1 g2 g3 ltB
    refine opsR_loneZ rfl rfl fun wr hs => ?_
    replace E := E.same hs
    replace hP := hs.blk hP
    replace hB2 := hB2.gr (hs.g _)
    clear hs
    have p0 := hP.cell 0; have p1 := hP.cell 1; have p2 := hP.cell 2; have p3 := hP.cell 3; simp at p0 p1 p2 p3; have ltP := hP.lt
    gi_wp2
    clear p0 p1 p2 p3 ltP
    refine opsR_loneZ rfl rfl fun wr hs => ?_
    replace E := E.same hs
    replace hP := hs.blk hP
    replace hB2 := hB2.gr (hs.g _)
    clear hs
    have hR2 := early_right hR hk d0
    have hl := lasts_in (E.bk.to hR) (hB2.to hR2) hf hR2.full E.kd (Nat.le_refl _) (early_lasts hR hst hk d0)
    rw [RBook.to_val, RBook.to_val] at hl
    simp only [Lay.rarr, hlen] at hl
    simp only [RBook.early] at hl
    gi_wp2_with (gi_at_call 39; with_reducible refine hl.mono ?_; rintro e w3 ⟨rfl, hb3⟩)
    replace E := E.below hb3
    clear hl hb3
    refine opsR_loneZ rfl rfl fun wr hs => ?_
    replace E := E.same hs
    clear hs
    gi_wp2
    refine opsR_callZ rfl rfl rfl Tryz.func17 (by kernel_rfl) body17 (vals := #[]) (by simp) (paid_R E.kd (Nat.le_trans hlim E.g.size)) ?_
    rintro u w5 S5 ⟨rfl, hg5⟩
    replace E := E.grow hg5
    clear hg5
    refine opsR_loneZ rfl rfl fun wr hs => ?_
    replace E := E.same hs
    clear hs
    gi_wp2
    refine opsR_loneZ rfl rfl fun wr hs => ?_
    replace E := E.same hs
    clear hs
    gi_wp2
    refine opsR_nil fit ?_
    refine wpR_ret fit ?_
    exact ⟨rfl, .bool true, fun τ d => by rw [results_tmp rfl]; rfl, rfl, E.g⟩
 ·refine wpR_cond fit (t := true) rfl ?_
  simp only [if_true]
  refine wpR_seq fit (wpR_region fit ?_)
  simp only [List.size_toArray, List.length_cons, List.length_nil, Nat.reduceAdd, List.range, List.range.loop]
  refine opsR_callZ rfl rfl rfl Tryz.func17 (by kernel_rfl) body17 (vals := #[]) (by simp) (paid_R E.kd (Nat.le_trans hlim E.g.size)) ?_
  rintro u w5 S5 ⟨rfl, hg5⟩
  replace E := E.grow hg5
  clear hg5
  refine opsR_loneZ rfl rfl fun wr hs => ?_
  replace E := E.same hs
  clear hs
  gi_wp2
  refine opsR_nil fit ?_
  refine wpR_ret fit ?_
  exact ⟨rfl, .bool true, fun τ d => by rw [results_tmp rfl]; rfl, rfl, E.g⟩
end Go.Proofs.YtnkejaohnhpbpaaGreatDoor
