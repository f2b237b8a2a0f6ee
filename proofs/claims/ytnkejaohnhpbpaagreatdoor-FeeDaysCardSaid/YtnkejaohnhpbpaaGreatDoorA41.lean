/- FeeDays, beside leavers. PRINTED BY A PROGRAM (l8.py). -/
import Derived.Test.YtnkejaohnhpbpaaGreatDoorA36
import Derived.Test.YtnkejaohnhpbpaaGreatDoorA40
set_option linter.all false
namespace Go.Proofs.YtnkejaohnhpbpaaGreatDoor
open Go Go.Conc Go.RowKit Lift
theorem feeRaw_snd (ba ea fr cl du gr ex day : Int) (hg : 0 ≤ gr) : (feeRaw ba ea fr cl du gr ex day).2 = decide (day ≤ du + gr) := by
 unfold feeRaw
 by_cases h1 : day ≤ du
 ·rw [if_pos h1]
  exact (decide_eq_true (by omega)).symm
 ·rw [if_neg h1]
  by_cases h2 : day ≤ du + gr
  ·rw [if_pos h2, decide_eq_true h2]
  ·rw [if_neg h2, decide_eq_false h2]
theorem to_casAt {b : RBook} {k : Nat} (hk : k < b.cs.length) : b.to.casAt k = (b.casAt k).to := by
 unfold Book.casAt RBook.casAt RBook.to
 simp only [List.getD_eq_getElem?_getD, List.getElem?_map, List.getElem?_eq_getElem hk, Option.map_some, Option.getD_some]
theorem fee_dueR {b : RBook} (hR : b.Right) {k : Nat} (hk : k < b.cs.length) (n : Int) : (b.to.fee k n).2 = decide (n ≤ (b.casAt k).due + (b.casAt k).grace) := by
 have row := hR.k (b.casAt k) (by rw [casAt_get hk]; exact List.getElem_mem hk)
 have h := feeRaw_snd (b.to.tarOf k).base (b.to.tarOf k).each (b.to.tarOf k).free (b.casAt k).classes (b.casAt k).due (b.casAt k).grace (b.casAt k).extra n row.2.2.2.1.1
 unfold Book.fee
 rw [to_casAt hk]
 exact h
set_option maxHeartbeats 16000000 in
set_option maxRecDepth 1000000 in
theorem law8 [Keep] {w : World} {l : Lay} {b : RBook} (hbk : RBkAt w.heap.size l b w) (hcap : b.coins.length ≤ l.cc) (hkd : KindsAt w) (hlim : Keep.lim ≤ w.heap.size) {c day : Int} (c0 : 0 ≤ c) (c1 : c ≤ 255) (d0 : 0 ≤ day) (d1 : day ≤ 65535) :
  Raw Tryz.prog (AtLeave Tryz.prog 8 Tryz.f8 fun v w1 S1 => v = .bool true ∧ GrowS w.heap.size w (fun _ => False) w1 S1) (G (Frame.enter Tryz.prog 8 #[.agg (l.rarr b), .int .u8 c, .int .u16 day] .normal) []) w (fun _ => False) := by
 refine raw_of_wpR fit (by simp) Tryz.func8 rfl ?_
 generalize (fun _ => False : Blks) = S
 simp only [Tryz.ntmps8, List.size_toArray, List.length_cons, List.length_nil, Nat.reduceAdd, Nat.reduceSub, Array.replicate_succ, Array.replicate_zero, List.push_toArray, List.append_toArray, List.nil_append, List.cons_append]
 refine wpR_thenZ fun wa hs => ?_
 gi_wp2
 have E : LawAt w S w.heap.size l b wa.heap.size (wa.alloc (.cells (l.rarr b) 27)) S := by
  have hsz : wa.heap.size = w.heap.size := by rw [hs.heap]
  have hg : Grow w.heap.size w (wa.alloc (.cells (l.rarr b) 27)) := hs.grow ((Below.refl w.heap.size wa).alloc (by omega) _)
  exact ⟨hg.s, hbk.grow hg, Blk.new _ _ _, by omega, hkd.grow hg hkd.lt⟩
 clear hs hbk hkd
 generalize wa.alloc _ = W at *
 generalize wa.heap.size = B at *
 by_cases hz : b.cs.length = 0
 ·have hzb : ((b.cs.length : Int) == 0) = true := by simp [hz]
  clear hz
  refine wpR_seq fit ?_
  refine wpR_lawZ E fun wb E => ?_
  have g0 := E.bx.cell 0; have g1 := E.bx.cell 1; have g2 := E.bx.cell 2; have g3 := E.bx.cell 3; simp at g0 g1 g2 g3; have ltB := E.bx.lt
  have hcall := Fit_in E.bk hcap
  gi_wp2_with (gi_at_call 35; with_reducible refine hcall.mono ?_; rintro e w2 ⟨⟨r, rfl, hr⟩, hb2⟩; replace E := E.below hb2; clear g0 g1 g2 g3 ltB hb2; have g0 := E.bx.cell 0; have g1 := E.bx.cell 1; have g2 := E.bx.cell 2; have g3 := E.bx.cell 3; simp at g0 g1 g2 g3; have ltB := E.bx.lt)
  all_goals
   refine wpR_cond fit (t := true) rfl ?_
   simp only [if_true]
   refine wpR_seq fit (wpR_region fit ?_)
   simp only [List.size_toArray, List.length_cons, List.length_nil, Nat.reduceAdd, List.range, List.range.loop]
   refine opsR_callZ rfl rfl rfl Tryz.func17 (by kernel_rfl) body17 (vals := #[]) (by simp) (paid_R E.kd (Nat.le_trans hlim E.g.size)) ?_
   rintro u w5 S5 ⟨rfl, hg5⟩
   replace E := E.grow hg5
   clear hg5
   refine opsR_loneZ rfl rfl fun wr hs => ?_
   replace E := E.same hs
   clear hs
   gi_wp2
   refine opsR_nil fit ?_
   refine wpR_ret fit ?_
   exact ⟨rfl, .bool true, fun τ d => by rw [results_tmp rfl]; rfl, rfl, E.g⟩
 ·have hzb : ((b.cs.length : Int) == 0) = false := by simp [hz]
  have hpos : 0 < b.cs.length := by omega
  have HP := Lib.hid hpos
  clear hz hpos
  refine wpR_seq fit ?_
  refine wpR_lawZ E fun wb E => ?_
  have g0 := E.bx.cell 0; have g1 := E.bx.cell 1; have g2 := E.bx.cell 2; have g3 := E.bx.cell 3; simp at g0 g1 g2 g3; have ltB := E.bx.lt
  have hcall := Fit_in E.bk hcap
  gi_wp2_with (gi_at_call 35; with_reducible refine hcall.mono ?_; rintro e w2 ⟨⟨r, rfl, hr⟩, hb2⟩; replace E := E.below hb2; clear g0 g1 g2 g3 ltB hb2; have g0 := E.bx.cell 0; have g1 := E.bx.cell 1; have g2 := E.bx.cell 2; have g3 := E.bx.cell 3; simp at g0 g1 g2 g3; have ltB := E.bx.lt)
  ·have hR : b.Right := hr (by assumption)
   have hf := hR.full
   refine wpR_cond fit (t := false) rfl ?_
   simp only [Bool.false_eq_true, if_false]
   refine wpR_skip fit ?_
   clear g0 g1 g2 g3 ltB
   refine wpR_lawZ E fun wr E => ?_
   have g0 := E.bx.cell 0; have g1 := E.bx.cell 1; have g2 := E.bx.cell 2; have g3 := E.bx.cell 3; simp at g0 g1 g2 g3; have ltB := E.bx.lt
   have hz' : ¬ ((b.cs.length : Int) = 0) := by have := HP.out; omega
   gi_wp2
   clear g0 g1 g2 g3 ltB hz' hzb
   obtain ⟨k, ek⟩ : ∃ k : Nat, c % (b.cs.length : Int) = k := ⟨(c % (b.cs.length : Int)).toNat, by have := HP.out; have := Int.emod_nonneg c (show (b.cs.length : Int) ≠ 0 by omega); omega⟩
   obtain ⟨n, en⟩ : ∃ n : Nat, day % 10000 = n := ⟨(day % 10000).toNat, by omega⟩
   have hk : k < b.cs.length := by have := HP.out; have := Int.emod_lt_of_pos c (show (0 : Int) < b.cs.length by omega); omega
   have hn : n ≤ 9999 := by omega
   have hk' : k < b.to.cs.length := by simpa [RBook.to] using hk
   rw [ek, en]
   clear ek en hr HP
   have HD := Lib.hid (days_are hf.v hk' hn)
   have HDE := Lib.hid (fee_dueR hR hk n)
   obtain ⟨x, hx⟩ : ∃ x, (b.to.after 9999).cases k = x := ⟨_, rfl⟩
   obtain ⟨y, hy⟩ : ∃ y, (b.to.after n).cases k = y := ⟨_, rfl⟩
   obtain ⟨fe, hfe⟩ : ∃ fe, b.to.fee k n = fe := ⟨_, rfl⟩
   obtain ⟨kp, hkp⟩ : ∃ kp, (x.state == 1 && x.held == 0) = kp := ⟨_, rfl⟩
   refine wpR_lawZ E fun wr E => ?_
   have g0 := E.bx.cell 0; have g1 := E.bx.cell 1; have g2 := E.bx.cell 2; have g3 := E.bx.cell 3; simp at g0 g1 g2 g3; have ltB := E.bx.lt
   have hcall := Kept_in (E.bk.to hR) hf E.kd hk'
   rw [RBook.to_val, hx, hkp] at hcall
   gi_wp2_with (gi_at_call 24; with_reducible refine hcall.mono ?_; rintro e w4 ⟨rfl, hb4⟩)
   replace E := E.below hb4
   clear hb4 g0 g1 g2 g3 ltB hcall
   refine wpR_lawZ E fun wr E => ?_
   have g0 := E.bx.cell 0; have g1 := E.bx.cell 1; have g2 := E.bx.cell 2; have g3 := E.bx.cell 3; simp at g0 g1 g2 g3; have ltB := E.bx.lt
   have hcall := State_in (E.bk.to hR) hf E.kd hk' (day := n) (by omega) (by omega)
   rw [RBook.to_val, hy] at hcall
   gi_wp2_with (gi_at_call 22; with_reducible refine hcall.mono ?_; rintro e w4 ⟨rfl, hb4⟩)
   replace E := E.below hb4
   clear hb4 g0 g1 g2 g3 ltB hcall
   refine wpR_lawZ E fun wr E => ?_
   have g0 := E.bx.cell 0; have g1 := E.bx.cell 1; have g2 := E.bx.cell 2; have g3 := E.bx.cell 3; simp at g0 g1 g2 g3; have ltB := E.bx.lt
   have hcall := Fee_in (E.bk.to hR) hf hk' (day := n) (by omega) (by omega)
   rw [RBook.to_val, hfe] at hcall
   gi_wp2_with (gi_at_call 18; with_reducible refine hcall.mono ?_; rintro e w4 ⟨rfl, hb4⟩)
   replace E := E.below hb4
   clear hb4 g0 g1 g2 g3 ltB hcall
   have D := HD.out
   have hdue := HDE.out
   have Dg := D.gone
   have Dh := D.held0
   have Do := D.opn
   have Dn := D.never
   have Dd := D.day
   have Dy := D.ys
   rw [hx] at Dg Dh Dn Dd
   rw [hy] at Do Dn Dd Dy
   rw [hfe] at Do Dn hdue
   clear D HD HDE
   have HX := Lib.hid hx
   have HY := Lib.hid hy
   have HF := Lib.hid hfe
   clear hx hy hfe
   obtain ⟨xs, xh, xd, xf⟩ := x
   obtain ⟨ys, yh, yd, yf⟩ := y
   obtain ⟨nF, dF⟩ := fe
   simp only at hkp Dg Dh Do Dn Dd Dy hdue
   have row := hR.k (b.casAt k) (by rw [casAt_get hk]; exact List.getElem_mem hk)
   obtain ⟨kb, ko, e1, e2, e3⟩ := E.bk.ks k (b.casAt k).row (by rw [List.getElem?_map, List.getElem?_eq_getElem hk, casAt_get hk]; rfl)
   clear e3
   obtain ⟨du, hdu⟩ : ∃ du, (b.casAt k).due = du := ⟨_, rfl⟩
   obtain ⟨gr, hgr⟩ : ∃ gr, (b.casAt k).grace = gr := ⟨_, rfl⟩
   rw [hdu, hgr] at row hdue
   have u1 := row.2.2.1
   have u2 := row.2.2.2.1
   clear row
   have HDU := Lib.hid hdu
   have HGR := Lib.hid hgr
   clear hdu hgr
   cases kp with
   | false =>
    have hx1 : ¬ xs = 1 := fun h => by
     have := Dh h
     subst h this
     simp at hkp
    obtain ⟨rfl, rfl⟩ := Dg hx1
    obtain ⟨n1, n2⟩ := Dn hx1
    clear Dg Dh Dn Dd Dy hkp
    cases dF with
    | true =>
     obtain rfl := n1.2 rfl
     obtain ⟨-, o1, -⟩ := Do rfl
     have hle : (n : Int) ≤ du + gr := of_decide_eq_true hdue.symm
     have hle2 : decide ((n : Int) ≤ du + gr) = true := hdue.symm
     have o2 : ¬ (nF ≤ yh) := by omega
     have o3 : decide (nF ≤ yh) = false := decide_eq_false o2
     clear n1 n2 Do hdue hx1
     refine wpR_seq fit ?_
     refine wpR_lawZ E fun wr E => ?_
     gi_wp2
     refine wpR_cond fit (t := false) rfl ?_
     simp only [Bool.false_eq_true, if_false]
     refine wpR_skip fit ?_
     refine wpR_seq fit ?_
     refine wpR_lawZ E fun wr E => ?_
     have g0 := E.bx.cell 0; have g1 := E.bx.cell 1; have g2 := E.bx.cell 2; have g3 := E.bx.cell 3; simp at g0 g1 g2 g3; have ltB := E.bx.lt
     rw [e1] at g2
     obtain ⟨kb', ko', f1, f2, f3⟩ := E.bk.ks k (b.casAt k).row (by rw [List.getElem?_map, List.getElem?_eq_getElem hk, casAt_get hk]; rfl)
     rw [e1] at f1
     cases f1
     have r3 := f3 3 _ rfl
     have r4 := f3 4 _ rfl
     simp only [HDU.out, HGR.out] at r3 r4
     have ltK := Nat.lt_of_lt_of_le f2 E.bk.hN
     have hkI : (k : Int) < b.cs.length := by omega
     clear f3
     gi_wp2_with fail
     gi_big_quiet_th (fail)
     gi_wp2
     replace E := E.below (below_drewN _ nq)
     clear g0 g1 g2 g3 ltB r3 r4 ltK f2
     refine wpR_cond fit (t := false) rfl ?_
     simp only [Bool.false_eq_true, if_false]
     refine wpR_skip fit ?_
     refine wpR_seq fit ?_
     refine wpR_lawZ E fun wr E => ?_
     gi_wp2
     refine wpR_cond fit (t := true) rfl ?_
     simp only [if_true]
     refine wpR_seq fit (wpR_region fit ?_)
     simp only [List.size_toArray, List.length_cons, List.length_nil, Nat.reduceAdd, List.range, List.range.loop]
     refine opsR_loneZ rfl rfl fun wr hs => ?_
     replace E := E.same hs
     clear hs
     gi_wp2
     refine opsR_loneZ rfl rfl fun wr hs => ?_
     replace E := E.same hs
     clear hs
     gi_wp2
     refine opsR_loneZ rfl rfl fun wr hs => ?_
     replace E := E.same hs
     clear hs
     gi_wp2
     refine opsR_loneZ rfl rfl fun wr hs => ?_
     replace E := E.same hs
     clear hs
     gi_wp2
     refine opsR_loneZ rfl rfl fun wr hs => ?_
     replace E := E.same hs
     clear hs
     gi_wp2
     refine opsR_loneZ rfl rfl fun wr hs => ?_
     replace E := E.same hs
     clear hs
     gi_wp2
     refine opsR_loneZ rfl rfl fun wr hs => ?_
     replace E := E.same hs
     clear hs
     gi_wp2
     refine opsR_loneZ rfl rfl fun wr hs => ?_
     replace E := E.same hs
     clear hs
     gi_wp2
     refine opsR_loneZ rfl rfl fun wr hs => ?_
     replace E := E.same hs
     clear hs
     gi_wp2
     refine opsR_loneZ rfl rfl fun wr hs => ?_
     replace E := E.same hs
     clear hs
     gi_wp2
     refine opsR_loneZ rfl rfl fun wr hs => ?_
     replace E := E.same hs
     clear hs
     gi_wp2
     refine opsR_loneZ rfl rfl fun wr hs => ?_
     replace E := E.same hs
     clear hs
     gi_wp2
     refine opsR_callZ rfl rfl rfl Tryz.func17 (by kernel_rfl) body17 (vals := #[]) (by simp) (paid_R E.kd (Nat.le_trans hlim E.g.size)) ?_
     rintro u w5 S5 ⟨rfl, hg5⟩
     replace E := E.grow hg5
     clear hg5
     refine opsR_loneZ rfl rfl fun wr hs => ?_
     replace E := E.same hs
     clear hs
     gi_wp2
     refine opsR_loneZ rfl rfl fun wr hs => ?_
     replace E := E.same hs
     clear hs
     gi_wp2
     refine opsR_nil fit ?_
     refine wpR_ret fit ?_
     exact ⟨rfl, .bool true, fun τ d => by rw [results_tmp rfl]; rfl, rfl, E.g⟩
    | false =>
     obtain rfl := n2.2 rfl
     have hle : ¬ ((n : Int) ≤ du + gr) := of_decide_eq_false hdue.symm
     have hle2 : decide ((n : Int) ≤ du + gr) = false := hdue.symm
     clear n1 n2 Do hdue hx1
     refine wpR_seq fit ?_
     refine wpR_lawZ E fun wr E => ?_
     gi_wp2
     refine wpR_cond fit (t := false) rfl ?_
     simp only [Bool.false_eq_true, if_false]
     refine wpR_skip fit ?_
     refine wpR_seq fit ?_
     refine wpR_lawZ E fun wr E => ?_
     have g0 := E.bx.cell 0; have g1 := E.bx.cell 1; have g2 := E.bx.cell 2; have g3 := E.bx.cell 3; simp at g0 g1 g2 g3; have ltB := E.bx.lt
     rw [e1] at g2
     obtain ⟨kb', ko', f1, f2, f3⟩ := E.bk.ks k (b.casAt k).row (by rw [List.getElem?_map, List.getElem?_eq_getElem hk, casAt_get hk]; rfl)
     rw [e1] at f1
     cases f1
     have r3 := f3 3 _ rfl
     have r4 := f3 4 _ rfl
     simp only [HDU.out, HGR.out] at r3 r4
     have ltK := Nat.lt_of_lt_of_le f2 E.bk.hN
     have hkI : (k : Int) < b.cs.length := by omega
     clear f3
     gi_wp2_with fail
     gi_big_quiet_th (fail)
     gi_wp2
     replace E := E.below (below_drewN _ nq)
     clear g0 g1 g2 g3 ltB r3 r4 ltK f2
     refine wpR_cond fit (t := false) rfl ?_
     simp only [Bool.false_eq_true, if_false]
     refine wpR_skip fit ?_
     refine wpR_seq fit ?_
     refine wpR_lawZ E fun wr E => ?_
     gi_wp2
     refine wpR_cond fit (t := true) rfl ?_
     simp only [if_true]
     refine wpR_seq fit (wpR_region fit ?_)
     simp only [List.size_toArray, List.length_cons, List.length_nil, Nat.reduceAdd, List.range, List.range.loop]
     refine opsR_loneZ rfl rfl fun wr hs => ?_
     replace E := E.same hs
     clear hs
     gi_wp2
     refine opsR_loneZ rfl rfl fun wr hs => ?_
     replace E := E.same hs
     clear hs
     gi_wp2
     refine opsR_loneZ rfl rfl fun wr hs => ?_
     replace E := E.same hs
     clear hs
     gi_wp2
     refine opsR_loneZ rfl rfl fun wr hs => ?_
     replace E := E.same hs
     clear hs
     gi_wp2
     refine opsR_loneZ rfl rfl fun wr hs => ?_
     replace E := E.same hs
     clear hs
     gi_wp2
     refine opsR_loneZ rfl rfl fun wr hs => ?_
     replace E := E.same hs
     clear hs
     gi_wp2
     refine opsR_loneZ rfl rfl fun wr hs => ?_
     replace E := E.same hs
     clear hs
     gi_wp2
     refine opsR_loneZ rfl rfl fun wr hs => ?_
     replace E := E.same hs
     clear hs
     gi_wp2
     refine opsR_loneZ rfl rfl fun wr hs => ?_
     replace E := E.same hs
     clear hs
     gi_wp2
     refine opsR_loneZ rfl rfl fun wr hs => ?_
     replace E := E.same hs
     clear hs
     gi_wp2
     refine opsR_loneZ rfl rfl fun wr hs => ?_
     replace E := E.same hs
     clear hs
     gi_wp2
     refine opsR_loneZ rfl rfl fun wr hs => ?_
     replace E := E.same hs
     clear hs
     gi_wp2
     refine opsR_callZ rfl rfl rfl Tryz.func17 (by kernel_rfl) body17 (vals := #[]) (by simp) (paid_R E.kd (Nat.le_trans hlim E.g.size)) ?_
     rintro u w5 S5 ⟨rfl, hg5⟩
     replace E := E.grow hg5
     clear hg5
     refine opsR_loneZ rfl rfl fun wr hs => ?_
     replace E := E.same hs
     clear hs
     gi_wp2
     refine opsR_loneZ rfl rfl fun wr hs => ?_
     replace E := E.same hs
     clear hs
     gi_wp2
     refine opsR_nil fit ?_
     refine wpR_ret fit ?_
     exact ⟨rfl, .bool true, fun τ d => by rw [results_tmp rfl]; rfl, rfl, E.g⟩
   | true =>
    simp only [Bool.and_eq_true, beq_iff_eq] at hkp
    obtain ⟨rfl, rfl⟩ := hkp
    obtain ⟨p1, p2, p3, p4, p5⟩ := Dd rfl
    clear Dg Dh Dn Dd
    have q1 : ¬ (xd < 0) := by omega
    have q2 : ¬ (9999 < xd) := by omega
    have q3 : decide (xd < 0) = false := decide_eq_false q1
    have q4 : decide ((9999 : Int) < xd) = false := decide_eq_false q2
    by_cases hnd : xd ≤ n
    ·obtain rfl := p3.2 hnd
     have hnd' : ¬ ((n : Int) < xd) := by omega
     have q5 : decide (xd ≤ (n : Int)) = true := decide_eq_true hnd
     have q6 : decide ((n : Int) < xd) = false := decide_eq_false hnd'
     clear p3 p4 Do Dy
     cases dF with
     | true =>
      have hle : (n : Int) ≤ du + gr := of_decide_eq_true hdue.symm
      have hle2 : decide ((n : Int) ≤ du + gr) = true := hdue.symm
      clear hdue
      refine wpR_seq fit ?_
      refine wpR_lawZ E fun wr E => ?_
      gi_wp2
      refine wpR_cond fit (t := false) rfl ?_
      simp only [Bool.false_eq_true, if_false]
      refine wpR_skip fit ?_
      refine wpR_seq fit ?_
      refine wpR_lawZ E fun wr E => ?_
      have g0 := E.bx.cell 0; have g1 := E.bx.cell 1; have g2 := E.bx.cell 2; have g3 := E.bx.cell 3; simp at g0 g1 g2 g3; have ltB := E.bx.lt
      rw [e1] at g2
      obtain ⟨kb', ko', f1, f2, f3⟩ := E.bk.ks k (b.casAt k).row (by rw [List.getElem?_map, List.getElem?_eq_getElem hk, casAt_get hk]; rfl)
      rw [e1] at f1
      cases f1
      have r3 := f3 3 _ rfl
      have r4 := f3 4 _ rfl
      simp only [HDU.out, HGR.out] at r3 r4
      have ltK := Nat.lt_of_lt_of_le f2 E.bk.hN
      have hkI : (k : Int) < b.cs.length := by omega
      clear f3
      gi_wp2_with fail
      gi_big_quiet_th (fail)
      gi_wp2
      replace E := E.below (below_drewN _ nq)
      clear g0 g1 g2 g3 ltB r3 r4 ltK f2
      refine wpR_cond fit (t := false) rfl ?_
      simp only [Bool.false_eq_true, if_false]
      refine wpR_skip fit ?_
      refine wpR_seq fit ?_
      refine wpR_lawZ E fun wr E => ?_
      gi_wp2
      refine wpR_cond fit (t := false) rfl ?_
      simp only [Bool.false_eq_true, if_false]
      refine wpR_skip fit ?_
      refine wpR_seq fit ?_
      refine wpR_lawZ E fun wr E => ?_
      gi_wp2
      refine wpR_cond fit (t := false) rfl ?_
      simp only [Bool.false_eq_true, if_false]
      refine wpR_skip fit ?_
      refine wpR_lawZ E fun wr E => ?_
      have g0 := E.bx.cell 0; have g1 := E.bx.cell 1; have g2 := E.bx.cell 2; have g3 := E.bx.cell 3; simp at g0 g1 g2 g3; have ltB := E.bx.lt
      have hcall := Fee_in (E.bk.to hR) hf hk' (day := xd) (by omega) (by omega)
      rw [RBook.to_val, p5] at hcall
      simp only [Lay.rarr, e1] at hcall
      gi_wp2_with (gi_at_call 18; with_reducible refine hcall.mono ?_; rintro e w4 ⟨rfl, hb4⟩)
      replace E := E.below hb4
      clear hb4 g0 g1 g2 g3 ltB hcall
      refine wpR_seq fit (wpR_region fit ?_)
      simp only [List.size_toArray, List.length_cons, List.length_nil, Nat.reduceAdd, List.range, List.range.loop]
      refine opsR_loneZ rfl rfl fun wr hs => ?_
      replace E := E.same hs
      clear hs
      gi_wp2
      refine opsR_loneZ rfl rfl fun wr hs => ?_
      replace E := E.same hs
      clear hs
      gi_wp2
      refine opsR_loneZ rfl rfl fun wr hs => ?_
      replace E := E.same hs
      clear hs
      gi_wp2
      refine opsR_loneZ rfl rfl fun wr hs => ?_
      replace E := E.same hs
      clear hs
      gi_wp2
      refine opsR_loneZ rfl rfl fun wr hs => ?_
      replace E := E.same hs
      clear hs
      gi_wp2
      refine opsR_loneZ rfl rfl fun wr hs => ?_
      replace E := E.same hs
      clear hs
      gi_wp2
      refine opsR_loneZ rfl rfl fun wr hs => ?_
      replace E := E.same hs
      clear hs
      gi_wp2
      refine opsR_loneZ rfl rfl fun wr hs => ?_
      replace E := E.same hs
      clear hs
      gi_wp2
      refine opsR_loneZ rfl rfl fun wr hs => ?_
      replace E := E.same hs
      clear hs
      gi_wp2
      refine opsR_loneZ rfl rfl fun wr hs => ?_
      replace E := E.same hs
      clear hs
      gi_wp2
      refine opsR_loneZ rfl rfl fun wr hs => ?_
      replace E := E.same hs
      clear hs
      gi_wp2
      refine opsR_callZ rfl rfl rfl Tryz.func17 (by kernel_rfl) body17 (vals := #[]) (by simp) (paid_R E.kd (Nat.le_trans hlim E.g.size)) ?_
      rintro u w5 S5 ⟨rfl, hg5⟩
      replace E := E.grow hg5
      clear hg5
      refine opsR_loneZ rfl rfl fun wr hs => ?_
      replace E := E.same hs
      clear hs
      gi_wp2
      refine opsR_loneZ rfl rfl fun wr hs => ?_
      replace E := E.same hs
      clear hs
      gi_wp2
      refine opsR_nil fit ?_
      refine wpR_ret fit ?_
      exact ⟨rfl, .bool true, fun τ d => by rw [results_tmp rfl]; rfl, rfl, E.g⟩
     | false =>
      have hle : ¬ ((n : Int) ≤ du + gr) := of_decide_eq_false hdue.symm
      have hle2 : decide ((n : Int) ≤ du + gr) = false := hdue.symm
      clear hdue
      refine wpR_seq fit ?_
      refine wpR_lawZ E fun wr E => ?_
      gi_wp2
      refine wpR_cond fit (t := false) rfl ?_
      simp only [Bool.false_eq_true, if_false]
      refine wpR_skip fit ?_
      refine wpR_seq fit ?_
      refine wpR_lawZ E fun wr E => ?_
      have g0 := E.bx.cell 0; have g1 := E.bx.cell 1; have g2 := E.bx.cell 2; have g3 := E.bx.cell 3; simp at g0 g1 g2 g3; have ltB := E.bx.lt
      rw [e1] at g2
      obtain ⟨kb', ko', f1, f2, f3⟩ := E.bk.ks k (b.casAt k).row (by rw [List.getElem?_map, List.getElem?_eq_getElem hk, casAt_get hk]; rfl)
      rw [e1] at f1
      cases f1
      have r3 := f3 3 _ rfl
      have r4 := f3 4 _ rfl
      simp only [HDU.out, HGR.out] at r3 r4
      have ltK := Nat.lt_of_lt_of_le f2 E.bk.hN
      have hkI : (k : Int) < b.cs.length := by omega
      clear f3
      gi_wp2_with fail
      gi_big_quiet_th (fail)
      gi_wp2
      replace E := E.below (below_drewN _ nq)
      clear g0 g1 g2 g3 ltB r3 r4 ltK f2
      refine wpR_cond fit (t := false) rfl ?_
      simp only [Bool.false_eq_true, if_false]
      refine wpR_skip fit ?_
      refine wpR_seq fit ?_
      refine wpR_lawZ E fun wr E => ?_
      gi_wp2
      refine wpR_cond fit (t := false) rfl ?_
      simp only [Bool.false_eq_true, if_false]
      refine wpR_skip fit ?_
      refine wpR_seq fit ?_
      refine wpR_lawZ E fun wr E => ?_
      gi_wp2
      refine wpR_cond fit (t := false) rfl ?_
      simp only [Bool.false_eq_true, if_false]
      refine wpR_skip fit ?_
      refine wpR_lawZ E fun wr E => ?_
      have g0 := E.bx.cell 0; have g1 := E.bx.cell 1; have g2 := E.bx.cell 2; have g3 := E.bx.cell 3; simp at g0 g1 g2 g3; have ltB := E.bx.lt
      have hcall := Fee_in (E.bk.to hR) hf hk' (day := xd) (by omega) (by omega)
      rw [RBook.to_val, p5] at hcall
      simp only [Lay.rarr, e1] at hcall
      gi_wp2_with (gi_at_call 18; with_reducible refine hcall.mono ?_; rintro e w4 ⟨rfl, hb4⟩)
      replace E := E.below hb4
      clear hb4 g0 g1 g2 g3 ltB hcall
      refine wpR_seq fit (wpR_region fit ?_)
      simp only [List.size_toArray, List.length_cons, List.length_nil, Nat.reduceAdd, List.range, List.range.loop]
      refine opsR_loneZ rfl rfl fun wr hs => ?_
      replace E := E.same hs
      clear hs
      gi_wp2
      refine opsR_loneZ rfl rfl fun wr hs => ?_
      replace E := E.same hs
      clear hs
      gi_wp2
      refine opsR_loneZ rfl rfl fun wr hs => ?_
      replace E := E.same hs
      clear hs
      gi_wp2
      refine opsR_loneZ rfl rfl fun wr hs => ?_
      replace E := E.same hs
      clear hs
      gi_wp2
      refine opsR_loneZ rfl rfl fun wr hs => ?_
      replace E := E.same hs
      clear hs
      gi_wp2
      refine opsR_loneZ rfl rfl fun wr hs => ?_
      replace E := E.same hs
      clear hs
      gi_wp2
      refine opsR_loneZ rfl rfl fun wr hs => ?_
      replace E := E.same hs
      clear hs
      gi_wp2
      refine opsR_loneZ rfl rfl fun wr hs => ?_
      replace E := E.same hs
      clear hs
      gi_wp2
      refine opsR_loneZ rfl rfl fun wr hs => ?_
      replace E := E.same hs
      clear hs
      gi_wp2
      refine opsR_loneZ rfl rfl fun wr hs => ?_
      replace E := E.same hs
      clear hs
      gi_wp2
      refine opsR_loneZ rfl rfl fun wr hs => ?_
      replace E := E.same hs
      clear hs
      gi_wp2
      refine opsR_callZ rfl rfl rfl Tryz.func17 (by kernel_rfl) body17 (vals := #[]) (by simp) (paid_R E.kd (Nat.le_trans hlim E.g.size)) ?_
      rintro u w5 S5 ⟨rfl, hg5⟩
      replace E := E.grow hg5
      clear hg5
      refine opsR_loneZ rfl rfl fun wr hs => ?_
      replace E := E.same hs
      clear hs
      gi_wp2
      refine opsR_loneZ rfl rfl fun wr hs => ?_
      replace E := E.same hs
      clear hs
      gi_wp2
      refine opsR_nil fit ?_
      refine wpR_ret fit ?_
      exact ⟨rfl, .bool true, fun τ d => by rw [results_tmp rfl]; rfl, rfl, E.g⟩
    ·have hnd' : (n : Int) < xd := by omega
     have q5 : decide (xd ≤ (n : Int)) = false := decide_eq_false hnd
     have q6 : decide ((n : Int) < xd) = true := decide_eq_true hnd'
     obtain rfl := p4 hnd'
     obtain ⟨rfl, o1, -⟩ := Do rfl
     have hle : (n : Int) ≤ du + gr := of_decide_eq_true hdue.symm
     have hle2 : decide ((n : Int) ≤ du + gr) = true := hdue.symm
     have o2 : ¬ (nF ≤ yh) := by omega
     have o3 : decide (nF ≤ yh) = false := decide_eq_false o2
     clear p3 p4 Do Dy hdue
     refine wpR_seq fit ?_
     refine wpR_lawZ E fun wr E => ?_
     gi_wp2
     refine wpR_cond fit (t := false) rfl ?_
     simp only [Bool.false_eq_true, if_false]
     refine wpR_skip fit ?_
     refine wpR_seq fit ?_
     refine wpR_lawZ E fun wr E => ?_
     have g0 := E.bx.cell 0; have g1 := E.bx.cell 1; have g2 := E.bx.cell 2; have g3 := E.bx.cell 3; simp at g0 g1 g2 g3; have ltB := E.bx.lt
     rw [e1] at g2
     obtain ⟨kb', ko', f1, f2, f3⟩ := E.bk.ks k (b.casAt k).row (by rw [List.getElem?_map, List.getElem?_eq_getElem hk, casAt_get hk]; rfl)
     rw [e1] at f1
     cases f1
     have r3 := f3 3 _ rfl
     have r4 := f3 4 _ rfl
     simp only [HDU.out, HGR.out] at r3 r4
     have ltK := Nat.lt_of_lt_of_le f2 E.bk.hN
     have hkI : (k : Int) < b.cs.length := by omega
     clear f3
     gi_wp2_with fail
     gi_big_quiet_th (fail)
     gi_wp2
     replace E := E.below (below_drewN _ nq)
     clear g0 g1 g2 g3 ltB r3 r4 ltK f2
     refine wpR_cond fit (t := false) rfl ?_
     simp only [Bool.false_eq_true, if_false]
     refine wpR_skip fit ?_
     refine wpR_seq fit ?_
     refine wpR_lawZ E fun wr E => ?_
     gi_wp2
     refine wpR_cond fit (t := false) rfl ?_
     simp only [Bool.false_eq_true, if_false]
     refine wpR_skip fit ?_
     refine wpR_seq fit ?_
     refine wpR_lawZ E fun wr E => ?_
     gi_wp2
     refine wpR_cond fit (t := false) rfl ?_
     simp only [Bool.false_eq_true, if_false]
     refine wpR_skip fit ?_
     refine wpR_lawZ E fun wr E => ?_
     have g0 := E.bx.cell 0; have g1 := E.bx.cell 1; have g2 := E.bx.cell 2; have g3 := E.bx.cell 3; simp at g0 g1 g2 g3; have ltB := E.bx.lt
     have hcall := Fee_in (E.bk.to hR) hf hk' (day := xd) (by omega) (by omega)
     rw [RBook.to_val, p5] at hcall
     simp only [Lay.rarr, e1] at hcall
     gi_wp2_with (gi_at_call 18; with_reducible refine hcall.mono ?_; rintro e w4 ⟨rfl, hb4⟩)
     replace E := E.below hb4
     clear hb4 g0 g1 g2 g3 ltB hcall
     refine wpR_seq fit (wpR_region fit ?_)
     simp only [List.size_toArray, List.length_cons, List.length_nil, Nat.reduceAdd, List.range, List.range.loop]
     refine opsR_loneZ rfl rfl fun wr hs => ?_
     replace E := E.same hs
     clear hs
     gi_wp2
     refine opsR_loneZ rfl rfl fun wr hs => ?_
     replace E := E.same hs
     clear hs
     gi_wp2
     refine opsR_loneZ rfl rfl fun wr hs => ?_
     replace E := E.same hs
     clear hs
     gi_wp2
     refine opsR_loneZ rfl rfl fun wr hs => ?_
     replace E := E.same hs
     clear hs
     gi_wp2
     refine opsR_loneZ rfl rfl fun wr hs => ?_
     replace E := E.same hs
     clear hs
     gi_wp2
     refine opsR_loneZ rfl rfl fun wr hs => ?_
     replace E := E.same hs
     clear hs
     gi_wp2
     refine opsR_loneZ rfl rfl fun wr hs => ?_
     replace E := E.same hs
     clear hs
     gi_wp2
     refine opsR_loneZ rfl rfl fun wr hs => ?_
     replace E := E.same hs
     clear hs
     gi_wp2
     refine opsR_loneZ rfl rfl fun wr hs => ?_
     replace E := E.same hs
     clear hs
     gi_wp2
     refine opsR_loneZ rfl rfl fun wr hs => ?_
     replace E := E.same hs
     clear hs
     gi_wp2
     refine opsR_loneZ rfl rfl fun wr hs => ?_
     replace E := E.same hs
     clear hs
     gi_wp2
     refine opsR_callZ rfl rfl rfl Tryz.func17 (by kernel_rfl) body17 (vals := #[]) (by simp) (paid_R E.kd (Nat.le_trans hlim E.g.size)) ?_
     rintro u w5 S5 ⟨rfl, hg5⟩
     replace E := E.grow hg5
     clear hg5
     refine opsR_loneZ rfl rfl fun wr hs => ?_
     replace E := E.same hs
     clear hs
     gi_wp2
     refine opsR_loneZ rfl rfl fun wr hs => ?_
     replace E := E.same hs
     clear hs
     gi_wp2
     refine opsR_nil fit ?_
     refine wpR_ret fit ?_
     exact ⟨rfl, .bool true, fun τ d => by rw [results_tmp rfl]; rfl, rfl, E.g⟩
  ·refine wpR_cond fit (t := true) rfl ?_
   simp only [if_true]
   refine wpR_seq fit (wpR_region fit ?_)
   simp only [List.size_toArray, List.length_cons, List.length_nil, Nat.reduceAdd, List.range, List.range.loop]
   refine opsR_callZ rfl rfl rfl Tryz.func17 (by kernel_rfl) body17 (vals := #[]) (by simp) (paid_R E.kd (Nat.le_trans hlim E.g.size)) ?_
   rintro u w5 S5 ⟨rfl, hg5⟩
   replace E := E.grow hg5
   clear hg5
   refine opsR_loneZ rfl rfl fun wr hs => ?_
   replace E := E.same hs
   clear hs
   gi_wp2
   refine opsR_nil fit ?_
   refine wpR_ret fit ?_
   exact ⟨rfl, .bool true, fun τ d => by rw [results_tmp rfl]; rfl, rfl, E.g⟩
end Go.Proofs.YtnkejaohnhpbpaaGreatDoor
