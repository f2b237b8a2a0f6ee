/- FeeSums, beside leavers. PRINTED BY A PROGRAM. -/
import Derived.Test.YtnkejaohnhpbpaaGreatDoorA36
import Derived.Test.YtnkejaohnhpbpaaGreatDoorA40
import Derived.Test.YtnkejaohnhpbpaaGreatDoorA48
set_option linter.all false
namespace Go.Proofs.YtnkejaohnhpbpaaGreatDoor
open Go Go.Conc Go.RowKit Lift
set_option maxHeartbeats 16000000 in
set_option maxRecDepth 1000000 in
theorem law6 [Keep] {w : World} {l : Lay} {b : RBook} (hbk : RBkAt w.heap.size l b w) (hcap : b.coins.length ≤ l.cc) (hkd : KindsAt w) (hlim : Keep.lim ≤ w.heap.size) {day : Int} (d0 : 0 ≤ day) (d1 : day ≤ 65535) :
  Raw Tryz.prog (AtLeave Tryz.prog 6 Tryz.f6 fun v w1 S1 => v = .bool true ∧ GrowS w.heap.size w (fun _ => False) w1 S1) (G (Frame.enter Tryz.prog 6 #[.agg (l.rarr b), .int .u16 day] .normal) []) w (fun _ => False) := by
 refine raw_of_wpR fit (by simp) Tryz.func6 rfl ?_
 generalize (fun _ => False : Blks) = S
 simp only [Tryz.ntmps6, List.size_toArray, List.length_cons, List.length_nil, Nat.reduceAdd, Nat.reduceSub, Array.replicate_succ, Array.replicate_zero, List.push_toArray, List.append_toArray, List.nil_append, List.cons_append]
 refine wpR_thenZ fun wa hs => ?_
 gi_wp2
 have E : LawAt w S w.heap.size l b wa.heap.size (wa.alloc (.cells (l.rarr b) 27)) S := by
  have hsz : wa.heap.size = w.heap.size := by rw [hs.heap]
  have hg : Grow w.heap.size w (wa.alloc (.cells (l.rarr b) 27)) := hs.grow ((Below.refl w.heap.size wa).alloc (by omega) _)
  exact ⟨hg.s, hbk.grow hg, Blk.new _ _ _, by omega, hkd.grow hg hkd.lt⟩
 clear hs hbk hkd
 generalize wa.alloc _ = W at *
 generalize wa.heap.size = B at *
 refine wpR_seq fit ?_
 refine wpR_lawZ E fun wb E => ?_
 have g0 := E.bx.cell 0; have g1 := E.bx.cell 1; have g2 := E.bx.cell 2; have g3 := E.bx.cell 3; simp at g0 g1 g2 g3; have ltB := E.bx.lt
 have hcall := Fit_in E.bk hcap
 gi_wp2_with (gi_at_call 35; with_reducible refine hcall.mono ?_; rintro e w2 ⟨⟨r, rfl, hr⟩, hb2⟩; replace E := E.below hb2; clear g0 g1 g2 g3 ltB hb2; have g0 := E.bx.cell 0; have g1 := E.bx.cell 1; have g2 := E.bx.cell 2; have g3 := E.bx.cell 3; simp at g0 g1 g2 g3; have ltB := E.bx.lt; rcases r with _ | _)
 ·refine wpR_cond fit (t := true) rfl ?_
  simp only [if_true]
  refine wpR_seq fit (wpR_region fit ?_)
  simp only [List.size_toArray, List.length_cons, List.length_nil, Nat.reduceAdd, List.range, List.range.loop]
  refine opsR_callZ rfl rfl rfl Tryz.func17 (by kernel_rfl) body17 (vals := #[]) (by simp) (paid_R E.kd (Nat.le_trans hlim E.g.size)) ?_
  rintro u w5 S5 ⟨rfl, hg5⟩
  replace E := E.grow hg5
  clear hg5
  refine opsR_loneZ rfl rfl fun wr hs => ?_
  replace E := E.same hs
  clear hs
  gi_wp2
  refine opsR_nil fit ?_
  refine wpR_ret fit ?_
  exact ⟨rfl, .bool true, fun τ d => by rw [results_tmp rfl]; rfl, rfl, E.g⟩
 ·have hR : b.Right := hr (by trivial)
  have hf := hR.full
  refine wpR_cond fit (t := false) rfl ?_
  simp only [Bool.false_eq_true, if_false]
  refine wpR_skip fit ?_
  clear g0 g1 g2 g3 ltB
  clear hr
  refine wpR_lawZ E fun wr E => ?_
  gi_wp2
  obtain ⟨n, en⟩ : ∃ n : Nat, day % 10000 = n := ⟨(day % 10000).toNat, by omega⟩
  have hn : n ≤ 9999 := by omega
  rw [en]
  clear en
  refine wpR_seq fit ?_
  refine wpR_lawZ E fun wr E => ?_
  gi_wp2
  refine wpR_block fit ?_
  refine wpR_loop fit (fun k a w' S' => ∃ j : Nat, j ≤ b.coins.length ∧ k = b.coins.length - j ∧ LawAt w S w.heap.size l b B w' S' ∧ ∃ u3 u7 u8 u9 u10 u11 u12 u13 u14 u15 u16 u17 u18 u19 u20 u21 u22 u23 u24 u25 u26 u27 u28 u29 u30 u31 u32 u33 u34 u35 u36 u37 u38 u39 u40 u41 u42 u43 u44 u45 u46 u47 u48 u49 u50 u51 u52 u53 u54 u55 u56 u57 u58 u59 u60 u61 u62 u63 u64 u65 u66 u67 u68 u69 u70 u71 u72 u73 u74 u75 u76 u77 u78 u79 u80 u81 u82 u83 u84 u85 u86 u87 u88 u89 u90 u91 u92 u93 u94 u95 u96 u97 u98 : Value, a = ⟨#[.agg (l.rarr b), .int .u16 day, .pointer (some ⟨B, 0, none⟩), u3, .bool false, .int .i64 n, .int .i64 j, u7, u8, u9, u10, u11, u12, u13, u14, u15, u16, u17, u18, u19, u20, u21, u22, u23, u24, u25, u26, u27, u28, u29, u30, u31, u32, u33, u34, u35, u36, u37, u38, u39, u40, u41, u42, u43, u44, u45, u46, u47, u48, u49, u50, u51, u52, u53, u54, u55, u56, u57, u58, u59, u60, u61, u62, u63, u64, u65, u66, u67, u68, u69, u70, u71, u72, u73, u74, u75, u76, u77, u78, u79, u80, u81, u82, u83, u84, u85, u86, u87, u88, u89, u90, u91, u92, u93, u94, u95, u96, u97, u98], []⟩) b.coins.length ?start ?_
  case start => refine ⟨0, Nat.zero_le _, rfl, E, ?_⟩; (repeat apply Exists.intro); rfl
  clear E
  rintro k a w1 S1 ⟨j, hj, rfl, E, hfr⟩
  obtain ⟨u3, hfr⟩ := hfr; obtain ⟨u7, hfr⟩ := hfr; obtain ⟨u8, hfr⟩ := hfr; obtain ⟨u9, hfr⟩ := hfr; obtain ⟨u10, hfr⟩ := hfr; obtain ⟨u11, hfr⟩ := hfr; obtain ⟨u12, hfr⟩ := hfr; obtain ⟨u13, hfr⟩ := hfr; obtain ⟨u14, hfr⟩ := hfr; obtain ⟨u15, hfr⟩ := hfr; obtain ⟨u16, hfr⟩ := hfr; obtain ⟨u17, hfr⟩ := hfr; obtain ⟨u18, hfr⟩ := hfr; obtain ⟨u19, hfr⟩ := hfr; obtain ⟨u20, hfr⟩ := hfr; obtain ⟨u21, hfr⟩ := hfr; obtain ⟨u22, hfr⟩ := hfr; obtain ⟨u23, hfr⟩ := hfr; obtain ⟨u24, hfr⟩ := hfr; obtain ⟨u25, hfr⟩ := hfr; obtain ⟨u26, hfr⟩ := hfr; obtain ⟨u27, hfr⟩ := hfr; obtain ⟨u28, hfr⟩ := hfr; obtain ⟨u29, hfr⟩ := hfr; obtain ⟨u30, hfr⟩ := hfr; obtain ⟨u31, hfr⟩ := hfr; obtain ⟨u32, hfr⟩ := hfr; obtain ⟨u33, hfr⟩ := hfr; obtain ⟨u34, hfr⟩ := hfr; obtain ⟨u35, hfr⟩ := hfr; obtain ⟨u36, hfr⟩ := hfr; obtain ⟨u37, hfr⟩ := hfr; obtain ⟨u38, hfr⟩ := hfr; obtain ⟨u39, hfr⟩ := hfr; obtain ⟨u40, hfr⟩ := hfr; obtain ⟨u41, hfr⟩ := hfr; obtain ⟨u42, hfr⟩ := hfr; obtain ⟨u43, hfr⟩ := hfr; obtain ⟨u44, hfr⟩ := hfr; obtain ⟨u45, hfr⟩ := hfr; obtain ⟨u46, hfr⟩ := hfr; obtain ⟨u47, hfr⟩ := hfr; obtain ⟨u48, hfr⟩ := hfr; obtain ⟨u49, hfr⟩ := hfr; obtain ⟨u50, hfr⟩ := hfr; obtain ⟨u51, hfr⟩ := hfr; obtain ⟨u52, hfr⟩ := hfr; obtain ⟨u53, hfr⟩ := hfr; obtain ⟨u54, hfr⟩ := hfr; obtain ⟨u55, hfr⟩ := hfr; obtain ⟨u56, hfr⟩ := hfr; obtain ⟨u57, hfr⟩ := hfr; obtain ⟨u58, hfr⟩ := hfr; obtain ⟨u59, hfr⟩ := hfr; obtain ⟨u60, hfr⟩ := hfr; obtain ⟨u61, hfr⟩ := hfr; obtain ⟨u62, hfr⟩ := hfr; obtain ⟨u63, hfr⟩ := hfr; obtain ⟨u64, hfr⟩ := hfr; obtain ⟨u65, hfr⟩ := hfr; obtain ⟨u66, hfr⟩ := hfr; obtain ⟨u67, hfr⟩ := hfr; obtain ⟨u68, hfr⟩ := hfr; obtain ⟨u69, hfr⟩ := hfr; obtain ⟨u70, hfr⟩ := hfr; obtain ⟨u71, hfr⟩ := hfr; obtain ⟨u72, hfr⟩ := hfr; obtain ⟨u73, hfr⟩ := hfr; obtain ⟨u74, hfr⟩ := hfr; obtain ⟨u75, hfr⟩ := hfr; obtain ⟨u76, hfr⟩ := hfr; obtain ⟨u77, hfr⟩ := hfr; obtain ⟨u78, hfr⟩ := hfr; obtain ⟨u79, hfr⟩ := hfr; obtain ⟨u80, hfr⟩ := hfr; obtain ⟨u81, hfr⟩ := hfr; obtain ⟨u82, hfr⟩ := hfr; obtain ⟨u83, hfr⟩ := hfr; obtain ⟨u84, hfr⟩ := hfr; obtain ⟨u85, hfr⟩ := hfr; obtain ⟨u86, hfr⟩ := hfr; obtain ⟨u87, hfr⟩ := hfr; obtain ⟨u88, hfr⟩ := hfr; obtain ⟨u89, hfr⟩ := hfr; obtain ⟨u90, hfr⟩ := hfr; obtain ⟨u91, hfr⟩ := hfr; obtain ⟨u92, hfr⟩ := hfr; obtain ⟨u93, hfr⟩ := hfr; obtain ⟨u94, hfr⟩ := hfr; obtain ⟨u95, hfr⟩ := hfr; obtain ⟨u96, hfr⟩ := hfr; obtain ⟨u97, hfr⟩ := hfr; obtain ⟨u98, hfr⟩ := hfr
  subst hfr
  refine wpR_seq fit ?_
  by_cases hlt : j < b.coins.length
  ·have hltI : decide ((j : Int) < b.coins.length) = true := decide_eq_true (by omega)
   refine wpR_lawZ E fun wr E => ?_
   have g0 := E.bx.cell 0; have g1 := E.bx.cell 1; have g2 := E.bx.cell 2; have g3 := E.bx.cell 3; simp at g0 g1 g2 g3; have ltB := E.bx.lt
   gi_wp2
   clear g0 g1 g2 g3 ltB
   refine wpR_cond fit (t := true) rfl ?_
   simp only [if_true]
   refine wpR_skip fit ?_
   simp only [thenR]
   refine wpR_seq fit ?_
   refine wpR_block fit ?_
   refine wpR_seq fit ?_
   refine wpR_region fit ?_
   simp only [List.size_toArray, List.length_cons, List.length_nil, Nat.reduceAdd, List.range, List.range.loop]
   refine opsR_loneZ rfl rfl fun wr hs => ?_
   replace E := E.same hs
   clear hs
   have g0 := E.bx.cell 0; have g1 := E.bx.cell 1; have g2 := E.bx.cell 2; have g3 := E.bx.cell 3; simp at g0 g1 g2 g3; have ltB := E.bx.lt
   gi_wp2
   clear g0 g1 g2 g3 ltB
   refine opsR_loneZ rfl rfl fun wr hs => ?_
   replace E := E.same hs
   clear hs
   gi_wp2
   refine opsR_loneZ rfl rfl fun wr hs => ?_
   replace E := E.same hs
   clear hs
   gi_wp2
   refine opsR_callZ rfl rfl rfl Tryz.func26 (by kernel_rfl) body26 (vals := #[.agg (l.rarr b), .int .i64 j, .int .i64 n]) (by simp [Act.eval]) (by rw [← RBook.to_val]; exact Balance_R (E.bk.to hR) hf E.kd (Nat.le_trans hlim E.g.size) hlt (by omega) (by omega)) ?_
   rintro u w5 S5 ⟨rfl, hg5⟩
   replace E := E.grow hg5
   clear hg5
   obtain ⟨s1, s2, s3, s4, s5, s6⟩ := sums_are hf hlt hn
   generalize (b.to.after n).acc j = xA at *
   generalize b.to.heldOf (b.to.after n) j = xH at *
   generalize (b.to.after n).tkn j = xT at *
   generalize (b.to.after n).pd j = xP at *
   have HS := Lib.hid (And.intro s1 (And.intro s2 (And.intro s3 (And.intro s4 (And.intro s5 s6)))))
   clear s1 s2 s3 s4 s5 s6
   have G := Grow.refl w5.heap.size w5
   refine opsR_loneZ rfl rfl fun wr1 hs => ?_
   replace G := hs.pre G
   clear hs
   gi_wp2
   refine opsR_loneZ rfl rfl fun wr2 hs => ?_
   replace G := hs.pre G
   clear hs
   gi_wp2
   refine opsR_loneZ rfl rfl fun wr3 hs => ?_
   replace G := hs.pre G
   clear hs
   gi_wp2
   refine opsR_loneZ rfl rfl fun wc hs => ?_
   replace G := hs.pre G
   clear hs
   gi_wp2
   have hz : Blk (wc.alloc (.cells zero41 41)) wc.heap.size 41 zero41 := Blk.new wc zero41 41
   have lo := G.size
   replace G := G.trans ((Grow.of ((Below.refl _ wc).alloc (Nat.le_refl _) (.cells zero41 41))).mono G.size)
   refine opsR_loneZ rfl rfl fun wd hs => ?_
   replace hz := hs.blk hz
   replace G := hs.pre G
   clear hs
   generalize wc.heap.size = nB at *
   have z0 := hz.cell 0; have z1 := hz.cell 1; have z2 := hz.cell 2; have z3 := hz.cell 3
   have y0 := hz.frozen 0; have y1 := hz.frozen 1; have y2 := hz.frozen 2; have y3 := hz.frozen 3
   simp [zero41] at z0 z1 z2 z3
   gi_wp2
   have hX := (((hz.put 0 (.int .i64 xA)).put 1 (.int .i64 xH)).put 2 (.int .i64 xT)).put 3 (.int .i64 xP)
   simp only [zero41, List.setIfInBounds_toArray, List.set_cons_zero, List.set_cons_succ] at hX
   replace G := G.trans (Grow.of (((((Below.refl _ wd).setCell (p := ⟨nB, 0, none⟩) lo (.int .i64 xA)).setCell (p := ⟨nB, 1, none⟩) lo (.int .i64 xH)).setCell (p := ⟨nB, 2, none⟩) lo (.int .i64 xT)).setCell (p := ⟨nB, 3, none⟩) lo (.int .i64 xP)))
   clear z0 z1 z2 z3 y0 y1 y2 y3 hz
   refine opsR_loneZ rfl rfl fun we hs => ?_
   replace hX := hs.blk hX
   replace G := hs.pre G
   clear hs
   gi_wp2
   refine opsR_nil fit ?_
   replace E := E.grow G.s
   clear G lo
   simp only [thenR]
   refine wpR_loneZ fun wq hs => ?_
   replace E := E.same hs
   replace hX := hs.blk hX
   clear hs
   have g0 := E.bx.cell 0; have g1 := E.bx.cell 1; have g2 := E.bx.cell 2; have g3 := E.bx.cell 3; simp at g0 g1 g2 g3; have ltB := E.bx.lt
   have x0 := hX.cell 0; have x1 := hX.cell 1; have x2 := hX.cell 2; have x3 := hX.cell 3; simp at x0 x1 x2 x3; have ltX := hX.lt
   obtain ⟨s1, s2, s3, rfl, s5, s6⟩ := HS.out
   clear HS
   rw [to_pslen] at s5
   have HP := Lib.hid s5
   clear s5
   have q1 : ¬ (xA < 0) := by omega
   have q2 : ¬ (xH < 0) := by omega
   have q3 : ¬ (xT < 0) := by omega
   have hnp := hR.np
   gi_wp2
   clear g0 g1 g2 g3 ltB
   clear x0 x1 x2 x3 ltX
   gi_loopw [9, 10] (fun s i wx => Below wq.heap.size wq wx ∧ ∃ m : Nat, m ≤ b.ps.length ∧ i = .int .i64 m ∧ s = .int .i64 (b.to.paidTo j n m)) (fun _ i _ => b.ps.length - (intOf i).toNat)
   case atStart => exact ⟨Below.refl _ _, 0, Nat.zero_le _, rfl, rfl⟩
   case round =>
    obtain ⟨hb, m, hm, rfl, rfl⟩ := hrel
    replace E := E.below hb
    replace hX := hX.below hb
    have g0 := E.bx.cell 0; have g1 := E.bx.cell 1; have g2 := E.bx.cell 2; have g3 := E.bx.cell 3; simp at g0 g1 g2 g3; have ltB := E.bx.lt
    by_cases hl : m < b.ps.length
    ·clear hX
     have hstep := paidTo_R hR hl j n
     have hbd := paidTo_bound hf.v j n m (by rw [to_pslen]; omega)
     have hp := hR.p (b.payAt m) (by rw [payAt_get hl]; exact List.getElem_mem hl)
     obtain ⟨pb, po, e1, e2, e3⟩ := E.bk.ps m (b.payAt m).row (by rw [List.getElem?_map, List.getElem?_eq_getElem hl, payAt_get hl]; rfl)
     have c0 := e3 0 _ rfl; have c1 := e3 1 _ rfl; have c2 := e3 2 _ rfl; have c3 := e3 3 _ rfl; have c4 := e3 4 _ rfl
     simp only [Nat.add_zero] at c0
     have hpl : pb < wr.heap.size := Nat.lt_of_lt_of_le e2 E.bk.hN
     rw [e1] at g3
     clear e1 e2 e3
     generalize b.to.paidTo j n m = sm at *
     generalize b.payAt m = pay at *
     obtain ⟨kd, dy, co, am, ca⟩ := pay
     simp only at hstep hp c0 c1 c2 c3 c4
     obtain ⟨h1, h2, ⟨h3, h4⟩, h5, -⟩ := hp
     have HT := Lib.hid hstep
     clear hstep h1 h2 h5
     obtain ⟨b1, b2⟩ := hbd
     have b3 : sm ≤ 100000 := by omega
     clear b2
     have HB := Lib.hid hb
     clear hb
     by_cases k1 : kd = 2
     ·subst k1
      gi_wp2
      go_roundw
      case rel => exact ⟨HB.out.trans (((Below.refl _ wr).alloc (Nat.le_refl _) _).mono HB.out.size), m + 1, by omega, by go_num, by rw [HT.out, if_neg (by simp)]; simp⟩
      case measure => simp [intOf]; omega
     ·have k1' : (kd == 2) = false := by simp [k1]
      by_cases k2 : co = j
      ·subst k2
       by_cases k3 : dy ≤ n
       ·gi_wp2
        go_roundw
        case rel => exact ⟨HB.out.trans (((Below.refl _ wr).alloc (Nat.le_refl _) _).mono HB.out.size), m + 1, by omega, by go_num, by rw [HT.out, if_pos ⟨k1, rfl, k3⟩]⟩
        case measure => simp [intOf]; omega
       ·gi_wp2
        go_roundw
        case rel => exact ⟨HB.out.trans (((Below.refl _ wr).alloc (Nat.le_refl _) _).mono HB.out.size), m + 1, by omega, by go_num, by rw [HT.out, if_neg fun q => k3 q.2.2]; simp⟩
        case measure => simp [intOf]; omega
      ·have k2' : (co == (j : Int)) = false := by simp [k2]
       gi_wp2
       go_roundw
       case rel => exact ⟨HB.out.trans (((Below.refl _ wr).alloc (Nat.le_refl _) _).mono HB.out.size), m + 1, by omega, by go_num, by rw [HT.out, if_neg fun q => k2 q.2.1]; simp⟩
       case measure => simp [intOf]; omega
    ·obtain rfl : m = b.ps.length := by omega
     rw [← HP.out]
     clear hb HP
     have x0 := hX.cell 0; have x1 := hX.cell 1; have x2 := hX.cell 2; have x3 := hX.cell 3; simp at x0 x1 x2 x3; have ltX := hX.lt
     gi_wp2
     simp only [inBlockR, thenR]
     clear g0 g1 g2 g3 ltB
     clear x0 x1 x2 x3 ltX
     refine wpR_loneZ fun wz hs => ?_
     replace E := E.same hs
     clear hs
     have hnc := hR.nc
     gi_wp2
     simp only [thenR]
     rw [show ((j : Int) + 1) = ((j + 1 : Nat) : Int) from rfl]
     refine ⟨b.coins.length - (j + 1), by omega, j + 1, by omega, rfl, E, ?_⟩
     (repeat apply Exists.intro)
     rfl
  ·obtain rfl : j = b.coins.length := by omega
   refine wpR_lawZ E fun wr E => ?_
   have g0 := E.bx.cell 0; have g1 := E.bx.cell 1; have g2 := E.bx.cell 2; have g3 := E.bx.cell 3; simp at g0 g1 g2 g3; have ltB := E.bx.lt
   gi_wp2
   clear g0 g1 g2 g3 ltB
   refine wpR_cond fit (t := false) rfl ?_
   simp only [Bool.false_eq_true, if_false]
   refine wpR_exit fit ?_
   simp only [thenR, inBlockR, if_true]
   refine wpR_seq fit (wpR_region fit ?_)
   simp only [List.size_toArray, List.length_cons, List.length_nil, Nat.reduceAdd, List.range, List.range.loop]
   refine opsR_callZ rfl rfl rfl Tryz.func17 (by kernel_rfl) body17 (vals := #[]) (by simp) (paid_R E.kd (Nat.le_trans hlim E.g.size)) ?_
   rintro u w5 S5 ⟨rfl, hg5⟩
   replace E := E.grow hg5
   clear hg5
   refine opsR_loneZ rfl rfl fun wr hs => ?_
   replace E := E.same hs
   clear hs
   gi_wp2
   refine opsR_nil fit ?_
   refine wpR_ret fit ?_
   exact ⟨rfl, .bool true, fun τ d => by rw [results_tmp rfl]; rfl, rfl, E.g⟩
end Go.Proofs.YtnkejaohnhpbpaaGreatDoor
