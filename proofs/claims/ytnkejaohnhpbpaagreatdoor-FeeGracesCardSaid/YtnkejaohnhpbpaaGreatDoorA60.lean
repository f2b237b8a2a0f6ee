/- FeeGraces, beside leavers. PRINTED BY A PROGRAM. -/
import Derived.Test.YtnkejaohnhpbpaaGreatDoorA36
import Derived.Test.YtnkejaohnhpbpaaGreatDoorA59
set_option linter.all false
namespace Go.Proofs.YtnkejaohnhpbpaaGreatDoor
open Go Go.Conc Go.RowKit Lift
set_option maxHeartbeats 16000000 in
set_option maxRecDepth 1000000 in
theorem law12 [Keep] {w : World} {l : Lay} {b : RBook} (hbk : RBkAt w.heap.size l b w) (hcap : b.coins.length ≤ l.cc) (hkd : KindsAt w) (hlim : Keep.lim ≤ w.heap.size) {which kind by_ : Int} (c0 : 0 ≤ which) (c1 : which ≤ 255) (e0 : 0 ≤ kind) (e1 : kind ≤ 255) (d0 : 0 ≤ by_) (d1 : by_ ≤ 65535) :
  Raw Tryz.prog (AtLeave Tryz.prog 12 Tryz.f12 fun v w1 S1 => v = .bool true ∧ GrowS w.heap.size w (fun _ => False) w1 S1) (G (Frame.enter Tryz.prog 12 #[.agg (l.rarr b), .int .u8 which, .int .u8 kind, .int .u16 by_] .normal) []) w (fun _ => False) := by
 refine raw_of_wpR fit (by simp) Tryz.func12 rfl ?_
 generalize (fun _ => False : Blks) = S
 simp only [Tryz.ntmps12, List.size_toArray, List.length_cons, List.length_nil, Nat.reduceAdd, Nat.reduceSub, Array.replicate_succ, Array.replicate_zero, List.push_toArray, List.append_toArray, List.nil_append, List.cons_append]
 refine wpR_thenZ fun wa hs => ?_
 gi_wp2
 have E : LawAt w S w.heap.size l b wa.heap.size (wa.alloc (.cells (l.rarr b) 27)) S := by
  have hsz : wa.heap.size = w.heap.size := by rw [hs.heap]
  have hg : Grow w.heap.size w (wa.alloc (.cells (l.rarr b) 27)) := hs.grow ((Below.refl w.heap.size wa).alloc (by omega) _)
  exact ⟨hg.s, hbk.grow hg, Blk.new _ _ _, by omega, hkd.grow hg hkd.lt⟩
 have h0 := hkd.lt
 clear hs hbk hkd
 generalize wa.alloc _ = W at *
 generalize wa.heap.size = B at *
 by_cases hz : b.cs.length = 0
 ·have hzb : ((b.cs.length : Int) == 0) = true := by simp [hz]
  clear hz
  refine wpR_seq fit ?_
  refine wpR_lawZ E fun wb E => ?_
  have g0 := E.bx.cell 0; have g1 := E.bx.cell 1; have g2 := E.bx.cell 2; have g3 := E.bx.cell 3; simp at g0 g1 g2 g3; have ltB := E.bx.lt
  have hcall := Fit_in E.bk hcap
  gi_wp2_with (first
   | (gi_at_call 35; with_reducible refine hcall.mono ?_; rintro e w2 ⟨⟨r, rfl, hr⟩, hb2⟩; replace E := E.below hb2; clear g0 g1 g2 g3 ltB hb2; have g0 := E.bx.cell 0; have g1 := E.bx.cell 1; have g2 := E.bx.cell 2; have g3 := E.bx.cell 3; simp at g0 g1 g2 g3; have ltB := E.bx.lt; rcases r with _ | _)
   | (gi_at_call 38; with_reducible refine (moves_in E.bk (hr (by trivial)).np).mono ?_; rintro e w3 ⟨⟨q, rfl, hq⟩, hb3⟩; replace E := E.below hb3; clear g0 g1 g2 g3 ltB; have g0 := E.bx.cell 0; have g1 := E.bx.cell 1; have g2 := E.bx.cell 2; have g3 := E.bx.cell 3; simp at g0 g1 g2 g3; have ltB := E.bx.lt; rcases q with _ | _))
  all_goals
   refine wpR_cond fit (t := true) rfl ?_
   simp only [if_true]
   refine wpR_seq fit (wpR_region fit ?_)
   simp only [List.size_toArray, List.length_cons, List.length_nil, Nat.reduceAdd, List.range, List.range.loop]
   refine opsR_callZ rfl rfl rfl Tryz.func17 (by kernel_rfl) body17 (vals := #[]) (by simp) (paid_R E.kd (Nat.le_trans hlim E.g.size)) ?_
   rintro u w5 S5 ⟨rfl, hg5⟩
   replace E := E.grow hg5
   clear hg5
   refine opsR_loneZ rfl rfl fun wr hs => ?_
   replace E := E.same hs
   clear hs
   gi_wp2
   refine opsR_nil fit ?_
   refine wpR_ret fit ?_
   exact ⟨rfl, .bool true, fun τ d => by rw [results_tmp rfl]; rfl, rfl, E.g⟩
 ·have hzb : ((b.cs.length : Int) == 0) = false := by simp [hz]
  have hpos : 0 < b.cs.length := by omega
  have HP := Lib.hid hpos
  clear hz hpos
  refine wpR_seq fit ?_
  refine wpR_lawZ E fun wb E => ?_
  have g0 := E.bx.cell 0; have g1 := E.bx.cell 1; have g2 := E.bx.cell 2; have g3 := E.bx.cell 3; simp at g0 g1 g2 g3; have ltB := E.bx.lt
  have hcall := Fit_in E.bk hcap
  gi_wp2_with (first
   | (gi_at_call 35; with_reducible refine hcall.mono ?_; rintro e w2 ⟨⟨r, rfl, hr⟩, hb2⟩; replace E := E.below hb2; clear g0 g1 g2 g3 ltB hb2; have g0 := E.bx.cell 0; have g1 := E.bx.cell 1; have g2 := E.bx.cell 2; have g3 := E.bx.cell 3; simp at g0 g1 g2 g3; have ltB := E.bx.lt; rcases r with _ | _)
   | (gi_at_call 38; with_reducible refine (moves_in E.bk (hr (by trivial)).np).mono ?_; rintro e w3 ⟨⟨q, rfl, hq⟩, hb3⟩; replace E := E.below hb3; clear g0 g1 g2 g3 ltB; have g0 := E.bx.cell 0; have g1 := E.bx.cell 1; have g2 := E.bx.cell 2; have g3 := E.bx.cell 3; simp at g0 g1 g2 g3; have ltB := E.bx.lt; rcases q with _ | _))
  ·refine wpR_cond fit (t := true) rfl ?_
   simp only [if_true]
   refine wpR_seq fit (wpR_region fit ?_)
   simp only [List.size_toArray, List.length_cons, List.length_nil, Nat.reduceAdd, List.range, List.range.loop]
   refine opsR_callZ rfl rfl rfl Tryz.func17 (by kernel_rfl) body17 (vals := #[]) (by simp) (paid_R E.kd (Nat.le_trans hlim E.g.size)) ?_
   rintro u w5 S5 ⟨rfl, hg5⟩
   replace E := E.grow hg5
   clear hg5
   refine opsR_loneZ rfl rfl fun wr hs => ?_
   replace E := E.same hs
   clear hs
   gi_wp2
   refine opsR_nil fit ?_
   refine wpR_ret fit ?_
   exact ⟨rfl, .bool true, fun τ d => by rw [results_tmp rfl]; rfl, rfl, E.g⟩
  ·have hR : b.Right := hr (by trivial)
   have hf := hR.full
   have hst := hq (by trivial)
   have hts : b.ts.length ≠ 0 := by have h := hR.k (b.casAt 0) (by rw [casAt_get HP.out]; exact List.getElem_mem _); omega
   refine wpR_cond fit (t := false) rfl ?_
   simp only [Bool.false_eq_true, if_false]
   refine wpR_skip fit ?_
   clear g0 g1 g2 g3 ltB hr hq
   refine wpR_lawZ E fun wr E => ?_
   have g0 := E.bx.cell 0; have g1 := E.bx.cell 1; have g2 := E.bx.cell 2; have g3 := E.bx.cell 3; simp at g0 g1 g2 g3; have ltB := E.bx.lt
   gi_wp2
   clear g0 g1 g2 g3 ltB
   have ha : Below wr.heap.size wr (wr.alloc (.cells (l.rarr b) 27)) := (Below.refl _ wr).alloc (Nat.le_refl _) _
   have hO := Blk.new wr (l.rarr b) 27
   have hBO : B < wr.heap.size := E.bx.lt
   have loO : w.heap.size ≤ wr.heap.size := E.g.size
   replace E := E.below ha
   clear ha
   generalize wr.alloc _ = W at *
   generalize wr.heap.size = BO at *
   (try simp only [thenR])
   refine wpR_seq fit (wpR_region fit ?_)
   simp only [List.size_toArray, List.length_cons, List.length_nil, Nat.reduceAdd, List.range, List.range.loop]
   refine opsR_loneZ rfl rfl fun wx hs => ?_
   replace E := E.same hs
   replace hO := hO.gr (hs.g _)
   clear hs
   refine mk24_wp rfl ?_
   have hown0 : (wx.alloc (.cells #[] 60)).ownsRow wx.heap.size 60 6 (.slice (some ⟨wx.heap.size, 0, none⟩) 0 0) 0 [] := World.ownsRow_lit wx #[] 0 (Nat.le_refl _) (by decide) rfl
   have HB : Grow wx.heap.size wx (wx.alloc (.cells #[] 60)) := Grow.of ((Below.refl _ wx).alloc (Nat.le_refl _) _)
   generalize wx.alloc _ = W1 at *
   refine opsR_loneZ rfl rfl fun wr hs => ?_
   replace HB := hs.pre HB; replace hown0 := owns_same hown0 hs
   clear hs
   gi_wp2
   refine opsR_loneZ rfl rfl fun wr hs => ?_
   replace HB := hs.pre HB; replace hown0 := owns_same hown0 hs
   clear hs
   have q := E.bx.grow HB E.bx.lt
   have q0 := q.cell 0; have q1 := q.cell 1; have q2 := q.cell 2; have q3 := q.cell 3
   simp at q0 q1 q2 q3
   gi_wp2
   clear q q0 q1 q2 q3
   refine opsR_loneZ rfl rfl fun wr hs => ?_
   replace HB := hs.pre HB; replace hown0 := owns_same hown0 hs
   clear hs
   have hbg := E.bk.grow HB
   refine append_rows Tryz.underlying24 Tryz.infoK rfl (by decide) (by decide) (.tmp 27) (.tmp 29) rfl (rows := b.cs.map RCas.row) rfl hown0 rfl (by simp) (RowsAt.mono hbg.ks hbg.hN) (fun r hr => by obtain ⟨y, _, rfl⟩ := List.mem_map.1 hr; rfl) (fun r hr u hu => by obtain ⟨y, _, rfl⟩ := List.mem_map.1 hr; simp only [RCas.row, List.mem_cons, List.not_mem_nil, or_false] at hu; rcases hu with rfl | rfl | rfl | rfl | rfl | rfl <;> simp [Value.oneCell']) (by rw [List.length_map]; have := hR.nk; omega) HB.size fun v w2 hown hg => ?_
   replace HB := HB.trans (Grow.of (owns_bel hown0 hg HB.size))
   clear hg hown0 hbg
   obtain ⟨gK, cK, curK, rfl, loK, hcurK⟩ := owns_some1 hown (by rw [List.length_map]; have := HP.out; omega)
   simp only [List.length_map] at hown ⊢
   refine opsR_loneZ rfl rfl fun wr hs => ?_
   replace HB := hs.pre HB; replace hown := owns_same hown hs; replace hcurK := hs.blk hcurK
   clear hs
   gi_wp2
   refine opsR_loneZ rfl rfl fun wr hs => ?_
   replace HB := hs.pre HB; replace hown := owns_same hown hs; replace hcurK := hs.blk hcurK
   clear hs
   have z3 := (hO.grow HB hO.lt).cell 2
   have y3 := (hO.grow HB hO.lt).frozen 2
   simp at z3
   gi_wp2
   clear z3 y3
   refine opsR_nil fit ?_
   have ltO := hO.lt
   replace hown := owns_poke (BO := BO) (j := 2) (u := .slice (some ⟨gK, 0, none⟩) b.cs.length cK) hown ltO
   obtain ⟨base, cap, hv, hrowsK⟩ := owns_rows (fun r hr => by obtain ⟨y, _, rfl⟩ := List.mem_map.1 hr; rfl) hown (by simp)
   have hv' : base = some ⟨gK, 0, none⟩ ∧ cK = cap := by simp at hv; exact ⟨hv.1.symm, hv.2⟩
   obtain ⟨rfl, rfl⟩ := hv'
   replace E := E.pokeG (j := 2) (v := .slice (some ⟨gK, 0, none⟩) b.cs.length cK) h0 HB loO (by omega)
   replace hcurK := hcurK.set (j := 2) (show BO ≠ gK by omega) (.slice (some ⟨gK, 0, none⟩) b.cs.length cK)
   replace hO := (hO.grow HB hO.lt).put 2 (.slice (some ⟨gK, 0, none⟩) b.cs.length cK)
   simp only [Lay.rarr, List.setIfInBounds_toArray, List.set_cons_zero, List.set_cons_succ, List.length_map] at hO
   have neOK : BO ≠ gK := by omega
   have neBK : B ≠ gK := by omega
   have loK' : w.heap.size ≤ gK := by omega
   clear hv hown HB ltO loK
   generalize World.setCell _ _ _ = W2 at *
   (try simp only [thenR])
   refine wpR_seq fit (wpR_region fit ?_)
   simp only [List.size_toArray, List.length_cons, List.length_nil, Nat.reduceAdd, List.range, List.range.loop]
   refine opsR_loneZ rfl rfl fun wx hs => ?_
   replace E := E.same hs
   replace hO := hO.gr (hs.g _)
   replace hcurK := hcurK.gr (hs.g _)
   replace hrowsK := RowsAt.mono (N' := wx.heap.size) (rows_same hrowsK hs) (Nat.le_of_eq (by rw [hs.heap]))
   have ltK := hcurK.lt
   clear hs
   refine mk23_wp rfl ?_
   have hown0 : (wx.alloc (.cells #[] 69)).ownsRow wx.heap.size 69 5 (.slice (some ⟨wx.heap.size, 0, none⟩) 0 0) 0 [] := World.ownsRow_lit wx #[] 0 (Nat.le_refl _) (by decide) rfl
   have HB : Grow wx.heap.size wx (wx.alloc (.cells #[] 69)) := Grow.of ((Below.refl _ wx).alloc (Nat.le_refl _) _)
   generalize wx.alloc _ = W1 at *
   refine opsR_loneZ rfl rfl fun wr hs => ?_
   replace HB := hs.pre HB; replace hown0 := owns_same hown0 hs
   clear hs
   gi_wp2
   refine opsR_loneZ rfl rfl fun wr hs => ?_
   replace HB := hs.pre HB; replace hown0 := owns_same hown0 hs
   clear hs
   have q := E.bx.grow HB E.bx.lt
   have q0 := q.cell 0; have q1 := q.cell 1; have q2 := q.cell 2; have q3 := q.cell 3
   simp at q0 q1 q2 q3
   gi_wp2
   clear q q0 q1 q2 q3
   refine opsR_loneZ rfl rfl fun wr hs => ?_
   replace HB := hs.pre HB; replace hown0 := owns_same hown0 hs
   clear hs
   have hbg := E.bk.grow HB
   refine append_rows Tryz.underlying23 Tryz.infoT rfl (by decide) (by decide) (.tmp 32) (.tmp 34) rfl (rows := b.ts.map RTrf.row) rfl hown0 rfl (by simp) (RowsAt.mono hbg.ts hbg.hN) (fun r hr => by obtain ⟨y, _, rfl⟩ := List.mem_map.1 hr; rfl) (fun r hr u hu => by obtain ⟨y, _, rfl⟩ := List.mem_map.1 hr; simp only [RTrf.row, List.mem_cons, List.not_mem_nil, or_false] at hu; rcases hu with rfl | rfl | rfl | rfl | rfl <;> simp [Value.oneCell']) (by rw [List.length_map]; have := hR.nt; omega) HB.size fun v w2 hown hg => ?_
   replace HB := HB.trans (Grow.of (owns_bel hown0 hg HB.size))
   clear hg hown0 hbg
   obtain ⟨gT, cT, curT, rfl, loT, hcurT⟩ := owns_some1 hown (by rw [List.length_map]; exact hts)
   simp only [List.length_map] at hown ⊢
   refine opsR_loneZ rfl rfl fun wr hs => ?_
   replace HB := hs.pre HB; replace hown := owns_same hown hs; replace hcurT := hs.blk hcurT
   clear hs
   gi_wp2
   refine opsR_loneZ rfl rfl fun wr hs => ?_
   replace HB := hs.pre HB; replace hown := owns_same hown hs; replace hcurT := hs.blk hcurT
   clear hs
   have z3 := (hO.grow HB hO.lt).cell 1
   have y3 := (hO.grow HB hO.lt).frozen 1
   simp at z3
   gi_wp2
   clear z3 y3
   refine opsR_nil fit ?_
   have ltO := hO.lt
   replace hown := owns_poke (BO := BO) (j := 1) (u := .slice (some ⟨gT, 0, none⟩) b.ts.length cT) hown ltO
   obtain ⟨base, cap, hv, hrowsT⟩ := owns_rows (fun r hr => by obtain ⟨y, _, rfl⟩ := List.mem_map.1 hr; rfl) hown (by simp)
   have hv' : base = some ⟨gT, 0, none⟩ ∧ cT = cap := by simp at hv; exact ⟨hv.1.symm, hv.2⟩
   obtain ⟨rfl, rfl⟩ := hv'
   replace hcurK := (hcurK.grow HB ltK).set (j := 1) (show BO ≠ gK by omega) (.slice (some ⟨gT, 0, none⟩) b.ts.length cT)
   replace hrowsK := (RowsAt.poke (RowsAt.growN hrowsK HB) neOK (j := 1) (v := .slice (some ⟨gT, 0, none⟩) b.ts.length cT)).mono (N' := (wr.setCell ⟨BO, 1, none⟩ (.slice (some ⟨gT, 0, none⟩) b.ts.length cT)).heap.size) (by rw [World.size_setCell]; exact HB.size)
   replace E := E.pokeG (j := 1) (v := .slice (some ⟨gT, 0, none⟩) b.ts.length cT) h0 HB loO (by omega)
   replace hcurT := hcurT.set (j := 1) (show BO ≠ gT by omega) (.slice (some ⟨gT, 0, none⟩) b.ts.length cT)
   replace hO := (hO.grow HB hO.lt).put 1 (.slice (some ⟨gT, 0, none⟩) b.ts.length cT)
   simp only [Lay.rarr, List.setIfInBounds_toArray, List.set_cons_zero, List.set_cons_succ, List.length_map] at hO
   have neOT : BO ≠ gT := by omega
   have neBT : B ≠ gT := by omega
   have loT' : w.heap.size ≤ gT := by omega
   have neTK : gT ≠ gK := by omega
   clear hv hown HB ltO loT
   generalize World.setCell _ _ _ = W2 at *
   (try simp only [thenR])
   obtain ⟨k, ek⟩ : ∃ k : Nat, which % (b.cs.length : Int) = k := ⟨(which % (b.cs.length : Int)).toNat, by have := HP.out; have := Int.emod_nonneg which (show (b.cs.length : Int) ≠ 0 by omega); omega⟩
   have hk : k < b.cs.length := by have := HP.out; have := Int.emod_lt_of_pos which (show (0 : Int) < b.cs.length by omega); omega
   refine wpR_thenZ fun wr hs => ?_
   replace E := E.same hs
   replace hO := hs.blk hO
   replace hcurK := hs.blk hcurK
   replace hcurT := hs.blk hcurT
   replace hrowsK := RowsAt.mono (N' := wr.heap.size) (rows_same hrowsK hs) (Nat.le_of_eq (by rw [hs.heap]))
   replace hrowsT := RowsAt.mono (N' := wr.heap.size) (rows_same hrowsT hs) (Nat.le_of_eq (by rw [hs.heap]))
   clear hs
   have o0 := hO.cell 0; have o1 := hO.cell 1; have o2 := hO.cell 2; have o3 := hO.cell 3; simp at o0 o1 o2 o3; have ltO := hO.lt
   have hz' : ¬ ((b.cs.length : Int) = 0) := by have := HP.out; omega
   have hkI : (k : Int) < b.cs.length := by omega
   gi_wp2_with fail
   gi_big_quiet_th (fail)
   gi_wp2
   simp only [thenR]
   clear o0 o1 o2 o3 ltO ek
   have hdr := below_drewN wr nq
   replace E := E.below hdr
   replace hO := hO.below hdr
   replace hcurK := hcurK.below hdr
   replace hcurT := hcurT.below hdr
   replace hrowsK := (RowsAt.growN hrowsK (Grow.of hdr)).mono hdr.size
   replace hrowsT := (RowsAt.growN hrowsT (Grow.of hdr)).mono hdr.size
   clear hdr
   generalize wr.drewN nq = W3 at *
   refine wpR_seq fit (wpR_mono (Q := fun e a' w' S' => e = .normal ∧ ∃ (N' : Nat) (l' : Lay) (b' : RBook), b'.Right ∧ b.cs.length ≤ b'.cs.length ∧ (∀ c, c < b.to.cs.length → b.to.keeps c = true → b'.to.keeps c = true ∧ ((b'.to.after 9999).cases c).day ≤ ((b.to.after 9999).cases c).day) ∧ LawAt w S w.heap.size l b B w' S' ∧ RBkAt N' l' b' w' ∧ Blk w' BO 27 (l'.rarr b') ∧ b'.coins.length ≤ l'.cc ∧ ∃ u1 u2 u3 u5 u6 u7 u10 u11 u12 u13 u14 u15 u16 u17 u18 u19 u20 u21 u22 u23 u24 u25 u26 u27 u28 u29 u30 u31 u32 u33 u34 u35 u36 u37 u38 u39 u40 u41 u42 u43 u44 u45 u46 u47 u48 u49 u50 u51 u52 u53 u54 u55 u56 u57 u58 u59 u60 u61 u62 u63 u64 u65 u66 u67 u68 u69 u70 u71 u72 u73 u74 u75 u76 u77 u78 u79 u80 u81 u82 u83 u84 u85 u86 u87 u88 u89 u90 u91 u92 u93 u94 u95 u96 u97 u98 u99 u100 u101 u102 u103 u104 u105 u106 u107 u108 u109 u110 u111 u112 u113 u114 u115 u116 u117 u118 u119 u120 u121 u122 u123 u124 u125 u126 u127 u128 u129 u130 u131 u132 u133 u134 u135 u136 u137 u138 u139 u140 u141 u142 u143 u144 u145 u146 u147 u148 u149 u150 u151 u152 u153 : Value, a' = ⟨#[.agg (l.rarr b), u1, u2, u3, .pointer (some ⟨B, 0, none⟩), u5, u6, u7, .bool false, .pointer (some ⟨BO, 0, none⟩), u10, u11, u12, u13, u14, u15, u16, u17, u18, u19, u20, u21, u22, u23, u24, u25, u26, u27, u28, u29, u30, u31, u32, u33, u34, u35, u36, u37, u38, u39, u40, u41, u42, u43, u44, u45, u46, u47, u48, u49, u50, u51, u52, u53, u54, u55, u56, u57, u58, u59, u60, u61, u62, u63, u64, u65, u66, u67, u68, u69, u70, u71, u72, u73, u74, u75, u76, u77, u78, u79, u80, u81, u82, u83, u84, u85, u86, u87, u88, u89, u90, u91, u92, u93, u94, u95, u96, u97, u98, u99, u100, u101, u102, u103, u104, u105, u106, u107, u108, u109, u110, u111, u112, u113, u114, u115, u116, u117, u118, u119, u120, u121, u122, u123, u124, u125, u126, u127, u128, u129, u130, u131, u132, u133, u134, u135, u136, u137, u138, u139, u140, u141, u142, u143, u144, u145, u146, u147, u148, u149, u150, u151, u152, u153], []⟩) ?pre ?post)
   case pre =>
    refine wpR_loneZ fun wr hs => ?_
    replace E := E.same hs
    replace hO := hs.blk hO
    replace hcurK := hs.blk hcurK
    replace hcurT := hs.blk hcurT
    replace hrowsK := RowsAt.mono (N' := wr.heap.size) (rows_same hrowsK hs) (Nat.le_of_eq (by rw [hs.heap]))
    replace hrowsT := RowsAt.mono (N' := wr.heap.size) (rows_same hrowsT hs) (Nat.le_of_eq (by rw [hs.heap]))
    clear hs
    have hkr : (b.cs.map RCas.row)[k]? = some (b.casAt k).row := by rw [List.getElem?_map, List.getElem?_eq_getElem hk, casAt_get hk]; rfl
    have hp := hR.k (b.casAt k) (by rw [casAt_get hk]; exact List.getElem_mem hk)
    obtain ⟨x, hx⟩ : ∃ x, b.casAt k = x := ⟨_, rfl⟩
    rw [hx] at hkr hp
    have HX := Lib.hid hx
    clear hx
    obtain ⟨nm, ta, cl, du, gr, ex⟩ := x
    obtain ⟨bq, oq, eq1, -, e3⟩ := hrowsK k _ hkr
    cases eq1
    have k1 := e3 1 _ rfl; have k2 := e3 2 _ rfl; have k3 := e3 3 _ rfl; have k4 := e3 4 _ rfl; have k5 := e3 5 _ rfl
    rw [Nat.zero_add] at k1 k2 k3 k4 k5
    clear e3
    have ltK := hcurK.lt
    simp only at hp
    obtain ⟨⟨r1, r2⟩, ⟨r3, r4⟩, ⟨r5, r6⟩, ⟨r7, r8⟩, r9, r10⟩ := hp
    obtain ⟨kk, hkk⟩ : ∃ kk, kind % 6 = kk := ⟨_, rfl⟩
    have hkk0 : kk = 0 ∨ kk = 1 ∨ kk = 2 ∨ kk = 3 ∨ kk = 4 ∨ kk = 5 := by omega
    have m1 : 0 ≤ by_ % 1000 ∧ by_ % 1000 < 1000 := by omega
    have m2 : 0 ≤ by_ % 50 ∧ by_ % 50 < 50 := by omega
    rcases hkk0 with rfl | rfl | rfl | rfl | rfl | rfl
    ·have y := hcurK.frozen (k * 6 + 3)
     gi_wp2
     have hrK := rows_set (f := 3) (v := .int .i64 (min 9999 (du + by_))) (fun r hr => by obtain ⟨y, _, rfl⟩ := List.mem_map.1 hr; rfl) hcurK hrowsK hkr (by decide)
     have hrT := RowsAt.poke (BO := gK) (j := k * 6 + 3) (v := .int .i64 (min 9999 (du + by_))) hrowsT (fun e => neTK e.symm)
     have hmap : (b.cs.map RCas.row).set k ((RCas.row ⟨nm, ta, cl, du, gr, ex⟩).set 3 (.int .i64 (min 9999 (du + by_)))) = (b.setC k ⟨nm, ta, cl, min 9999 (du + by_), gr, ex⟩).cs.map RCas.row := by
      simp only [RBook.setC, List.map_set]; rfl
     rw [hmap] at hrK
     replace E := E.pokeG (j := k * 6 + 3) (v := .int .i64 (min 9999 (du + by_))) h0 (Grow.refl _ _) loK' (fun e => neBK e.symm)
     replace hO := hO.set (j := k * 6 + 3) (fun e => neOK e.symm) (.int .i64 (min 9999 (du + by_)))
     have hR' : (b.setC k ⟨nm, ta, cl, min 9999 (du + by_), gr, ex⟩).Right := setC_right hR hst hk (by rw [HX.out]) (by simp only; omega)
     refine ⟨rfl, _, { l with tb := some ⟨gT, 0, none⟩, tc := cT, kb := some ⟨gK, 0, none⟩, kc := cK }, b.setC k ⟨nm, ta, cl, min 9999 (du + by_), gr, ex⟩, hR', by simp [RBook.setC], setC_lasts hR hst hk hR' (by rw [HX.out]) (by rw [HX.out]; simp only; omega) (by rw [HX.out]; simp only; omega) (by rw [HX.out]; simp only; omega) (by rw [HX.out]; simp only; omega), E, ⟨Nat.le_refl _, E.bk.cs.mono E.g.size, hrT.mono (Nat.le_of_eq (World.size_setCell ..).symm), hrK.mono (Nat.le_of_eq (World.size_setCell ..).symm), E.bk.ps.mono E.g.size⟩, by simpa [Lay.rarr, RBook.setC] using hO, hcap, ?_⟩
     (repeat apply Exists.intro)
     rfl
    ·have y := hcurK.frozen (k * 6 + 4)
     gi_wp2
     have hrK := rows_set (f := 4) (v := .int .i64 (min 999 (gr + by_ % 1000))) (fun r hr => by obtain ⟨y, _, rfl⟩ := List.mem_map.1 hr; rfl) hcurK hrowsK hkr (by decide)
     have hrT := RowsAt.poke (BO := gK) (j := k * 6 + 4) (v := .int .i64 (min 999 (gr + by_ % 1000))) hrowsT (fun e => neTK e.symm)
     have hmap : (b.cs.map RCas.row).set k ((RCas.row ⟨nm, ta, cl, du, gr, ex⟩).set 4 (.int .i64 (min 999 (gr + by_ % 1000)))) = (b.setC k ⟨nm, ta, cl, du, min 999 (gr + by_ % 1000), ex⟩).cs.map RCas.row := by
      simp only [RBook.setC, List.map_set]; rfl
     rw [hmap] at hrK
     replace E := E.pokeG (j := k * 6 + 4) (v := .int .i64 (min 999 (gr + by_ % 1000))) h0 (Grow.refl _ _) loK' (fun e => neBK e.symm)
     replace hO := hO.set (j := k * 6 + 4) (fun e => neOK e.symm) (.int .i64 (min 999 (gr + by_ % 1000)))
     have hR' : (b.setC k ⟨nm, ta, cl, du, min 999 (gr + by_ % 1000), ex⟩).Right := setC_right hR hst hk (by rw [HX.out]) (by simp only; omega)
     refine ⟨rfl, _, { l with tb := some ⟨gT, 0, none⟩, tc := cT, kb := some ⟨gK, 0, none⟩, kc := cK }, b.setC k ⟨nm, ta, cl, du, min 999 (gr + by_ % 1000), ex⟩, hR', by simp [RBook.setC], setC_lasts hR hst hk hR' (by rw [HX.out]) (by rw [HX.out]; simp only; omega) (by rw [HX.out]; simp only; omega) (by rw [HX.out]; simp only; omega) (by rw [HX.out]; simp only; omega), E, ⟨Nat.le_refl _, E.bk.cs.mono E.g.size, hrT.mono (Nat.le_of_eq (World.size_setCell ..).symm), hrK.mono (Nat.le_of_eq (World.size_setCell ..).symm), E.bk.ps.mono E.g.size⟩, by simpa [Lay.rarr, RBook.setC] using hO, hcap, ?_⟩
     (repeat apply Exists.intro)
     rfl
    ·have y := hcurK.frozen (k * 6 + 5)
     gi_wp2
     have hrK := rows_set (f := 5) (v := .int .i64 (max 0 (ex - by_))) (fun r hr => by obtain ⟨y, _, rfl⟩ := List.mem_map.1 hr; rfl) hcurK hrowsK hkr (by decide)
     have hrT := RowsAt.poke (BO := gK) (j := k * 6 + 5) (v := .int .i64 (max 0 (ex - by_))) hrowsT (fun e => neTK e.symm)
     have hmap : (b.cs.map RCas.row).set k ((RCas.row ⟨nm, ta, cl, du, gr, ex⟩).set 5 (.int .i64 (max 0 (ex - by_)))) = (b.setC k ⟨nm, ta, cl, du, gr, max 0 (ex - by_)⟩).cs.map RCas.row := by
      simp only [RBook.setC, List.map_set]; rfl
     rw [hmap] at hrK
     replace E := E.pokeG (j := k * 6 + 5) (v := .int .i64 (max 0 (ex - by_))) h0 (Grow.refl _ _) loK' (fun e => neBK e.symm)
     replace hO := hO.set (j := k * 6 + 5) (fun e => neOK e.symm) (.int .i64 (max 0 (ex - by_)))
     have hR' : (b.setC k ⟨nm, ta, cl, du, gr, max 0 (ex - by_)⟩).Right := setC_right hR hst hk (by rw [HX.out]) (by simp only; omega)
     refine ⟨rfl, _, { l with tb := some ⟨gT, 0, none⟩, tc := cT, kb := some ⟨gK, 0, none⟩, kc := cK }, b.setC k ⟨nm, ta, cl, du, gr, max 0 (ex - by_)⟩, hR', by simp [RBook.setC], setC_lasts hR hst hk hR' (by rw [HX.out]) (by rw [HX.out]; simp only; omega) (by rw [HX.out]; simp only; omega) (by rw [HX.out]; simp only; omega) (by rw [HX.out]; simp only; omega), E, ⟨Nat.le_refl _, E.bk.cs.mono E.g.size, hrT.mono (Nat.le_of_eq (World.size_setCell ..).symm), hrK.mono (Nat.le_of_eq (World.size_setCell ..).symm), E.bk.ps.mono E.g.size⟩, by simpa [Lay.rarr, RBook.setC] using hO, hcap, ?_⟩
     (repeat apply Exists.intro)
     rfl
    ·have y := hcurK.frozen (k * 6 + 2)
     gi_wp2
     have hrK := rows_set (f := 2) (v := .int .i64 (max 0 (cl - by_ % 50))) (fun r hr => by obtain ⟨y, _, rfl⟩ := List.mem_map.1 hr; rfl) hcurK hrowsK hkr (by decide)
     have hrT := RowsAt.poke (BO := gK) (j := k * 6 + 2) (v := .int .i64 (max 0 (cl - by_ % 50))) hrowsT (fun e => neTK e.symm)
     have hmap : (b.cs.map RCas.row).set k ((RCas.row ⟨nm, ta, cl, du, gr, ex⟩).set 2 (.int .i64 (max 0 (cl - by_ % 50)))) = (b.setC k ⟨nm, ta, max 0 (cl - by_ % 50), du, gr, ex⟩).cs.map RCas.row := by
      simp only [RBook.setC, List.map_set]; rfl
     rw [hmap] at hrK
     replace E := E.pokeG (j := k * 6 + 2) (v := .int .i64 (max 0 (cl - by_ % 50))) h0 (Grow.refl _ _) loK' (fun e => neBK e.symm)
     replace hO := hO.set (j := k * 6 + 2) (fun e => neOK e.symm) (.int .i64 (max 0 (cl - by_ % 50)))
     have hR' : (b.setC k ⟨nm, ta, max 0 (cl - by_ % 50), du, gr, ex⟩).Right := setC_right hR hst hk (by rw [HX.out]) (by simp only; omega)
     refine ⟨rfl, _, { l with tb := some ⟨gT, 0, none⟩, tc := cT, kb := some ⟨gK, 0, none⟩, kc := cK }, b.setC k ⟨nm, ta, max 0 (cl - by_ % 50), du, gr, ex⟩, hR', by simp [RBook.setC], setC_lasts hR hst hk hR' (by rw [HX.out]) (by rw [HX.out]; simp only; omega) (by rw [HX.out]; simp only; omega) (by rw [HX.out]; simp only; omega) (by rw [HX.out]; simp only; omega), E, ⟨Nat.le_refl _, E.bk.cs.mono E.g.size, hrT.mono (Nat.le_of_eq (World.size_setCell ..).symm), hrK.mono (Nat.le_of_eq (World.size_setCell ..).symm), E.bk.ps.mono E.g.size⟩, by simpa [Lay.rarr, RBook.setC] using hO, hcap, ?_⟩
     (repeat apply Exists.intro)
     rfl
    ·obtain ⟨jt, rfl⟩ : ∃ jt : Nat, ta = jt := ⟨ta.toNat, by omega⟩
     have hj : jt < b.ts.length := by omega
     have hjI : (jt : Int) < b.ts.length := by omega
     have htr : (b.ts.map RTrf.row)[jt]? = some (b.tarAt jt).row := by rw [List.getElem?_map, List.getElem?_eq_getElem hj, tarAt_get hj]; rfl
     have hp := hR.t (b.tarAt jt) (by rw [tarAt_get hj]; exact List.getElem_mem hj)
     obtain ⟨x, hx⟩ : ∃ x, b.tarAt jt = x := ⟨_, rfl⟩
     rw [hx] at htr hp
     have HT := Lib.hid hx
     clear hx
     obtain ⟨tn, tc, tb, te, tf⟩ := x
     obtain ⟨bq, oq, eq1, -, e3⟩ := hrowsT jt _ htr
     cases eq1
     have t2 := e3 2 _ rfl; have t4 := e3 4 _ rfl
     rw [Nat.zero_add] at t2 t4
     clear e3
     have ltT := hcurT.lt
     have y := hcurT.frozen (jt * 5 + 2)
     have o1 := hO.cell 1; simp at o1; have ltO := hO.lt
     simp only at hp
     obtain ⟨⟨s1, s2⟩, ⟨s3, s4⟩, ⟨s5, s6⟩, s7, s8⟩ := hp
     gi_wp2
     refine wpIn_region_writes (fun w' => Below wr.heap.size wr w') (fun w' => ∃ wx, Below wr.heap.size wr wx ∧ w' = wx.setCell ⟨gT, jt * 5 + 2, none⟩ (.int .i64 (max 0 (tb - by_)))) 20 rfl mixed (by kernel_rfl) (fun d => ⟨rfl, rfl, rfl, Nat.le_refl _, fun _ _ => rfl⟩) ?_
     simp only [List.size_toArray, List.length_cons, List.length_nil, Nat.reduceAdd, Nat.zero_add, List.range, List.range.loop]
     refine det_pure rfl rfl (by decide) ?_
     apply Exists.intro
     refine ⟨fun T w' hw' K Q hK => ?_, ?_⟩
     ·gi_wp2
      exact hw'
     apply Exists.intro
     refine ⟨rfl, ?_⟩
     refine det_pre rfl rfl (by kernel_rfl) (.inl (by simp)) ?_
     apply Exists.intro
     refine ⟨fun w' hw' K Q hK => ?_, ?_⟩
     ·have qo := (hO.below hw').cell 1; simp at qo; have qk := (hw'.cell (p := ⟨gK, k * 6 + 1, none⟩) ltK).trans k1; have qt := (hw'.cell (p := ⟨gT, jt * 5 + 2, none⟩) ltT).trans t2
      gi_wp2
      exact hw'
     apply Exists.intro
     refine ⟨rfl, ?_⟩
     refine det_pure rfl rfl (by decide) ?_
     apply Exists.intro
     refine ⟨fun T w' hw' K Q hK => ?_, ?_⟩
     ·gi_wp2
      exact hw'
     apply Exists.intro
     refine ⟨rfl, ?_⟩
     refine det_pure rfl rfl (by decide) ?_
     apply Exists.intro
     refine ⟨fun T w' hw' K Q hK => ?_, ?_⟩
     ·gi_wp2
      exact hw'
     apply Exists.intro
     refine ⟨rfl, ?_⟩
     refine det_pure rfl rfl (by decide) ?_
     apply Exists.intro
     refine ⟨fun T w' hw' K Q hK => ?_, ?_⟩
     ·gi_wp2
      exact hw'
     apply Exists.intro
     refine ⟨rfl, ?_⟩
     refine det_pre rfl rfl (by kernel_rfl) (.inl (by simp)) ?_
     apply Exists.intro
     refine ⟨fun w' hw' K Q hK => ?_, ?_⟩
     ·have qo := (hO.below hw').cell 1; simp at qo; have qk := (hw'.cell (p := ⟨gK, k * 6 + 1, none⟩) ltK).trans k1; have qt := (hw'.cell (p := ⟨gT, jt * 5 + 2, none⟩) ltT).trans t2
      gi_wp2
      exact hw'
     apply Exists.intro
     refine ⟨rfl, ?_⟩
     refine det_pure rfl rfl (by decide) ?_
     apply Exists.intro
     refine ⟨fun T w' hw' K Q hK => ?_, ?_⟩
     ·gi_wp2
      exact hw'
     apply Exists.intro
     refine ⟨rfl, ?_⟩
     refine det_pre rfl rfl (by kernel_rfl) (.inl (by simp)) ?_
     apply Exists.intro
     refine ⟨fun w' hw' K Q hK => ?_, ?_⟩
     ·have qo := (hO.below hw').cell 1; simp at qo; have qk := (hw'.cell (p := ⟨gK, k * 6 + 1, none⟩) ltK).trans k1; have qt := (hw'.cell (p := ⟨gT, jt * 5 + 2, none⟩) ltT).trans t2
      gi_wp2
      exact hw'
     apply Exists.intro
     refine ⟨rfl, ?_⟩
     refine det_pure rfl rfl (by decide) ?_
     apply Exists.intro
     refine ⟨fun T w' hw' K Q hK => ?_, ?_⟩
     ·gi_wp2
      exact hw'
     apply Exists.intro
     refine ⟨rfl, ?_⟩
     refine det_pure rfl rfl (by decide) ?_
     apply Exists.intro
     refine ⟨fun T w' hw' K Q hK => ?_, ?_⟩
     ·gi_wp2
      exact hw'
     apply Exists.intro
     refine ⟨rfl, ?_⟩
     refine det_pure rfl rfl (by decide) ?_
     apply Exists.intro
     refine ⟨fun T w' hw' K Q hK => ?_, ?_⟩
     ·gi_wp2
      exact hw'
     apply Exists.intro
     refine ⟨rfl, ?_⟩
     refine det_pre rfl rfl (by kernel_rfl) (.inl (by simp)) ?_
     apply Exists.intro
     refine ⟨fun w' hw' K Q hK => ?_, ?_⟩
     ·have qo := (hO.below hw').cell 1; simp at qo; have qk := (hw'.cell (p := ⟨gK, k * 6 + 1, none⟩) ltK).trans k1; have qt := (hw'.cell (p := ⟨gT, jt * 5 + 2, none⟩) ltT).trans t2
      gi_wp2
      exact hw'
     apply Exists.intro
     refine ⟨rfl, ?_⟩
     refine det_pure rfl rfl (by decide) ?_
     apply Exists.intro
     refine ⟨fun T w' hw' K Q hK => ?_, ?_⟩
     ·gi_wp2
      exact hw'
     apply Exists.intro
     refine ⟨rfl, ?_⟩
     refine det_pure rfl rfl (by decide) ?_
     apply Exists.intro
     refine ⟨fun T w' hw' K Q hK => ?_, ?_⟩
     ·gi_wp2
      exact hw'
     apply Exists.intro
     refine ⟨rfl, ?_⟩
     refine det_pre rfl rfl (by kernel_rfl) (.inl (by simp)) ?_
     apply Exists.intro
     refine ⟨fun w' hw' K Q hK => ?_, ?_⟩
     ·have qo := (hO.below hw').cell 1; simp at qo; have qk := (hw'.cell (p := ⟨gK, k * 6 + 1, none⟩) ltK).trans k1; have qt := (hw'.cell (p := ⟨gT, jt * 5 + 2, none⟩) ltT).trans t2
      gi_wp2
      exact hw'
     apply Exists.intro
     refine ⟨rfl, ?_⟩
     refine det_pure rfl rfl (by decide) ?_
     apply Exists.intro
     refine ⟨fun T w' hw' K Q hK => ?_, ?_⟩
     ·gi_wp2
      exact hw'
     apply Exists.intro
     refine ⟨rfl, ?_⟩
     refine det_pure rfl rfl (by decide) ?_
     apply Exists.intro
     refine ⟨fun T w' hw' K Q hK => ?_, ?_⟩
     ·gi_wp2
      exact hw'
     apply Exists.intro
     refine ⟨rfl, ?_⟩
     refine det_pure rfl rfl (by decide) ?_
     apply Exists.intro
     refine ⟨fun T w' hw' K Q hK => ?_, ?_⟩
     ·gi_wp2
      exact hw'
     apply Exists.intro
     refine ⟨rfl, ?_⟩
     refine det_pure rfl rfl (by decide) ?_
     apply Exists.intro
     refine ⟨fun T w' hw' K Q hK => ?_, ?_⟩
     ·gi_wp2
      exact hw'
     apply Exists.intro
     refine ⟨rfl, ?_⟩
     refine det_pure rfl rfl (by decide) ?_
     apply Exists.intro
     refine ⟨fun T w' hw' K Q hK => ?_, ?_⟩
     ·gi_wp2
      exact hw'
     apply Exists.intro
     refine ⟨rfl, ?_⟩
     refine det_write rfl rfl rfl ?_
     apply Exists.intro
     refine ⟨fun w' hw' K Q hK => ?_, ?_⟩
     ·have qo := (hO.below hw').cell 1; simp at qo; have qk := (hw'.cell (p := ⟨gK, k * 6 + 1, none⟩) ltK).trans k1; have qt := (hw'.cell (p := ⟨gT, jt * 5 + 2, none⟩) ltT).trans t2
      have yt := (hw'.frozen (p := ⟨gT, jt * 5 + 2, none⟩) ltT).trans y
      gi_wp2
      exact ⟨w', hw', rfl⟩
     refine ⟨undef, rfl, ?_⟩
     rintro _ ⟨wy, hwy, rfl⟩
     have hrT := rows_set (f := 2) (v := .int .i64 (max 0 (tb - by_))) (fun r hr => by obtain ⟨y, _, rfl⟩ := List.mem_map.1 hr; rfl) (hcurT.below hwy) (RowsAt.growN hrowsT (Grow.of hwy)) htr (by decide)
     have hrK := RowsAt.poke (BO := gT) (j := jt * 5 + 2) (v := .int .i64 (max 0 (tb - by_))) (RowsAt.growN hrowsK (Grow.of hwy)) neTK
     have hmap : (b.ts.map RTrf.row).set jt ((RTrf.row ⟨tn, tc, tb, te, tf⟩).set 2 (.int .i64 (max 0 (tb - by_)))) = (b.setT jt ⟨tn, tc, max 0 (tb - by_), te, tf⟩).ts.map RTrf.row := by
      simp only [RBook.setT, List.map_set]; rfl
     rw [hmap] at hrT
     replace E := E.poke (j := jt * 5 + 2) (v := .int .i64 (max 0 (tb - by_))) h0 hwy loT' (fun e => neBT e.symm)
     replace hO := (hO.below hwy).set (j := jt * 5 + 2) (fun e => neOT e.symm) (.int .i64 (max 0 (tb - by_)))
     have hR' : (b.setT jt ⟨tn, tc, max 0 (tb - by_), te, tf⟩).Right := setT_right hR hst hj (by rw [HT.out]) (by simp only; omega)
     have hsz : wr.heap.size ≤ (wy.setCell ⟨gT, jt * 5 + 2, none⟩ (.int .i64 (max 0 (tb - by_)))).heap.size := by rw [World.size_setCell]; exact hwy.size
     refine ⟨rfl, _, { l with tb := some ⟨gT, 0, none⟩, tc := cT, kb := some ⟨gK, 0, none⟩, kc := cK }, b.setT jt ⟨tn, tc, max 0 (tb - by_), te, tf⟩, hR', by simp [RBook.setT], setT_lasts hR hst hj hR' (by rw [HT.out]) (by rw [HT.out]) (by rw [HT.out]; simp only; omega) (by rw [HT.out]; simp only; omega), E, ⟨Nat.le_refl _, E.bk.cs.mono E.g.size, hrT.mono hsz, hrK.mono hsz, E.bk.ps.mono E.g.size⟩, by simpa [Lay.rarr, RBook.setT] using hO, hcap, ?_⟩
     (repeat apply Exists.intro)
     rfl
    ·obtain ⟨jt, rfl⟩ : ∃ jt : Nat, ta = jt := ⟨ta.toNat, by omega⟩
     have hj : jt < b.ts.length := by omega
     have hjI : (jt : Int) < b.ts.length := by omega
     have htr : (b.ts.map RTrf.row)[jt]? = some (b.tarAt jt).row := by rw [List.getElem?_map, List.getElem?_eq_getElem hj, tarAt_get hj]; rfl
     have hp := hR.t (b.tarAt jt) (by rw [tarAt_get hj]; exact List.getElem_mem hj)
     obtain ⟨x, hx⟩ : ∃ x, b.tarAt jt = x := ⟨_, rfl⟩
     rw [hx] at htr hp
     have HT := Lib.hid hx
     clear hx
     obtain ⟨tn, tc, tb, te, tf⟩ := x
     obtain ⟨bq, oq, eq1, -, e3⟩ := hrowsT jt _ htr
     cases eq1
     have t2 := e3 2 _ rfl; have t4 := e3 4 _ rfl
     rw [Nat.zero_add] at t2 t4
     clear e3
     have ltT := hcurT.lt
     have y := hcurT.frozen (jt * 5 + 4)
     have o1 := hO.cell 1; simp at o1; have ltO := hO.lt
     simp only at hp
     obtain ⟨⟨s1, s2⟩, ⟨s3, s4⟩, ⟨s5, s6⟩, s7, s8⟩ := hp
     gi_wp2
     refine wpIn_region_writes (fun w' => Below wr.heap.size wr w') (fun w' => ∃ wx, Below wr.heap.size wr wx ∧ w' = wx.setCell ⟨gT, jt * 5 + 4, none⟩ (.int .i64 (min 45 (tf + by_ % 50)))) 21 rfl mixed (by kernel_rfl) (fun d => ⟨rfl, rfl, rfl, Nat.le_refl _, fun _ _ => rfl⟩) ?_
     simp only [List.size_toArray, List.length_cons, List.length_nil, Nat.reduceAdd, Nat.zero_add, List.range, List.range.loop]
     refine det_pure rfl rfl (by decide) ?_
     apply Exists.intro
     refine ⟨fun T w' hw' K Q hK => ?_, ?_⟩
     ·gi_wp2
      exact hw'
     apply Exists.intro
     refine ⟨rfl, ?_⟩
     refine det_pre rfl rfl (by kernel_rfl) (.inl (by simp)) ?_
     apply Exists.intro
     refine ⟨fun w' hw' K Q hK => ?_, ?_⟩
     ·have qo := (hO.below hw').cell 1; simp at qo; have qk := (hw'.cell (p := ⟨gK, k * 6 + 1, none⟩) ltK).trans k1; have qt := (hw'.cell (p := ⟨gT, jt * 5 + 4, none⟩) ltT).trans t4
      gi_wp2
      exact hw'
     apply Exists.intro
     refine ⟨rfl, ?_⟩
     refine det_pure rfl rfl (by decide) ?_
     apply Exists.intro
     refine ⟨fun T w' hw' K Q hK => ?_, ?_⟩
     ·gi_wp2
      exact hw'
     apply Exists.intro
     refine ⟨rfl, ?_⟩
     refine det_pure rfl rfl (by decide) ?_
     apply Exists.intro
     refine ⟨fun T w' hw' K Q hK => ?_, ?_⟩
     ·gi_wp2
      exact hw'
     apply Exists.intro
     refine ⟨rfl, ?_⟩
     refine det_pure rfl rfl (by decide) ?_
     apply Exists.intro
     refine ⟨fun T w' hw' K Q hK => ?_, ?_⟩
     ·gi_wp2
      exact hw'
     apply Exists.intro
     refine ⟨rfl, ?_⟩
     refine det_pre rfl rfl (by kernel_rfl) (.inl (by simp)) ?_
     apply Exists.intro
     refine ⟨fun w' hw' K Q hK => ?_, ?_⟩
     ·have qo := (hO.below hw').cell 1; simp at qo; have qk := (hw'.cell (p := ⟨gK, k * 6 + 1, none⟩) ltK).trans k1; have qt := (hw'.cell (p := ⟨gT, jt * 5 + 4, none⟩) ltT).trans t4
      gi_wp2
      exact hw'
     apply Exists.intro
     refine ⟨rfl, ?_⟩
     refine det_pure rfl rfl (by decide) ?_
     apply Exists.intro
     refine ⟨fun T w' hw' K Q hK => ?_, ?_⟩
     ·gi_wp2
      exact hw'
     apply Exists.intro
     refine ⟨rfl, ?_⟩
     refine det_pre rfl rfl (by kernel_rfl) (.inl (by simp)) ?_
     apply Exists.intro
     refine ⟨fun w' hw' K Q hK => ?_, ?_⟩
     ·have qo := (hO.below hw').cell 1; simp at qo; have qk := (hw'.cell (p := ⟨gK, k * 6 + 1, none⟩) ltK).trans k1; have qt := (hw'.cell (p := ⟨gT, jt * 5 + 4, none⟩) ltT).trans t4
      gi_wp2
      exact hw'
     apply Exists.intro
     refine ⟨rfl, ?_⟩
     refine det_pure rfl rfl (by decide) ?_
     apply Exists.intro
     refine ⟨fun T w' hw' K Q hK => ?_, ?_⟩
     ·gi_wp2
      exact hw'
     apply Exists.intro
     refine ⟨rfl, ?_⟩
     refine det_pure rfl rfl (by decide) ?_
     apply Exists.intro
     refine ⟨fun T w' hw' K Q hK => ?_, ?_⟩
     ·gi_wp2
      exact hw'
     apply Exists.intro
     refine ⟨rfl, ?_⟩
     refine det_pure rfl rfl (by decide) ?_
     apply Exists.intro
     refine ⟨fun T w' hw' K Q hK => ?_, ?_⟩
     ·gi_wp2
      exact hw'
     apply Exists.intro
     refine ⟨rfl, ?_⟩
     refine det_pre rfl rfl (by kernel_rfl) (.inl (by simp)) ?_
     apply Exists.intro
     refine ⟨fun w' hw' K Q hK => ?_, ?_⟩
     ·have qo := (hO.below hw').cell 1; simp at qo; have qk := (hw'.cell (p := ⟨gK, k * 6 + 1, none⟩) ltK).trans k1; have qt := (hw'.cell (p := ⟨gT, jt * 5 + 4, none⟩) ltT).trans t4
      gi_wp2
      exact hw'
     apply Exists.intro
     refine ⟨rfl, ?_⟩
     refine det_pure rfl rfl (by decide) ?_
     apply Exists.intro
     refine ⟨fun T w' hw' K Q hK => ?_, ?_⟩
     ·gi_wp2
      exact hw'
     apply Exists.intro
     refine ⟨rfl, ?_⟩
     refine det_pure rfl rfl (by decide) ?_
     apply Exists.intro
     refine ⟨fun T w' hw' K Q hK => ?_, ?_⟩
     ·gi_wp2
      exact hw'
     apply Exists.intro
     refine ⟨rfl, ?_⟩
     refine det_pre rfl rfl (by kernel_rfl) (.inl (by simp)) ?_
     apply Exists.intro
     refine ⟨fun w' hw' K Q hK => ?_, ?_⟩
     ·have qo := (hO.below hw').cell 1; simp at qo; have qk := (hw'.cell (p := ⟨gK, k * 6 + 1, none⟩) ltK).trans k1; have qt := (hw'.cell (p := ⟨gT, jt * 5 + 4, none⟩) ltT).trans t4
      gi_wp2
      exact hw'
     apply Exists.intro
     refine ⟨rfl, ?_⟩
     refine det_pure rfl rfl (by decide) ?_
     apply Exists.intro
     refine ⟨fun T w' hw' K Q hK => ?_, ?_⟩
     ·gi_wp2
      exact hw'
     apply Exists.intro
     refine ⟨rfl, ?_⟩
     refine det_pure rfl rfl (by decide) ?_
     apply Exists.intro
     refine ⟨fun T w' hw' K Q hK => ?_, ?_⟩
     ·gi_wp2
      exact hw'
     apply Exists.intro
     refine ⟨rfl, ?_⟩
     refine det_pure rfl rfl (by decide) ?_
     apply Exists.intro
     refine ⟨fun T w' hw' K Q hK => ?_, ?_⟩
     ·gi_wp2
      exact hw'
     apply Exists.intro
     refine ⟨rfl, ?_⟩
     refine det_pure rfl rfl (by decide) ?_
     apply Exists.intro
     refine ⟨fun T w' hw' K Q hK => ?_, ?_⟩
     ·gi_wp2
      exact hw'
     apply Exists.intro
     refine ⟨rfl, ?_⟩
     refine det_pure rfl rfl (by decide) ?_
     apply Exists.intro
     refine ⟨fun T w' hw' K Q hK => ?_, ?_⟩
     ·gi_wp2
      exact hw'
     apply Exists.intro
     refine ⟨rfl, ?_⟩
     refine det_pure rfl rfl (by decide) ?_
     apply Exists.intro
     refine ⟨fun T w' hw' K Q hK => ?_, ?_⟩
     ·gi_wp2
      exact hw'
     apply Exists.intro
     refine ⟨rfl, ?_⟩
     refine det_write rfl rfl rfl ?_
     apply Exists.intro
     refine ⟨fun w' hw' K Q hK => ?_, ?_⟩
     ·have qo := (hO.below hw').cell 1; simp at qo; have qk := (hw'.cell (p := ⟨gK, k * 6 + 1, none⟩) ltK).trans k1; have qt := (hw'.cell (p := ⟨gT, jt * 5 + 4, none⟩) ltT).trans t4
      have yt := (hw'.frozen (p := ⟨gT, jt * 5 + 4, none⟩) ltT).trans y
      gi_wp2
      exact ⟨w', hw', rfl⟩
     refine ⟨undef, rfl, ?_⟩
     rintro _ ⟨wy, hwy, rfl⟩
     have hrT := rows_set (f := 4) (v := .int .i64 (min 45 (tf + by_ % 50))) (fun r hr => by obtain ⟨y, _, rfl⟩ := List.mem_map.1 hr; rfl) (hcurT.below hwy) (RowsAt.growN hrowsT (Grow.of hwy)) htr (by decide)
     have hrK := RowsAt.poke (BO := gT) (j := jt * 5 + 4) (v := .int .i64 (min 45 (tf + by_ % 50))) (RowsAt.growN hrowsK (Grow.of hwy)) neTK
     have hmap : (b.ts.map RTrf.row).set jt ((RTrf.row ⟨tn, tc, tb, te, tf⟩).set 4 (.int .i64 (min 45 (tf + by_ % 50)))) = (b.setT jt ⟨tn, tc, tb, te, min 45 (tf + by_ % 50)⟩).ts.map RTrf.row := by
      simp only [RBook.setT, List.map_set]; rfl
     rw [hmap] at hrT
     replace E := E.poke (j := jt * 5 + 4) (v := .int .i64 (min 45 (tf + by_ % 50))) h0 hwy loT' (fun e => neBT e.symm)
     replace hO := (hO.below hwy).set (j := jt * 5 + 4) (fun e => neOT e.symm) (.int .i64 (min 45 (tf + by_ % 50)))
     have hR' : (b.setT jt ⟨tn, tc, tb, te, min 45 (tf + by_ % 50)⟩).Right := setT_right hR hst hj (by rw [HT.out]) (by simp only; omega)
     have hsz : wr.heap.size ≤ (wy.setCell ⟨gT, jt * 5 + 4, none⟩ (.int .i64 (min 45 (tf + by_ % 50)))).heap.size := by rw [World.size_setCell]; exact hwy.size
     refine ⟨rfl, _, { l with tb := some ⟨gT, 0, none⟩, tc := cT, kb := some ⟨gK, 0, none⟩, kc := cK }, b.setT jt ⟨tn, tc, tb, te, min 45 (tf + by_ % 50)⟩, hR', by simp [RBook.setT], setT_lasts hR hst hj hR' (by rw [HT.out]) (by rw [HT.out]) (by rw [HT.out]; simp only; omega) (by rw [HT.out]; simp only; omega), E, ⟨Nat.le_refl _, E.bk.cs.mono E.g.size, hrT.mono hsz, hrK.mono hsz, E.bk.ps.mono E.g.size⟩, by simpa [Lay.rarr, RBook.setT] using hO, hcap, ?_⟩
     (repeat apply Exists.intro)
     rfl
   case post =>
    clear hcurK hcurT hrowsK hrowsT hO E
    rintro e a w1 S1 ⟨rfl, N', l', b', hR', hlen, hL, E, hB, hO, hcap', hfr⟩
    obtain ⟨u1, hfr⟩ := hfr; obtain ⟨u2, hfr⟩ := hfr; obtain ⟨u3, hfr⟩ := hfr; obtain ⟨u5, hfr⟩ := hfr; obtain ⟨u6, hfr⟩ := hfr; obtain ⟨u7, hfr⟩ := hfr; obtain ⟨u10, hfr⟩ := hfr; obtain ⟨u11, hfr⟩ := hfr; obtain ⟨u12, hfr⟩ := hfr; obtain ⟨u13, hfr⟩ := hfr; obtain ⟨u14, hfr⟩ := hfr; obtain ⟨u15, hfr⟩ := hfr; obtain ⟨u16, hfr⟩ := hfr; obtain ⟨u17, hfr⟩ := hfr; obtain ⟨u18, hfr⟩ := hfr; obtain ⟨u19, hfr⟩ := hfr; obtain ⟨u20, hfr⟩ := hfr; obtain ⟨u21, hfr⟩ := hfr; obtain ⟨u22, hfr⟩ := hfr; obtain ⟨u23, hfr⟩ := hfr; obtain ⟨u24, hfr⟩ := hfr; obtain ⟨u25, hfr⟩ := hfr; obtain ⟨u26, hfr⟩ := hfr; obtain ⟨u27, hfr⟩ := hfr; obtain ⟨u28, hfr⟩ := hfr; obtain ⟨u29, hfr⟩ := hfr; obtain ⟨u30, hfr⟩ := hfr; obtain ⟨u31, hfr⟩ := hfr; obtain ⟨u32, hfr⟩ := hfr; obtain ⟨u33, hfr⟩ := hfr; obtain ⟨u34, hfr⟩ := hfr; obtain ⟨u35, hfr⟩ := hfr; obtain ⟨u36, hfr⟩ := hfr; obtain ⟨u37, hfr⟩ := hfr; obtain ⟨u38, hfr⟩ := hfr; obtain ⟨u39, hfr⟩ := hfr; obtain ⟨u40, hfr⟩ := hfr; obtain ⟨u41, hfr⟩ := hfr; obtain ⟨u42, hfr⟩ := hfr; obtain ⟨u43, hfr⟩ := hfr; obtain ⟨u44, hfr⟩ := hfr; obtain ⟨u45, hfr⟩ := hfr; obtain ⟨u46, hfr⟩ := hfr; obtain ⟨u47, hfr⟩ := hfr; obtain ⟨u48, hfr⟩ := hfr; obtain ⟨u49, hfr⟩ := hfr; obtain ⟨u50, hfr⟩ := hfr; obtain ⟨u51, hfr⟩ := hfr; obtain ⟨u52, hfr⟩ := hfr; obtain ⟨u53, hfr⟩ := hfr; obtain ⟨u54, hfr⟩ := hfr; obtain ⟨u55, hfr⟩ := hfr; obtain ⟨u56, hfr⟩ := hfr; obtain ⟨u57, hfr⟩ := hfr; obtain ⟨u58, hfr⟩ := hfr; obtain ⟨u59, hfr⟩ := hfr; obtain ⟨u60, hfr⟩ := hfr; obtain ⟨u61, hfr⟩ := hfr; obtain ⟨u62, hfr⟩ := hfr; obtain ⟨u63, hfr⟩ := hfr; obtain ⟨u64, hfr⟩ := hfr; obtain ⟨u65, hfr⟩ := hfr; obtain ⟨u66, hfr⟩ := hfr; obtain ⟨u67, hfr⟩ := hfr; obtain ⟨u68, hfr⟩ := hfr; obtain ⟨u69, hfr⟩ := hfr; obtain ⟨u70, hfr⟩ := hfr; obtain ⟨u71, hfr⟩ := hfr; obtain ⟨u72, hfr⟩ := hfr; obtain ⟨u73, hfr⟩ := hfr; obtain ⟨u74, hfr⟩ := hfr; obtain ⟨u75, hfr⟩ := hfr; obtain ⟨u76, hfr⟩ := hfr; obtain ⟨u77, hfr⟩ := hfr; obtain ⟨u78, hfr⟩ := hfr; obtain ⟨u79, hfr⟩ := hfr; obtain ⟨u80, hfr⟩ := hfr; obtain ⟨u81, hfr⟩ := hfr; obtain ⟨u82, hfr⟩ := hfr; obtain ⟨u83, hfr⟩ := hfr; obtain ⟨u84, hfr⟩ := hfr; obtain ⟨u85, hfr⟩ := hfr; obtain ⟨u86, hfr⟩ := hfr; obtain ⟨u87, hfr⟩ := hfr; obtain ⟨u88, hfr⟩ := hfr; obtain ⟨u89, hfr⟩ := hfr; obtain ⟨u90, hfr⟩ := hfr; obtain ⟨u91, hfr⟩ := hfr; obtain ⟨u92, hfr⟩ := hfr; obtain ⟨u93, hfr⟩ := hfr; obtain ⟨u94, hfr⟩ := hfr; obtain ⟨u95, hfr⟩ := hfr; obtain ⟨u96, hfr⟩ := hfr; obtain ⟨u97, hfr⟩ := hfr; obtain ⟨u98, hfr⟩ := hfr; obtain ⟨u99, hfr⟩ := hfr; obtain ⟨u100, hfr⟩ := hfr; obtain ⟨u101, hfr⟩ := hfr; obtain ⟨u102, hfr⟩ := hfr; obtain ⟨u103, hfr⟩ := hfr; obtain ⟨u104, hfr⟩ := hfr; obtain ⟨u105, hfr⟩ := hfr; obtain ⟨u106, hfr⟩ := hfr; obtain ⟨u107, hfr⟩ := hfr; obtain ⟨u108, hfr⟩ := hfr; obtain ⟨u109, hfr⟩ := hfr; obtain ⟨u110, hfr⟩ := hfr; obtain ⟨u111, hfr⟩ := hfr; obtain ⟨u112, hfr⟩ := hfr; obtain ⟨u113, hfr⟩ := hfr; obtain ⟨u114, hfr⟩ := hfr; obtain ⟨u115, hfr⟩ := hfr; obtain ⟨u116, hfr⟩ := hfr; obtain ⟨u117, hfr⟩ := hfr; obtain ⟨u118, hfr⟩ := hfr; obtain ⟨u119, hfr⟩ := hfr; obtain ⟨u120, hfr⟩ := hfr; obtain ⟨u121, hfr⟩ := hfr; obtain ⟨u122, hfr⟩ := hfr; obtain ⟨u123, hfr⟩ := hfr; obtain ⟨u124, hfr⟩ := hfr; obtain ⟨u125, hfr⟩ := hfr; obtain ⟨u126, hfr⟩ := hfr; obtain ⟨u127, hfr⟩ := hfr; obtain ⟨u128, hfr⟩ := hfr; obtain ⟨u129, hfr⟩ := hfr; obtain ⟨u130, hfr⟩ := hfr; obtain ⟨u131, hfr⟩ := hfr; obtain ⟨u132, hfr⟩ := hfr; obtain ⟨u133, hfr⟩ := hfr; obtain ⟨u134, hfr⟩ := hfr; obtain ⟨u135, hfr⟩ := hfr; obtain ⟨u136, hfr⟩ := hfr; obtain ⟨u137, hfr⟩ := hfr; obtain ⟨u138, hfr⟩ := hfr; obtain ⟨u139, hfr⟩ := hfr; obtain ⟨u140, hfr⟩ := hfr; obtain ⟨u141, hfr⟩ := hfr; obtain ⟨u142, hfr⟩ := hfr; obtain ⟨u143, hfr⟩ := hfr; obtain ⟨u144, hfr⟩ := hfr; obtain ⟨u145, hfr⟩ := hfr; obtain ⟨u146, hfr⟩ := hfr; obtain ⟨u147, hfr⟩ := hfr; obtain ⟨u148, hfr⟩ := hfr; obtain ⟨u149, hfr⟩ := hfr; obtain ⟨u150, hfr⟩ := hfr; obtain ⟨u151, hfr⟩ := hfr; obtain ⟨u152, hfr⟩ := hfr; obtain ⟨u153, hfr⟩ := hfr
    subst hfr
    simp only [thenR]
    refine wpR_seq fit (wpR_region fit ?_)
    simp only [List.size_toArray, List.length_cons, List.length_nil, Nat.reduceAdd, List.range, List.range.loop]
    refine opsR_loneZ rfl rfl fun wr hs => ?_
    replace E := E.same hs
    replace hO := hs.blk hO
    replace hB := hB.gr (hs.g _)
    clear hs
    have o0 := hO.cell 0; have o1 := hO.cell 1; have o2 := hO.cell 2; have o3 := hO.cell 3; simp at o0 o1 o2 o3; have ltO := hO.lt
    gi_wp2
    clear o0 o1 o2 o3 ltO
    refine opsR_loneZ rfl rfl fun wr hs => ?_
    replace E := E.same hs
    replace hO := hs.blk hO
    replace hB := hB.gr (hs.g _)
    clear hs
    have hcall := CheckRef_in hB hcap' (by have := hR'.nc; omega) (by have := hR'.nt; omega) (by have := hR'.nk; omega) (by have := hR'.np; omega)
    gi_wp2_with (gi_at_call 21; with_reducible refine hcall.mono ?_; rintro e w2 ⟨⟨f, rfl, hf0⟩, hb2⟩)
    obtain rfl := hf0.2 hR'
    replace E := E.below hb2
    replace hO := hO.gr (Grow.of hb2)
    replace hB := hB.gr (Grow.of hb2)
    clear hb2 hf0 hcall
    refine opsR_loneZ rfl rfl fun wr hs => ?_
    replace E := E.same hs
    replace hO := hs.blk hO
    replace hB := hB.gr (hs.g _)
    clear hs
    gi_wp2
    refine opsR_loneZ rfl rfl fun wr hs => ?_
    replace E := E.same hs
    replace hO := hs.blk hO
    replace hB := hB.gr (hs.g _)
    clear hs
    gi_wp2
    refine opsR_loneZ rfl rfl fun wr hs => ?_
    replace E := E.same hs
    replace hO := hs.blk hO
    replace hB := hB.gr (hs.g _)
    clear hs
    have g0 := E.bx.cell 0; have g1 := E.bx.cell 1; have g2 := E.bx.cell 2; have g3 := E.bx.cell 3; simp at g0 g1 g2 g3; have ltB := E.bx.lt
    gi_wp2
    clear g0 g1 g2 g3 ltB
    refine opsR_loneZ rfl rfl fun wr hs => ?_
    replace E := E.same hs
    replace hO := hs.blk hO
    replace hB := hB.gr (hs.g _)
    clear hs
    have o0 := hO.cell 0; have o1 := hO.cell 1; have o2 := hO.cell 2; have o3 := hO.cell 3; simp at o0 o1 o2 o3; have ltO := hO.lt
    gi_wp2
    clear o0 o1 o2 o3 ltO
    refine opsR_loneZ rfl rfl fun wr hs => ?_
    replace E := E.same hs
    replace hO := hs.blk hO
    replace hB := hB.gr (hs.g _)
    clear hs
    have hl := lasts_in (E.bk.to hR) (hB.to hR') hf hR'.full E.kd (by simpa [RBook.to] using hlen) hL
    rw [RBook.to_val, RBook.to_val] at hl
    gi_wp2_with (gi_at_call 39; with_reducible refine hl.mono ?_; rintro e w3 ⟨rfl, hb3⟩)
    replace E := E.below hb3
    clear hl hb3
    refine opsR_loneZ rfl rfl fun wr hs => ?_
    replace E := E.same hs
    clear hs
    gi_wp2
    refine opsR_loneZ rfl rfl fun wr hs => ?_
    replace E := E.same hs
    clear hs
    gi_wp2
    refine opsR_callZ rfl rfl rfl Tryz.func17 (by kernel_rfl) body17 (vals := #[]) (by simp) (paid_R E.kd (Nat.le_trans hlim E.g.size)) ?_
    rintro u w5 S5 ⟨rfl, hg5⟩
    replace E := E.grow hg5
    clear hg5
    refine opsR_loneZ rfl rfl fun wr hs => ?_
    replace E := E.same hs
    clear hs
    gi_wp2
    refine opsR_loneZ rfl rfl fun wr hs => ?_
    replace E := E.same hs
    clear hs
    gi_wp2
    refine opsR_nil fit ?_
    refine wpR_ret fit ?_
    exact ⟨rfl, .bool true, fun τ d => by rw [results_tmp rfl]; rfl, rfl, E.g⟩
  ·refine wpR_cond fit (t := true) rfl ?_
   simp only [if_true]
   refine wpR_seq fit (wpR_region fit ?_)
   simp only [List.size_toArray, List.length_cons, List.length_nil, Nat.reduceAdd, List.range, List.range.loop]
   refine opsR_callZ rfl rfl rfl Tryz.func17 (by kernel_rfl) body17 (vals := #[]) (by simp) (paid_R E.kd (Nat.le_trans hlim E.g.size)) ?_
   rintro u w5 S5 ⟨rfl, hg5⟩
   replace E := E.grow hg5
   clear hg5
   refine opsR_loneZ rfl rfl fun wr hs => ?_
   replace E := E.same hs
   clear hs
   gi_wp2
   refine opsR_nil fit ?_
   refine wpR_ret fit ?_
   exact ⟨rfl, .bool true, fun τ d => by rw [results_tmp rfl]; rfl, rfl, E.g⟩
end Go.Proofs.YtnkejaohnhpbpaaGreatDoor
