/- append of a list of cases or tariffs onto an empty one, as a step, whatever its source; a cell of a row is set. -/
import Derived.Test.YtnkejaohnhpbpaaGreatDoorA52
import Derived.Test.YtnkejaohnhpbpaaGreatDoorA54
set_option linter.all false
section
namespace Go.Proofs.YtnkejaohnhpbpaaGreatDoor
open Go Go.RowKit Lift
theorem Tryz.infoK : (Tryz.prog.info? 60).map (fun i => (i.zero, i.size, i.bytes)) = some (some (.agg #[.string ⟨#[]⟩, .int .i64 0, .int .i64 0, .int .i64 0, .int .i64 0, .int .i64 0]), 6, 56) := by kernel_rfl
theorem Tryz.infoT : (Tryz.prog.info? 69).map (fun i => (i.zero, i.size, i.bytes)) = some (some (.agg #[.string ⟨#[]⟩, .int .i64 0, .int .i64 0, .int .i64 0, .int .i64 0]), 5, 48) := by kernel_rfl
theorem mk24_wp {o : Oper} {a : Act} {w : World} {K : Act → World → Prop} {Q : Exit → Act → World → Prop} (hop : o.op = .buildSlice 24 0 #[]) (h : K (a.put o.dst (.slice (some ⟨w.heap.size, 0, none⟩) 0 0)) (w.alloc (.cells #[] 60))) : o.wpIn Fz 0 Tryz.prog a w K Q := by
 obtain ⟨d, op, ty, ps, af, gd⟩ := o
 simp only at hop h
 subst hop
 gi_wp2
 all_goals exact h
theorem mk23_wp {o : Oper} {a : Act} {w : World} {K : Act → World → Prop} {Q : Exit → Act → World → Prop} (hop : o.op = .buildSlice 23 0 #[]) (h : K (a.put o.dst (.slice (some ⟨w.heap.size, 0, none⟩) 0 0)) (w.alloc (.cells #[] 69))) : o.wpIn Fz 0 Tryz.prog a w K Q := by
 obtain ⟨d, op, ty, ps, af, gd⟩ := o
 simp only at hop h
 subst hop
 gi_wp2
 all_goals exact h
section
variable {size : Nat}
theorem rflat_length : ∀ {rows : List (List Value)}, (∀ r ∈ rows, r.length = size) → rows.flatten.length = rows.length * size
 | [], _ => by simp
 | r :: rows, h => by
  rw [List.flatten_cons, List.length_append, h r (by simp), rflat_length fun q hq => h q (by simp [hq]), List.length_cons, Nat.add_mul]
  omega
theorem rflat_at : ∀ {rows : List (List Value)} (_ : ∀ r ∈ rows, r.length = size) (i : Nat) (r : List Value) (j : Nat) (v : Value), rows[i]? = some r → r[j]? = some v → rows.flatten[i * size + j]? = some v
 | [], _, i, r, j, v, h, _ => by simp at h
 | q :: rows, hs, i, r, j, v, h, hv => by
  have hq := hs q (by simp)
  rw [List.flatten_cons]
  cases i with
  | zero =>
   obtain rfl : q = r := by simpa using h
   have hj := (List.getElem?_eq_some_iff.1 hv).1
   rw [List.getElem?_append_left (by omega)]
   simpa using hv
  | succ i =>
   have h' : rows[i]? = some r := by simpa using h
   rw [List.getElem?_append_right (by rw [hq, Nat.add_mul]; omega), hq, show (i + 1) * size + j - size = i * size + j by rw [Nat.add_mul]; omega]
   exact rflat_at (fun x hx => hs x (by simp [hx])) i r j v h' hv
theorem rflat_split : ∀ {rows : List (List Value)} (_ : ∀ r ∈ rows, r.length = size) (k : Nat) (v : Value), rows.flatten[k]? = some v → ∃ i r j, rows[i]? = some r ∧ r[j]? = some v ∧ k = i * size + j
 | [], _, k, v, h => by simp at h
 | q :: rows, hs, k, v, h => by
  have hq := hs q (by simp)
  rw [List.flatten_cons] at h
  by_cases hk : k < size
  ·rw [List.getElem?_append_left (by omega)] at h
   exact ⟨0, q, k, rfl, h, by omega⟩
  ·rw [List.getElem?_append_right (by omega), hq] at h
   obtain ⟨i, p, j, h1, h2, h3⟩ := rflat_split (fun x hx => hs x (by simp [hx])) (k - size) v h
   exact ⟨i + 1, p, j, by simpa using h1, h2, by rw [Nat.add_mul]; omega⟩
theorem owns_rows {w : World} {N n : Nat} {e : TypeId} {v : Value} {rows : List (List Value)} (hs : ∀ r ∈ rows, r.length = size) (h : w.ownsRow N e size v n rows.flatten) (hn : n = rows.length) : ∃ base cap, v = .slice base rows.length cap ∧ RowsAt w.heap.size base size rows w := by
 subst hn
 rcases h.2 with ⟨rfl, hn⟩ | ⟨g, cap, cur, rfl, h1, h2⟩
 ·obtain rfl := List.eq_nil_of_length_eq_zero hn
  exact ⟨none, 0, rfl, fun i r hr => by simp at hr⟩
 ·obtain ⟨hg, _, _, _, ht⟩ := h2
  refine ⟨_, cap, rfl, fun i r hr => ⟨g, 0, rfl, (Array.getElem?_eq_some_iff.1 hg).1, fun j u hu => ?_⟩⟩
  have e1 := rflat_at hs i r j u hr hu
  have hlt := (List.getElem?_eq_some_iff.1 e1).1
  rw [rflat_length hs] at hlt
  rw [← ht, List.getElem?_take_of_lt hlt, Array.getElem?_toList] at e1
  simp [World.cell?, hg, e1]
theorem append_rows {t e : TypeId} {z : Value} {bytes : Nat} (ht : Tryz.prog.underlying t = some (.slice e)) (hinf : (Tryz.prog.info? e).map (fun i => (i.zero, i.size, i.bytes)) = some (some z, size, bytes)) (hzs : z.cells.size = size) (hsz : 0 < size) (hby : bytes ≤ 100)
  {w : World} {o : Oper} {a : Act} {K : Act → World → Prop} {Q : Exit → Act → World → Prop} (s x : Operand) (hop : o.op = .call { callee := .builtin .append, args := #[s, x], argTypes := #[t, t] })
  {base : Nat} {v : Value} {b0 : Option Addr} {cap m : Nat} {rows : List (List Value)} (hs : a.eval s = v) (hown : w.ownsRow base e size v 0 []) (hx : a.eval x = .slice b0 m cap) (hm : m = rows.length) (hr : RowsAt w.heap.size b0 size rows w) (hl : ∀ r ∈ rows, r.length = size)
  (h1 : ∀ r ∈ rows, ∀ u ∈ r, u.oneCell' = true) (hk : rows.length ≤ 1000000) (hb : base ≤ w.heap.size)
  (hK : ∀ v' w', w'.ownsRow base e size v' rows.length rows.flatten → w.grownBy w' v.ownBlock → K (a.put o.dst v') w') : o.wpIn Fz 0 Tryz.prog a w K Q := by
 obtain ⟨i0, hi0, hz0, hz1, hz2⟩ := info_parts hinf
 have fin : ∀ v' w', (Builtin.append_ #[t, t] o.type #[v, .slice b0 m cap]).run Tryz.prog w = .ok v' w' → K (a.put o.dst v') w' → o.wpIn Fz 0 Tryz.prog a w K Q := fun v' w' hrun h => by
  unfold Oper.wpIn
  refine ⟨?_, ?_⟩
  ·simp [Oper.about, hop, resolve, Target.leads, Sem.run_pure]
  ·rw [Oper.semAt_plain _ _ _ (by rw [hop]; intro c hc'; cases hc')]
   simp [execOp, hop, resolve, invoke, builtin, hs, hx, hrun, Result.andThen]
   exact h
 subst hm
 cases b0 with
 | none =>
  have hnil : rows = [] := by
   cases rows with
   | nil => rfl
   | cons y ys => obtain ⟨_, _, q, _⟩ := hr 0 y rfl; cases q
  subst hnil
  exact fin _ _ (run_append_nilsrc ht hi0 hown) (hK v w hown ⟨rfl, rfl, rfl, Nat.le_refl _, fun _ _ _ => rfl⟩)
 | some ad =>
  have hcells : ∀ j u, rows.flatten[j]? = some u → w.cell? (ad.add j) = some u := fun j u hu => by
   obtain ⟨i, p, k, q1, q2, rfl⟩ := rflat_split hl j u hu
   obtain ⟨b, o, e1, e2, e3⟩ := hr i p q1
   cases e1
   have := e3 k u q2
   rw [Addr.add_mid, ← Nat.add_assoc]
   exact this
  obtain ⟨v', w', hrun, r1, r2, r3⟩ := run_append_own (P := Tryz.prog) w base t o.type e i0 z size bytes ht hi0 hz0 hz1 hz2 hzs hsz v 0 [] hown ad rows.length cap rows.flatten (rflat_length hl) hcells (fun u hu => by obtain ⟨r, hr1, hr2⟩ := List.mem_flatten.1 hu; exact h1 r hr1 u hr2) (by unfold maxLen; omega)
   (by have : (0 + rows.length) * bytes ≤ 1000000 * 100 := Nat.mul_le_mul (by omega) hby; omega) hb
  rw [Nat.zero_add, List.nil_append] at r1
  exact fin v' w' hrun (hK v' w' r1 r2)
theorem RowsAt.poke {N g BO j : Nat} {rows : List (List Value)} {w : World} {v : Value} (h : RowsAt N (some ⟨g, 0, none⟩) size rows w) (hne : BO ≠ g) : RowsAt N (some ⟨g, 0, none⟩) size rows (w.setCell ⟨BO, j, none⟩ v) := fun i r hr => by
 obtain ⟨b, o, h1, h2, h3⟩ := h i r hr
 cases h1
 have hh := Below.heap_setCell w ⟨BO, j, none⟩ v g (fun e => by simp at e; omega)
 refine ⟨g, 0, rfl, h2, fun k u hu => ?_⟩
 have := h3 k u hu
 unfold World.cell? at this ⊢
 rw [hh]; exact this
theorem rows_set {N g k f : Nat} {e : TypeId} {rows : List (List Value)} {w : World} {cur : Array Value} {r0 : List Value} {v : Value} (hsz : ∀ r ∈ rows, r.length = size) (hg : Blk w g e cur) (h : RowsAt N (some ⟨g, 0, none⟩) size rows w) (hk : rows[k]? = some r0) (hf : f < size) :
  RowsAt N (some ⟨g, 0, none⟩) size (rows.set k (r0.set f v)) (w.setCell ⟨g, k * size + f, none⟩ v) := fun i r hr => by
 have hB := hg.put (k * size + f) v
 have hkl := (List.getElem?_eq_some_iff.1 hk).1
 have hr0 := hsz r0 (List.mem_of_getElem? hk)
 have hil : i < rows.length := by have := (List.getElem?_eq_some_iff.1 hr).1; simpa using this
 obtain ⟨b0, o0, e1, e2, e3⟩ := h i rows[i] (List.getElem?_eq_getElem hil)
 cases e1
 have hri := hsz rows[i] (List.getElem_mem hil)
 refine ⟨g, 0, rfl, e2, fun j u hu => ?_⟩
 rw [hB.cell]
 by_cases hki : i = k
 ·subst hki
  rw [List.getElem?_set_self hil] at hr
  obtain rfl := Option.some.inj hr
  rw [List.getElem?_eq_getElem hil] at hk
  obtain rfl := Option.some.inj hk
  by_cases hj1 : j = f
  ·subst hj1
   have hlt : i * size + j < cur.size := by
    have := e3 j _ (List.getElem?_eq_getElem (show j < rows[i].length by omega))
    rw [hg.cell] at this
    have := (Array.getElem?_eq_some_iff.1 this).1
    omega
   rw [List.getElem?_set_self (by omega)] at hu
   rw [← hu, show 0 + i * size + j = i * size + j by omega, Array.getElem?_setIfInBounds_self_of_lt hlt]
  ·rw [List.getElem?_set_ne (fun q => hj1 q.symm)] at hu
   rw [Array.getElem?_setIfInBounds_ne (by omega), ← hg.cell]
   exact e3 j u hu
 ·rw [List.getElem?_set_ne (Ne.symm hki), List.getElem?_eq_getElem hil] at hr
  obtain rfl := Option.some.inj hr
  have hj : j < size := by have := (List.getElem?_eq_some_iff.1 hu).1; omega
  rw [Array.getElem?_setIfInBounds_ne ?_, ← hg.cell]
  ·exact e3 j u hu
  ·intro q
   have q1 : (k * size + f) / size = k := by rw [Nat.mul_comm k size, Nat.mul_add_div (by omega), Nat.div_eq_of_lt hf]; omega
   have q2 : (i * size + j) / size = i := by rw [Nat.mul_comm i size, Nat.mul_add_div (by omega), Nat.div_eq_of_lt hj]; omega
   have q3 : k * size + f = i * size + j := by omega
   rw [q3, q2] at q1
   exact hki q1
end
end Go.Proofs.YtnkejaohnhpbpaaGreatDoor
end
section
namespace Go.Proofs.YtnkejaohnhpbpaaGreatDoor
open Go Go.RowKit Lift
def RBook.setC (b : RBook) (k : Nat) (x : RCas) : RBook := { b with cs := b.cs.set k x }
def RBook.setT (b : RBook) (k : Nat) (x : RTrf) : RBook := { b with ts := b.ts.set k x }
theorem map_set_same {α β : Type} {f : α → β} {l : List α} {k : Nat} {x : α} (hk : k < l.length) (h : f x = f l[k]) : (l.set k x).map f = l.map f := by
 rw [List.map_set, h]
 apply List.ext_getElem?
 intro i
 by_cases e : k = i
 ·subst e; rw [List.getElem?_set_self (by simpa using hk)]; simp [hk]
 ·rw [List.getElem?_set_ne e]
theorem setC_right {b : RBook} (hR : b.Right) (hst : ∀ p ∈ b.ps, p.kind ≠ 2) {k : Nat} (hk : k < b.cs.length) {x : RCas} (hn : x.name = (b.casAt k).name)
  (hr : (0 ≤ x.tar ∧ x.tar < b.ts.length) ∧ (0 ≤ x.classes ∧ x.classes ≤ 45) ∧ (0 ≤ x.due ∧ x.due ≤ 9999) ∧ (0 ≤ x.grace ∧ x.grace ≤ 999) ∧ 0 ≤ x.extra ∧ x.extra ≤ 10000) : (b.setC k x).Right := by
 rw [casAt_get hk] at hn
 refine ⟨hR.nc, hR.cn, hR.cd, hR.nt, hR.tn, hR.td, hR.t, by simpa [RBook.setC] using hR.nk, fun c hc => ?_, ?_, fun c hc => ?_, hR.np, fun p hp => ?_⟩
 ·rcases List.mem_or_eq_of_mem_set hc with h | rfl
  ·exact hR.kn c h
  ·rw [hn]; exact hR.kn _ (List.getElem_mem hk)
 ·show ((b.cs.set k x).map (·.name)).Nodup
  rw [map_set_same hk hn]; exact hR.kd
 ·rcases List.mem_or_eq_of_mem_set hc with h | rfl
  ·exact hR.k c h
  ·exact hr
 ·have h := hR.p p hp
  refine ⟨h.1, h.2.1, h.2.2.1, h.2.2.2.1, h.2.2.2.2.1, fun q => ?_, fun q => absurd q (hst p hp)⟩
  have := h.2.2.2.2.2.1 q
  simpa [RBook.setC] using this
theorem setC_lasts {b : RBook} (hR : b.Right) (hst : ∀ p ∈ b.ps, p.kind ≠ 2) {k : Nat} (hk : k < b.cs.length) {x : RCas} (hR' : (b.setC k x).Right) (htar : x.tar = (b.casAt k).tar) (hcl : x.classes ≤ (b.casAt k).classes) (hdu : (b.casAt k).due ≤ x.due) (hg : (b.casAt k).due + (b.casAt k).grace ≤ x.due + x.grace) (hex : x.extra ≤ (b.casAt k).extra) :
  ∀ c, c < b.to.cs.length → b.to.keeps c = true → (b.setC k x).to.keeps c = true ∧ (((b.setC k x).to.after 9999).cases c).day ≤ ((b.to.after 9999).cases c).day := by
 have e : (b.setC k x).to = { b.to with cs := b.to.cs.set k x.to } := by simp only [RBook.setC, RBook.to, List.map_set]
 have hk' : k < b.to.cs.length := by simpa [RBook.to] using hk
 have ea : b.to.casAt k = (b.casAt k).to := by
  unfold Book.casAt RBook.casAt RBook.to
  simp only [List.getD_eq_getElem?_getD, List.getElem?_map, List.getElem?_eq_getElem hk, Option.map_some, Option.getD_some]
 have hv' := hR'.full.v
 rw [e] at hv' ⊢
 intro c hc
 exact lasts_keeps hR.full.v hv' hc (by simpa using hc) (lasts_kinder hR.full.v (to_still hR hst) hv' (kinder_case hk' (by rw [ea]; simp only [RCas.to, htar]) (by rw [ea]; exact hcl) (by rw [ea]; exact hdu) (by rw [ea]; exact hg) (by rw [ea]; exact hex)) hc)
theorem setT_right {b : RBook} (hR : b.Right) (hst : ∀ p ∈ b.ps, p.kind ≠ 2) {k : Nat} (hk : k < b.ts.length) {x : RTrf} (hn : x.name = (b.tarAt k).name)
  (hr : (0 ≤ x.coin ∧ x.coin < b.coins.length) ∧ (0 ≤ x.base ∧ x.base ≤ 10000) ∧ (0 ≤ x.each ∧ x.each ≤ 10000) ∧ 0 ≤ x.free ∧ x.free ≤ 45) : (b.setT k x).Right := by
 rw [tarAt_get hk] at hn
 refine ⟨hR.nc, hR.cn, hR.cd, by simpa [RBook.setT] using hR.nt, fun c hc => ?_, ?_, fun c hc => ?_, hR.nk, hR.kn, hR.kd, fun c hc => ?_, hR.np, fun p hp => ?_⟩
 ·rcases List.mem_or_eq_of_mem_set hc with h | rfl
  ·exact hR.tn c h
  ·rw [hn]; exact hR.tn _ (List.getElem_mem hk)
 ·show ((b.ts.set k x).map (·.name)).Nodup
  rw [map_set_same hk hn]; exact hR.td
 ·rcases List.mem_or_eq_of_mem_set hc with h | rfl
  ·exact hR.t c h
  ·exact hr
 ·have := hR.k c hc
  simpa [RBook.setT] using this
 ·have h := hR.p p hp
  exact ⟨h.1, h.2.1, h.2.2.1, h.2.2.2.1, h.2.2.2.2.1, h.2.2.2.2.2.1, fun q => absurd q (hst p hp)⟩
theorem setT_lasts {b : RBook} (hR : b.Right) (hst : ∀ p ∈ b.ps, p.kind ≠ 2) {k : Nat} (hk : k < b.ts.length) {x : RTrf} (hR' : (b.setT k x).Right) (hco : x.coin = (b.tarAt k).coin) (hea : x.each = (b.tarAt k).each) (hba : x.base ≤ (b.tarAt k).base) (hfr : (b.tarAt k).free ≤ x.free) :
  ∀ c, c < b.to.cs.length → b.to.keeps c = true → (b.setT k x).to.keeps c = true ∧ (((b.setT k x).to.after 9999).cases c).day ≤ ((b.to.after 9999).cases c).day := by
 have e : (b.setT k x).to = { b.to with ts := b.to.ts.set k x.to } := by simp only [RBook.setT, RBook.to, List.map_set]
 have hk' : k < b.to.ts.length := by simpa [RBook.to] using hk
 have ea : b.to.ts.getD k ⟨⟨#[]⟩, 0, 0, 0, 0⟩ = (b.tarAt k).to := by
  unfold RBook.tarAt RBook.to
  simp only [List.getD_eq_getElem?_getD, List.getElem?_map, List.getElem?_eq_getElem hk, Option.map_some, Option.getD_some]
 have hv' := hR'.full.v
 rw [e] at hv' ⊢
 intro c hc
 exact lasts_keeps hR.full.v hv' hc hc (lasts_kinder hR.full.v (to_still hR hst) hv' (kinder_tariff hR.full.v hk' (by rw [ea]; simp only [RTrf.to, hco]) (by rw [ea]; simp only [RTrf.to, hea]) (by rw [ea]; exact hba) (by rw [ea]; exact hfr)) hc)
end Go.Proofs.YtnkejaohnhpbpaaGreatDoor
end
