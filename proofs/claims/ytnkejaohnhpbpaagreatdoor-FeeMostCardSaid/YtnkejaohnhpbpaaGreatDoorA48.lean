/- The money: what came in is what the account has, what is held, and what was taken; in plain words. -/
import Derived.Test.YtnkejaohnhpbpaaGreatDoorA11
import Derived.Test.YtnkejaohnhpbpaaGreatDoorA14
import Derived.Test.YtnkejaohnhpbpaaGreatDoorA38
set_option linter.all false
section
namespace Go.Proofs.YtnkejaohnhpbpaaGreatDoor
open Go Go.RowKit
def Book.aligned (b:Book):Prop:=∀ p ∈ b.ps,p.kind = 2 → p.coin = b.coin p.cas
def sumC (b:Book) (k:Nat) (f:Nat → Int):Nat → Int
 | 0 => 0
 | m + 1 => sumC b k f m + if b.coin m = k then f m else 0
theorem sumC_congr {b:Book} {k:Nat} {f g:Nat → Int}:∀ {m:Nat},(∀ c,c < m → f c = g c) → sumC b k f m = sumC b k g m
 | 0,_ => rfl
 | m + 1,h => by simp only [sumC];rw [sumC_congr (fun c hc => h c (by omega)),h m (by omega)]
theorem sumC_nonneg {b:Book} {k:Nat} {f:Nat → Int}:∀ {m:Nat},(∀ c,c < m → 0 ≤ f c) → 0 ≤ sumC b k f m
 | 0,_ => Int.le_refl _
 | m + 1,h => by
  have:=sumC_nonneg (b:=b) (k:=k) (fun c (hc:c < m) => h c (by omega));have:=h m (by omega);simp only [sumC];split <;> omega
theorem sumC_each {b:Book} {f:Nat → Int}:∀ {m c:Nat},(∀ c,c < m → 0 ≤ f c) → c < m → f c ≤ sumC b (b.coin c) f m
 | 0,c,_,hc => by omega
 | m + 1,c,h,hc => by
  have h0:=sumC_nonneg (b:=b) (k:=b.coin c) (fun c (hc:c < m) => h c (by omega));have:=h m (by omega);simp only [sumC];by_cases e:c = m
  ·subst e;rw [if_pos rfl];omega
  ·have:=sumC_each (b:=b) (fun c (hc:c < m) => h c (by omega)) (show c < m by omega);split <;> omega
theorem sumC_upd {b:Book} {k:Nat} {f g:Nat → Int} {c:Nat} (hfg:∀ j,j ≠ c → g j = f j):∀ {m:Nat},c < m → sumC b k g m = sumC b k f m + if b.coin c = k then g c - f c else 0
 | 0,h => by omega
 | m + 1,h => by
  simp only [sumC];by_cases e:c = m
  ·subst e;rw [sumC_congr (fun j hj => hfg j (by omega))];split <;> omega
  ·rw [sumC_upd hfg (show c < m by omega),hfg m (fun h => e h.symm)];omega
def heldOf (s:St) (c:Nat):Int:=(s.cases c).held
def tookOf (s:St) (c:Nat):Int:=if (s.cases c).state = 1 then (s.cases c).fee else 0
structure Sums (b:Book) (M:Int) (s:St):Prop where
 acc:∀ k,k < 3 → 0 ≤ s.acc k
 tkn:∀ k,k < 3 → 0 ≤ s.tkn k
 held:∀ c,c < b.cs.length → 0 ≤ (s.cases c).held
 shut:∀ c,c < b.cs.length → (s.cases c).state ≠ 0 → (s.cases c).held = 0
 sum:∀ k,k < 3 → s.pd k = s.acc k + sumC b k (heldOf s) b.cs.length + s.tkn k
 took:∀ k,k < 3 → s.tkn k = sumC b k (tookOf s) b.cs.length
 most:∀ k,k < 3 → s.pd k ≤ M
theorem upd_self {α:Type} (f:Nat → α) (i:Nat):upd f i (f i) = f:=by
 funext j;unfold upd;split
 ·rename_i h;rw [h]
 ·rfl
section
variable {b:Book} {M:Int} {s:St}
theorem Sums.init (b:Book):Sums b 0 St.init:=by
 have h0:∀ k m,sumC b k (heldOf St.init) m = 0:=fun k m => by
  have e:sumC b k (heldOf St.init) m = sumC b k (fun _ => 0) m:=sumC_congr fun c _ => rfl;rw [e]
  induction m with
  | zero => rfl
  | succ m ih => simp only [sumC,ite_self];rw [ih ?_];rfl;exact sumC_congr fun c _ => rfl
 have h1:∀ k m,sumC b k (tookOf St.init) m = 0:=fun k m => by
  rw [← h0 k m];exact sumC_congr fun c _ => rfl
 refine ⟨fun _ _ => Int.le_refl _,fun _ _ => Int.le_refl _,fun _ _ => Int.le_refl _,fun _ _ _ => rfl,fun k _ => ?_,fun k _ => ?_,fun _ _ => Int.le_refl _⟩
 ·rw [h0];rfl
 ·rw [h1];rfl
theorem Sums.mono {M':Int} (h:Sums b M s) (hm:M ≤ M'):Sums b M' s:=⟨h.acc,h.tkn,h.held,h.shut,h.sum,h.took,fun k hk => by have:=h.most k hk;omega⟩
theorem Sums.bounds (h:Sums b M s) {k:Nat} (hk:k < 3):s.acc k ≤ M ∧ s.tkn k ≤ M ∧ sumC b k (heldOf s) b.cs.length ≤ M ∧ 0 ≤ sumC b k (heldOf s) b.cs.length:=by
 have:=h.acc k hk;have:=h.tkn k hk;have:=h.sum k hk;have:=h.most k hk;have:=sumC_nonneg (b:=b) (k:=k) (f:=heldOf s) (m:=b.cs.length) h.held;omega
theorem Sums.heldLe (h:Sums b M s) {c:Nat} (hc:c < b.cs.length) (hk:b.coin c < 3):(s.cases c).held ≤ M:=by
 have:=(h.bounds hk).2.2.1;have:=sumC_each (b:=b) (f:=heldOf s) h.held hc;have e:heldOf s c = (s.cases c).held:=rfl;omega
theorem Sums.turn (h:Sums b M s) {c:Nat} (hc:c < b.cs.length) (hk:b.coin c < 3) {s':St} {x:Std} {A T D M':Int} (e1:s'.cases = upd s.cases c x) (eA:s'.acc = upd s.acc (b.coin c) A) (eT:s'.tkn = upd s.tkn (b.coin c) T) (eD:s'.pd = upd s.pd (b.coin c) D)
  (hA:0 ≤ A) (hT:0 ≤ T) (hx:0 ≤ x.held) (hs:x.state ≠ 0 → x.held = 0) (hsum:D - s.pd (b.coin c) = (A - s.acc (b.coin c)) + (x.held - (s.cases c).held) + (T - s.tkn (b.coin c)))
  (htk:T - s.tkn (b.coin c) = (if x.state = 1 then x.fee else 0) - tookOf s c) (hM:M ≤ M') (hD:D ≤ M'):Sums b M' s':=by
 have hne:∀ j,j ≠ c → s'.cases j = s.cases j:=fun j hj => by rw [e1,upd_ne _ _ hj]
 have hat:s'.cases c = x:=by rw [e1,upd_same]
 have key:∀ {k:Nat} (f:Nat → Int) (v:Int) , upd f (b.coin c) v k = if b.coin c = k then v else f k:=fun {k} f v => by
  unfold upd;by_cases e:k = b.coin c
  ·rw [if_pos e,if_pos e.symm]
  ·rw [if_neg e,if_neg (fun h => e h.symm)]
 have hh:∀ k,sumC b k (heldOf s') b.cs.length = sumC b k (heldOf s) b.cs.length + if b.coin c = k then x.held - (s.cases c).held else 0:=fun k => by
  rw [sumC_upd (f:=heldOf s) (c:=c) (fun j hj => by unfold heldOf;rw [hne j hj]) hc];unfold heldOf;rw [hat]
 have ht:∀ k,sumC b k (tookOf s') b.cs.length = sumC b k (tookOf s) b.cs.length + if b.coin c = k then (if x.state = 1 then x.fee else 0) - tookOf s c else 0:=fun k => by
  rw [sumC_upd (f:=tookOf s) (c:=c) (fun j hj => by unfold tookOf;rw [hne j hj]) hc];have:tookOf s' c = if x.state = 1 then x.fee else 0:=by unfold tookOf;rw [hat]
  rw [this]
 refine ⟨fun k hk3 => ?_,fun k hk3 => ?_,fun j hj => ?_,fun j hj => ?_,fun k hk3 => ?_,fun k hk3 => ?_,fun k hk3 => ?_⟩
 ·rw [eA,key];have:=h.acc k hk3;split <;> omega
 ·rw [eT,key];have:=h.tkn k hk3;split <;> omega
 ·by_cases e:j = c
  ·subst e;rw [hat];exact hx
  ·rw [hne j e];exact h.held j hj
 ·by_cases e:j = c
  ·subst e;rw [hat];exact hs
  ·rw [hne j e];exact h.shut j hj
 ·rw [eD,eA,eT,key,key,key,hh];have:=h.sum k hk3;split
  ·rename_i e;subst e;omega
  ·omega
 ·rw [eT,key,ht];have:=h.took k hk3;split
  ·rename_i e;subst e;omega
  ·omega
 ·rw [eD,key];have:=h.most k hk3;split <;> omega
theorem Sums.fund (h:Sums b M s) {k:Nat} (hk:k < 3) {am:Int} (ha:0 ≤ am) (ham:am ≤ 10000) (hM:0 ≤ M) (hM2:M ≤ 10000000000):Sums b (M + 10000) ((s.addPd k am).addAcc k am):=by
 have hb:=h.bounds hk;have h0:=h.acc k hk;have hm:=h.most k hk;have hsum:=h.sum k hk;have ht:=h.tkn k hk;have w1:wrap64 (s.acc k + am) = s.acc k + am:=by unfold wrap64;omega
 have w2:wrap64 (s.pd k + am) = s.pd k + am:=by unfold wrap64;omega
 have eacc:((s.addPd k am).addAcc k am).acc = upd s.acc k (s.acc k + am):=by
  show upd s.acc k (wrap64 (s.acc k + am)) = _;rw [w1]
 have epd:((s.addPd k am).addAcc k am).pd = upd s.pd k (s.pd k + am):=by
  show upd s.pd k (wrap64 (s.pd k + am)) = _;rw [w2]
 refine ⟨fun j hj => ?_,h.tkn,h.held,h.shut,fun j hj => ?_,h.took,fun j hj => ?_⟩
 ·rw [eacc];unfold upd;have:=h.acc j hj;split <;> omega
 ·rw [eacc,epd];have:=h.sum j hj
  show _ = _ + sumC b j (heldOf s) _ + s.tkn j
  unfold upd;split
  ·rename_i e;subst e;omega
  ·omega
 ·rw [epd];unfold upd;have:=h.most j hj;split <;> omega
theorem Sums.lapse1 (h:Sums b M s) (hv:Valid b) (d:Int) {c:Nat} (hc:c < b.cs.length) (hM:M ≤ 10000000000):Sums b M (St.lapse1 b d c s):=by
 unfold St.lapse1;split
 ·rename_i hst;have hk:=(hv.coin hc).2;have hb:=h.bounds hk;have h0:=h.acc _ hk;have hh:=h.held c hc;have hl:=h.heldLe hc hk;have w1:wrap64 (s.acc (b.coin c) + (s.cases c).held) = s.acc (b.coin c) + (s.cases c).held:=by unfold wrap64;omega
  refine h.turn (M':=M) hc hk (x:=⟨2,0,(s.cases c).day,(s.cases c).fee⟩) (A:=s.acc (b.coin c) + (s.cases c).held) (T:=s.tkn (b.coin c)) (D:=s.pd (b.coin c)) ?_ ?_ (upd_self _ _).symm (upd_self _ _).symm (by omega) (h.tkn _ hk) (Int.le_refl _) (fun _ => rfl) ?_ ?_ (Int.le_refl _) (h.most _ hk)
  ·show upd (upd s.cases c _) c _ = _
   rw [upd_upd];have:(s.give b c).cases c = { s.cases c with held:=0 }:=upd_same _ _ _;rw [this]
  ·show upd s.acc (b.coin c) (wrap64 _) = _
   rw [w1]
  ·show s.pd (b.coin c) - s.pd (b.coin c) = (s.acc (b.coin c) + (s.cases c).held - s.acc (b.coin c)) + (0 - (s.cases c).held) + (s.tkn (b.coin c) - s.tkn (b.coin c))
   omega
  ·have e:tookOf s c = 0:=by unfold tookOf;rw [if_neg (by omega)]
   rw [e];simp
 ·exact h
theorem Sums.keep1 (h:Sums b M s) (hv:Valid b) (d:Int) {c:Nat} (hc:c < b.cs.length) (hM:M ≤ 10000000000):Sums b M (St.keep1 b d c s):=by
 unfold St.keep1;split
 ·rename_i hst;have hk:=(hv.coin hc).2;have hb:=h.bounds hk;have h0:=h.acc _ hk;have h1:=h.tkn _ hk;have hsm:=h.sum _ hk;have hmo:=h.most _ hk;have hh:=h.held c hc;have hl:=h.heldLe hc hk;have hse:=sumC_each (b:=b) (f:=heldOf s) h.held hc;have hse2:heldOf s c = (s.cases c).held:=rfl;have hf:=hv.fee_le hc d;have w0:wrap64 ((s.cases c).held - (b.fee c d).1) = (s.cases c).held - (b.fee c d).1:=by unfold wrap64;omega
  have w1:wrap64 (s.acc (b.coin c) + ((s.cases c).held - (b.fee c d).1)) = s.acc (b.coin c) + ((s.cases c).held - (b.fee c d).1):=by unfold wrap64;omega
  have w2:wrap64 (s.tkn (b.coin c) + (b.fee c d).1) = s.tkn (b.coin c) + (b.fee c d).1:=by unfold wrap64;omega
  refine h.turn (M':=M) hc hk (x:=⟨1,0,d,(b.fee c d).1⟩) (A:=s.acc (b.coin c) + ((s.cases c).held - (b.fee c d).1)) (T:=s.tkn (b.coin c) + (b.fee c d).1) (D:=s.pd (b.coin c)) ?_ ?_ ?_ (upd_self _ _).symm (by omega) (by omega) (Int.le_refl _) (fun _ => rfl) ?_ ?_ (Int.le_refl _) (h.most _ hk)
  ·show upd (upd (upd s.cases c _) c _) c _ = _
   rw [upd_upd,upd_upd]
  ·show upd s.acc (b.coin c) (wrap64 (s.acc (b.coin c) + ((upd s.cases c _) c).held)) = _
   rw [upd_same]
   show upd s.acc (b.coin c) (wrap64 (s.acc (b.coin c) + wrap64 ((s.cases c).held - (b.fee c d).1))) = _
   rw [w0,w1]
  ·show upd s.tkn (b.coin c) (wrap64 (s.tkn (b.coin c) + (b.fee c d).1)) = _
   rw [w2]
  ·show s.pd (b.coin c) - s.pd (b.coin c) = (s.acc (b.coin c) + ((s.cases c).held - (b.fee c d).1) - s.acc (b.coin c)) + (0 - (s.cases c).held) + (s.tkn (b.coin c) + (b.fee c d).1 - s.tkn (b.coin c))
   omega
  ·have e:tookOf s c = 0:=by unfold tookOf;rw [if_neg (by omega)]
   rw [e];simp only [if_true];omega
 ·exact h
theorem Sums.iter {f:Nat → St → St} {n:Nat} (hf:∀ c s,c < n → Sums b M s → Sums b M (f c s)) (h:Sums b M s):∀ k,k ≤ n → Sums b M (iter f k s)
 | 0,_ => h
 | k + 1,hk => hf k _ (by omega) (Sums.iter hf h k (by omega))
theorem Sums.lapse (h:Sums b M s) (hv:Valid b) (d:Int) (hM:M ≤ 10000000000):Sums b M (s.lapse b d):=Sums.iter (fun _ _ hc hs => hs.lapse1 hv d hc hM) h _ (Nat.le_refl _)
theorem Sums.keep (h:Sums b M s) (hv:Valid b) (d:Int) (hM:M ≤ 10000000000):Sums b M (s.keep b d):=Sums.iter (fun _ _ hc hs => hs.keep1 hv d hc hM) h _ (Nat.le_refl _)
theorem Sums.inn (h:Sums b M s) (hv:Valid b) {i:Nat} (hi:i < b.ps.length) (hkd:(b.payAt i).kind ≠ 1) (hM:0 ≤ M) (hM2:M ≤ 10000000000):Sums b (M + 10000) (s.inn b i):=by
 have hp:=hv.p _ (hv.pay hi);have hnc:=hv.nc;have hk3:(b.payAt i).coin < 3:=by omega
 unfold St.inn;split
 ·rename_i hst;have hc:=hp.2.2.2.2.2.2.2 hkd;have hk:=(hv.coin hc).2;have hl:=h.heldLe hc hk;have hh:=h.held _ hc;have hb:=h.bounds hk;have hsm:=h.sum _ hk;have hmo:=h.most _ hk;have h0:=h.acc _ hk;have h1:=h.tkn _ hk;have w1:wrap64 ((s.cases (b.payAt i).cas).held + (b.payAt i).amount) = (s.cases (b.payAt i).cas).held + (b.payAt i).amount:=by unfold wrap64;omega
  have w2:wrap64 (s.pd (b.coin (b.payAt i).cas) + (b.payAt i).amount) = s.pd (b.coin (b.payAt i).cas) + (b.payAt i).amount:=by unfold wrap64;omega
  rw [hst.2];refine h.turn (M':=M + 10000) hc hk (x:={ s.cases (b.payAt i).cas with held:=(s.cases (b.payAt i).cas).held + (b.payAt i).amount }) (A:=s.acc (b.coin (b.payAt i).cas)) (T:=s.tkn (b.coin (b.payAt i).cas)) (D:=s.pd (b.coin (b.payAt i).cas) + (b.payAt i).amount) ?_ (upd_self _ _).symm (upd_self _ _).symm ?_ h0 h1 (by simp only;omega) (fun hn => absurd hst.1 hn) ?_ ?_ (by omega) (by omega)
  ·show upd s.cases (b.payAt i).cas { s.cases (b.payAt i).cas with held:=wrap64 ((s.cases (b.payAt i).cas).held + (b.payAt i).amount) } = _
   rw [w1]
  ·show upd s.pd _ (wrap64 _) = _
   rw [w2]
  ·simp only;omega
  ·have e:tookOf s (b.payAt i).cas = 0:=by unfold tookOf;rw [if_neg (by have:=hst.1;omega)]
   rw [e,if_neg (by have:=hst.1;simp only;omega)];omega
 ·exact h.fund hk3 (by omega) hp.2.2.2.2.2.1 hM hM2
theorem Sums.ins (h:Sums b M s) (hv:Valid b) (d:Int) (hM:0 ≤ M) (hM2:M ≤ 9000000000):∀ k,k ≤ b.ps.length → Sums b (M + 10000 * k) (Go.Proofs.YtnkejaohnhpbpaaGreatDoor.iter (St.ins1 b d) k s)
 | 0,_ => h.mono (by omega)
 | k + 1,hk => by
  have ih:=Sums.ins h hv d hM hM2 k (by omega);have hp:=hv.p _ (hv.pay (show k < b.ps.length by omega));have hnc:=hv.nc;have hnp:=hv.np
  show Sums b _ (St.ins1 b d k (Go.Proofs.YtnkejaohnhpbpaaGreatDoor.iter (St.ins1 b d) k s))
  unfold St.ins1;split
  ·split
   ·exact (ih.fund (show (b.payAt k).coin < 3 by omega) (by omega) hp.2.2.2.2.2.1 (by omega) (by omega)).mono (by omega)
   ·rename_i hkd;exact (ih.inn hv (by omega) hkd (by omega) (by omega)).mono (by omega)
  ·exact ih.mono (by omega)
theorem Sums.mv (h:Sums b M s) (hv:Valid b) (ha:b.aligned) {i:Nat} (hi:i < b.ps.length) (hkd:(b.payAt i).kind = 2) (hM2:M ≤ 10000000000):Sums b M (s.mv b i):=by
 have hp:=hv.p _ (hv.pay hi);have hco:=ha _ (hv.pay hi) hkd;unfold St.mv;split
 ·rename_i hst;have hc:=hp.2.2.2.2.2.2.2 (by omega);have hk:=(hv.coin hc).2;have hl:=h.heldLe hc hk;have hh:=h.held _ hc;have hb:=h.bounds hk;have h0:=h.acc _ hk;have h1:=h.tkn _ hk;obtain ⟨_,ho,hw⟩:=hst;rw [hco] at hw;have w0:wrap64 (s.acc (b.coin (b.payAt i).cas) - (b.payAt i).amount) = s.acc (b.coin (b.payAt i).cas) - (b.payAt i).amount:=by unfold wrap64;omega
  have w1:wrap64 ((s.cases (b.payAt i).cas).held + (b.payAt i).amount) = (s.cases (b.payAt i).cas).held + (b.payAt i).amount:=by unfold wrap64;omega
  rw [w0] at hw;refine Sums.keep ?_ hv _ hM2;rw [hco];refine h.turn (M':=M) hc hk (x:={ s.cases (b.payAt i).cas with held:=(s.cases (b.payAt i).cas).held + (b.payAt i).amount }) (A:=s.acc (b.coin (b.payAt i).cas) - (b.payAt i).amount) (T:=s.tkn (b.coin (b.payAt i).cas)) (D:=s.pd (b.coin (b.payAt i).cas)) ?_ ?_ (upd_self _ _).symm (upd_self _ _).symm hw h1 (by simp only;omega) (fun hn => absurd ho hn) ?_ ?_ (Int.le_refl _) (h.most _ hk)
  ·show upd s.cases (b.payAt i).cas { s.cases (b.payAt i).cas with held:=wrap64 ((s.cases (b.payAt i).cas).held + (b.payAt i).amount) } = _
   rw [w1]
  ·show upd s.acc _ (wrap64 _) = _
   rw [w0]
  ·simp only;omega
  ·have e:tookOf s (b.payAt i).cas = 0:=by unfold tookOf;rw [if_neg (by omega)]
   rw [e,if_neg (by simp only;omega)];omega
 ·exact ⟨h.acc,h.tkn,h.held,h.shut,h.sum,h.took,h.most⟩
theorem Sums.mvs (h:Sums b M s) (hv:Valid b) (ha:b.aligned) (d:Int) (hM:M ≤ 10000000000):Sums b M (s.mvs b d):=
 Sums.iter (fun c s hc hs => by
  unfold St.mvs1;split
  ·rename_i hk;exact hs.mv hv ha hc hk.2 hM
  ·exact hs) h _ (Nat.le_refl _)
theorem Sums.day1 (h:Sums b M s) (hv:Valid b) (ha:b.aligned) (d:Int) (hM:0 ≤ M) (hM2:M ≤ 8000000000):Sums b (M + 100000) (St.day1 b s d):=by
 have hnp:=hv.np;have:=(h.lapse hv d (by omega)).ins hv d hM (by omega) b.ps.length (Nat.le_refl _);exact ((this.mono (M':=M + 100000) (by omega)).keep hv d (by omega)).mvs hv ha d (by omega)
end
theorem after_sums {b:Book} (hv:Valid b) (ha:b.aligned):∀ n:Nat,n ≤ 9999 → Sums b (100000 * (n + 1)) (b.after n)
 | 0,_ => by
  have e:=b.after_succ (-1);rw [show (-1:Int) + 1 = 0 from rfl,if_pos b.zero_ev,hv.after_zero] at e
  show Sums b _ (b.after 0)
  rw [e];exact ((Sums.init b).day1 hv ha 0 (Int.le_refl _) (by decide)).mono (by decide)
 | n + 1,hn => by
  have ih:=after_sums hv ha n (by omega);have e:=b.after_succ n;have e2:((n + 1:Nat):Int) = (n:Int) + 1:=by omega
  rw [e2,e];split
  ·exact (ih.day1 hv ha _ (by omega) (by omega)).mono (by omega)
  ·exact ih.mono (by omega)
def Book.paidTo (b:Book) (k:Nat) (n:Int):Nat → Int
 | 0 => 0
 | i + 1 => b.paidTo k n i + if (b.payAt i).kind ≠ 2 ∧ (b.payAt i).coin = k ∧ (b.payAt i).day ≤ n then (b.payAt i).amount else 0
def Book.paidOn (b:Book) (k:Nat) (n:Int):Nat → Int
 | 0 => 0
 | i + 1 => b.paidOn k n i + if (b.payAt i).kind ≠ 2 ∧ (b.payAt i).coin = k ∧ (b.payAt i).day = n then (b.payAt i).amount else 0
end Go.Proofs.YtnkejaohnhpbpaaGreatDoor
end
section
namespace Go.Proofs.YtnkejaohnhpbpaaGreatDoor
open Go Go.RowKit
end Go.Proofs.YtnkejaohnhpbpaaGreatDoor
end
section
namespace Go.Proofs.YtnkejaohnhpbpaaGreatDoor
open Go Go.RowKit Lift
structure SumsAre (b:Book) (k:Nat) (n:Nat):Prop where
 a0:0 ≤ (b.after n).acc k
 h0:0 ≤ b.heldOf (b.after n) k
 t0:0 ≤ (b.after n).tkn k
 sum:(b.after n).pd k = (b.after n).acc k + b.heldOf (b.after n) k + (b.after n).tkn k
 all:(b.after n).pd k = b.paidTo k n b.ps.length
 most:(b.after n).pd k ≤ 100000
theorem Full.al {b:Book} (hf:Full b):b.aligned:=hf.mv
end Go.Proofs.YtnkejaohnhpbpaaGreatDoor
end
