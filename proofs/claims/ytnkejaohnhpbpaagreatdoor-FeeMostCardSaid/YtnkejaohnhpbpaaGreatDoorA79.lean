/- FeeMost, beside leavers. PRINTED BY A PROGRAM. -/
import Derived.Test.YtnkejaohnhpbpaaGreatDoorA36
import Derived.Test.YtnkejaohnhpbpaaGreatDoorA63
import Derived.Test.YtnkejaohnhpbpaaGreatDoorA75
set_option linter.all false
namespace Go.Proofs.YtnkejaohnhpbpaaGreatDoor
open Go Go.Conc Go.RowKit Lift
theorem hideH {F:Fence} {n:Nat} {P:Program} {c:Code} {Q:Exit → Act → World → Prop} {a:Act} {w:World} (h:∀ Q':Exit → Act → World → Prop,RowKit.Hid (∀ e a w,Q e a w → Q' e a w) → c.wpIn F n P Q' a w):c.wpIn F n P Q a w:=h Q (Lib.hid fun _ _ _ q => q)
structure WS1 (i0:Nat) (w0:World) (BO k:Nat) (v:Value) (D:Nat → Bool) (x:Tmp → Value) (w:World):Prop where
 fin:D i0 = true → ∃ w1,Below w0.heap.size w0 w1 ∧ w = w1.setCell ⟨BO,k,none⟩ v
 bel:D i0 = false → Below w0.heap.size w0 w
theorem WS1.start {i0 BO k:Nat} {w0:World} {v:Value} {x:Tmp → Value}:WS1 i0 w0 BO k v (fun _ => false) x { w0 with drawn:=w0.drawn + 1 }:=
 ⟨fun h => by (cases h),fun _ => ⟨rfl,rfl,rfl,Nat.le_refl _,fun _ _ => rfl⟩⟩
theorem WS1.step {i0 BO k i:Nat} {w0 w w':World} {v:Value} {x:Tmp → Value} {D:Nat → Bool} (h:WS1 i0 w0 BO k v D x w) (hi:i ≠ i0) (hd:D i0 = false) (hb:Below w.heap.size w w'):WS1 i0 w0 BO k v (alsoG D i) x w':=by
 have e:alsoG D i i0 = D i0:=alsoG_ne (Ne.symm hi);exact ⟨fun q => nof (e.trans hd) q,fun _ => (h.bel hd).trans (hb.mono (h.bel hd).size)⟩
theorem WS1.store {i0 BO k:Nat} {w0 w:World} {v:Value} {x:Tmp → Value} {D:Nat → Bool} (h:WS1 i0 w0 BO k v D x w) (hd:D i0 = false):WS1 i0 w0 BO k v (alsoG D i0) x (w.setCell ⟨BO,k,none⟩ v):=
 ⟨fun _ => ⟨w,h.bel hd,rfl⟩,fun q => nof q alsoG_eq⟩
structure W8 (w0:World) (n:Nat) (D:Nat → Bool) (x:Tmp → Value) (w:World):Prop where
 w3:W3 3 7 11 69 73 77 w0 n D x w
 c1:Copied 3 12 69 15 D x
 c2:Copied 7 13 73 16 D x
 c3:Copied 11 14 77 17 D x
set_option maxHeartbeats 16000000 in
set_option maxRecDepth 1000000 in
theorem law15 [Keep] {w:World} {l:Lay} {b:RBook} (hbk:RBkAt w.heap.size l b w) (hcap:b.coins.length ≤ l.cc) (hkd:KindsAt w) (hlim:Keep.lim ≤ w.heap.size) {day set_ oth:Int} (d0:0 ≤ day) (d1:day ≤ 65535) (s0:0 ≤ set_) (s1:set_ ≤ 255) (o0:0 ≤ oth) (o1:oth ≤ 255) :
  Raw Tryz.prog (AtLeave Tryz.prog 15 Tryz.f15 fun v w1 S1 => v = .bool true ∧ GrowS w.heap.size w (fun _ => False) w1 S1) (G (Frame.enter Tryz.prog 15 #[.agg (l.rarr b),.int .u16 day,.int .u8 set_,.int .u8 oth] .normal) []) w (fun _ => False):=by
 refine raw_of_wpR fit (by simp) Tryz.func15 rfl ?_;generalize (fun _ => False:Blks) = S;simp only [Tryz.ntmps15,List.size_toArray,List.length_cons,List.length_nil,Nat.reduceAdd,Nat.reduceSub,Array.replicate_succ,Array.replicate_zero,List.push_toArray,List.append_toArray,List.nil_append,List.cons_append];refine wpR_thenZ fun wa hs => ?_;gi_wp2;have E:LawAt w S w.heap.size l b wa.heap.size (wa.alloc (.cells (l.rarr b) 27)) S:=by
  have hsz:wa.heap.size = w.heap.size:=by rw [hs.heap]
  have hg:Grow w.heap.size w (wa.alloc (.cells (l.rarr b) 27)):=hs.grow ((Below.refl w.heap.size wa).alloc (by omega) _);exact ⟨hg.s,hbk.grow hg,Blk.new _ _ _,by omega,hkd.grow hg hkd.lt⟩
 have h0:=hkd.lt;clear hs hbk hkd;generalize wa.alloc _ = W at *;generalize wa.heap.size = B at *;refine wpR_seq fit ?_;refine wpR_lawZ E fun wb E => ?_;have g0:=E.bx.cell 0;have g1:=E.bx.cell 1;have g2:=E.bx.cell 2;have g3:=E.bx.cell 3;simp at g0 g1 g2 g3;have ltB:=E.bx.lt;have hcall:=Fit_in E.bk hcap
 gi_wp2_with (gi_at_call 35;with_reducible refine hcall.mono ?_;rintro e w2 ⟨⟨r,rfl,hr⟩,hb2⟩;replace E:=E.below hb2;clear g0 g1 g2 g3 ltB hb2;have g0:=E.bx.cell 0;have g1:=E.bx.cell 1;have g2:=E.bx.cell 2;have g3:=E.bx.cell 3;simp at g0 g1 g2 g3;have ltB:=E.bx.lt;rcases r with _ | _)
 ·refine wpR_cond fit (t:=true) rfl ?_;simp (maxSteps:=100000000) only [if_true];refine wpR_seq fit (wpR_region fit ?_);simp only [List.size_toArray,List.length_cons,List.length_nil,Nat.reduceAdd,List.range,List.range.loop];refine opsR_callZ rfl rfl rfl Tryz.func17 (by kernel_rfl) body17 (vals:=#[]) (by simp) (paid_R E.kd (Nat.le_trans hlim E.g.size)) ?_;rintro u w5 S5 ⟨rfl,hg5⟩;replace E:=E.grow hg5;clear hg5;refine opsR_loneZ rfl rfl fun wr hs => ?_;replace E:=E.same hs;clear hs;gi_wp2;refine opsR_nil fit ?_;refine wpR_ret fit ?_;exact ⟨rfl,.bool true,fun τ d => by rw [results_tmp rfl];rfl,rfl,E.g⟩
 ·have hR:b.Right:=hr (by trivial);have hf:=hR.full;have hnc:=hR.nc;have hnk:=hR.nk;refine wpR_cond fit (t:=false) rfl ?_;simp (maxSteps:=100000000) only [Bool.false_eq_true,if_false];refine wpR_skip fit ?_;clear g0 g1 g2 g3 ltB;clear hr;refine wpR_lawZ E fun wr E => ?_;gi_wp2;obtain ⟨n,en⟩:∃ n:Nat,day % 10000 = n:=⟨(day % 10000).toNat,by omega⟩
  have hn:n ≤ 9999:=by omega
  rw [en];clear en;simp (maxSteps:=100000000) only [thenR];refine wpR_lawZ E fun wr E => ?_;have g0:=E.bx.cell 0;have g1:=E.bx.cell 1;have g2:=E.bx.cell 2;have g3:=E.bx.cell 3;simp at g0 g1 g2 g3;have ltB:=E.bx.lt;have hcall:=Plan_in (E.bk.to hR) hf E.kd (day:=n) (by omega) (by omega);rw [RBook.to_val] at hcall
  gi_wp2_with (gi_at_call 31;with_reducible refine hcall.mono ?_;rintro e w4 ⟨vl,vp,cs,ps,rfl,hpl,hvl,hvp,hb4⟩)
  clear g0 g1 g2 g3 ltB;replace E:=E.below hb4;have hMA:=most_are hf hn hpl;have hL:=owns_seq hvl (sortI_length cs).symm;have hP:=owns_seq hvp (sortI_length ps).symm;have hPll:(sortI ps).length ≤ 1000:=by
   have h1:=(planned_length hpl).2;have h2:b.coins.length * b.to.cs.length ≤ 3 * 6:=Nat.mul_le_mul hnc hf.v.nk;rw [sortI_length];have h3:ps.length ≤ b.coins.length * b.to.cs.length:=h1;omega
  clear hcall hb4 hvp hpl hvl;generalize sortI cs = L at *;generalize sortI ps = PL at *;clear cs ps;have hLl:L.length ≤ 6:=Nat.le_trans (few_len b.to.cs.length L hMA.op.nd fun x hx => by
   obtain ⟨c,rfl,h1,-⟩:=hMA.op.of x hx;omega) hf.v.nk
  obtain ⟨lb,lo,lc,rfl,hLc⟩:=hL;have hL:SeqAt w4 (.slice lb L.length lc) L:=⟨lb,lo,lc,rfl,hLc⟩
  clear hLc;simp (maxSteps:=100000000) only [thenR];refine wpR_thenZ fun wr hs => ?_;replace E:=E.same hs;replace hL:=hL.gr (hs.g _);replace hP:=hP.gr (hs.g _);clear hs;have g0:=E.bx.cell 0;have g1:=E.bx.cell 1;have g2:=E.bx.cell 2;have g3:=E.bx.cell 3;simp at g0 g1 g2 g3;have ltB:=E.bx.lt;have hcall:=Proves_in (E.bk.to hR) hf E.kd (day:=n) (by omega) (by omega) hL hP (by omega) (by omega);rw [RBook.to_val,hMA.pr] at hcall
  gi_wp2_with (gi_at_call 33;with_reducible refine hcall.mono ?_;rintro e w4 ⟨rfl,hb4⟩)
  clear g0 g1 g2 g3 ltB;replace E:=E.below hb4;replace hL:=hL.gr (Grow.of hb4);replace hP:=hP.gr (Grow.of hb4);clear hcall hb4;simp (maxSteps:=100000000) only [thenR];refine wpR_seq fit ?_;refine wpR_thenZ fun wr hs => ?_;replace E:=E.same hs;replace hL:=hL.gr (hs.g _);replace hP:=hP.gr (hs.g _);clear hs;gi_wp2;refine wpR_cond fit (t:=false) rfl ?_;simp (maxSteps:=100000000) only [Bool.false_eq_true,if_false];refine wpR_skip fit ?_;simp (maxSteps:=100000000) only [thenR];refine wpR_thenZ fun w4 hs => ?_;replace E:=E.same hs;replace hL:=hL.gr (hs.g _);replace hP:=hP.gr (hs.g _);clear hs;have hn6:b.coins.length ≤ 6:=by omega
  refine hideQ fun Q' hQ => ?_;refine wpIn_region_ghosts rfl mixed (by kernel_rfl) (W8 w4 b.coins.length) [69,73,77,15,16,17] (x₀:=(fun _ => undef)) (fun g hg => by simp only [List.mem_cons,List.not_mem_nil,or_false] at hg;rcases hg with rfl | rfl | rfl | rfl | rfl | rfl <;> rfl) ⟨W3.start,Copied.start,Copied.start,Copied.start⟩ ?_;simp only [List.size_toArray,List.length_cons,List.length_nil,Nat.reduceAdd,List.range,List.range.loop];refine detM_at (u0:=(fun _ => undef)) rfl (fun _ => rfl) (by decide) (fun g hg => by simp only [List.mem_cons,List.not_mem_nil,or_false] at hg;rcases hg with rfl | rfl | rfl | rfl | rfl | rfl <;> rfl) ?_;apply Exists.intro;refine ⟨fun D x w' hm hW K Q hK => ?_,?_⟩
  ·have hb:=hW.w3.bel;skip;simp only [Lift.Act.setG,List.foldl_cons,List.foldl_nil,List.setIfInBounds_toArray,List.set_cons_zero,List.set_cons_succ];gi_wp2;exact ⟨hW.w3.pure (by decide),hW.c1.pure (by decide),hW.c2.pure (by decide),hW.c3.pure (by decide)⟩
  apply Exists.intro;refine ⟨fun x => ?_,?_⟩
  ·simp only [Lift.Act.setG,List.foldl_cons,List.foldl_nil,List.setIfInBounds_toArray,List.set_cons_zero,List.set_cons_succ,Act.put];rfl
  refine detM_at (u0:=(fun _ => undef)) rfl (fun _ => rfl) (by decide) (fun g hg => by simp only [List.mem_cons,List.not_mem_nil,or_false] at hg;rcases hg with rfl | rfl | rfl | rfl | rfl | rfl <;> rfl) ?_;apply Exists.intro;refine ⟨fun D x w' hm hW K Q hK => ?_,?_⟩
  ·have hb:=hW.w3.bel;have q:=E.bx.below hb;have q0:=q.cell 0;simp at q0;have ltq:=q.lt;simp only [Lift.Act.setG,List.foldl_cons,List.foldl_nil,List.setIfInBounds_toArray,List.set_cons_zero,List.set_cons_succ];gi_wp2;exact ⟨hW.w3.pure (by decide),hW.c1.pure (by decide),hW.c2.pure (by decide),hW.c3.pure (by decide)⟩
  apply Exists.intro;refine ⟨fun x => ?_,?_⟩
  ·simp only [Lift.Act.setG,List.foldl_cons,List.foldl_nil,List.setIfInBounds_toArray,List.set_cons_zero,List.set_cons_succ,Act.put];rfl
  refine detM_at (u0:=(fun _ => undef)) rfl (fun _ => rfl) (by decide) (fun g hg => by simp only [List.mem_cons,List.not_mem_nil,or_false] at hg;rcases hg with rfl | rfl | rfl | rfl | rfl | rfl <;> rfl) ?_;apply Exists.intro;refine ⟨fun D x w' hm hW K Q hK => ?_,?_⟩
  ·have hb:=hW.w3.bel;skip;simp only [Lift.Act.setG,List.foldl_cons,List.foldl_nil,List.setIfInBounds_toArray,List.set_cons_zero,List.set_cons_succ];gi_wp2;exact ⟨hW.w3.pure (by decide),hW.c1.pure (by decide),hW.c2.pure (by decide),hW.c3.pure (by decide)⟩
  apply Exists.intro;refine ⟨fun x => ?_,?_⟩
  ·simp only [Lift.Act.setG,List.foldl_cons,List.foldl_nil,List.setIfInBounds_toArray,List.set_cons_zero,List.set_cons_succ,Act.put];rfl
  refine detM_mk 69 (by decide) rfl (fun _ => rfl) rfl rfl (fun D x w' hm hW K Q hK => ?_) ?_
  ·have hk:=hK _ _ ⟨hW.w3.make1 (by decide),hW.c1.make (by decide) hm.1,hW.c2.put (by decide) (by decide),hW.c3.put (by decide) (by decide)⟩;simp only [Lift.Act.setG,List.foldl_cons,List.foldl_nil,List.setIfInBounds_toArray,List.set_cons_zero,List.set_cons_succ] at hk ⊢;clear hK;have hmk:=run_makeInts hn6 w';gi_wp2;exact hk
  refine detM_at (u0:=(fun _ => undef)) rfl (fun _ => rfl) (by decide) (fun g hg => by simp only [List.mem_cons,List.not_mem_nil,or_false] at hg;rcases hg with rfl | rfl | rfl | rfl | rfl | rfl <;> rfl) ?_;apply Exists.intro;refine ⟨fun D x w' hm hW K Q hK => ?_,?_⟩
  ·have hb:=hW.w3.bel;skip;simp only [Lift.Act.setG,List.foldl_cons,List.foldl_nil,List.setIfInBounds_toArray,List.set_cons_zero,List.set_cons_succ];gi_wp2;exact ⟨hW.w3.pure (by decide),hW.c1.pure (by decide),hW.c2.pure (by decide),hW.c3.pure (by decide)⟩
  apply Exists.intro;refine ⟨fun x => ?_,?_⟩
  ·simp only [Lift.Act.setG,List.foldl_cons,List.foldl_nil,List.setIfInBounds_toArray,List.set_cons_zero,List.set_cons_succ,Act.put];rfl
  refine detM_at (u0:=(fun _ => undef)) rfl (fun _ => rfl) (by decide) (fun g hg => by simp only [List.mem_cons,List.not_mem_nil,or_false] at hg;rcases hg with rfl | rfl | rfl | rfl | rfl | rfl <;> rfl) ?_;apply Exists.intro;refine ⟨fun D x w' hm hW K Q hK => ?_,?_⟩
  ·have hb:=hW.w3.bel;have q:=E.bx.below hb;have q0:=q.cell 0;simp at q0;have ltq:=q.lt;simp only [Lift.Act.setG,List.foldl_cons,List.foldl_nil,List.setIfInBounds_toArray,List.set_cons_zero,List.set_cons_succ];gi_wp2;exact ⟨hW.w3.pure (by decide),hW.c1.pure (by decide),hW.c2.pure (by decide),hW.c3.pure (by decide)⟩
  apply Exists.intro;refine ⟨fun x => ?_,?_⟩
  ·simp only [Lift.Act.setG,List.foldl_cons,List.foldl_nil,List.setIfInBounds_toArray,List.set_cons_zero,List.set_cons_succ,Act.put];rfl
  refine detM_at (u0:=(fun _ => undef)) rfl (fun _ => rfl) (by decide) (fun g hg => by simp only [List.mem_cons,List.not_mem_nil,or_false] at hg;rcases hg with rfl | rfl | rfl | rfl | rfl | rfl <;> rfl) ?_;apply Exists.intro;refine ⟨fun D x w' hm hW K Q hK => ?_,?_⟩
  ·have hb:=hW.w3.bel;skip;simp only [Lift.Act.setG,List.foldl_cons,List.foldl_nil,List.setIfInBounds_toArray,List.set_cons_zero,List.set_cons_succ];gi_wp2;exact ⟨hW.w3.pure (by decide),hW.c1.pure (by decide),hW.c2.pure (by decide),hW.c3.pure (by decide)⟩
  apply Exists.intro;refine ⟨fun x => ?_,?_⟩
  ·simp only [Lift.Act.setG,List.foldl_cons,List.foldl_nil,List.setIfInBounds_toArray,List.set_cons_zero,List.set_cons_succ,Act.put];rfl
  refine detM_mk 73 (by decide) rfl (fun _ => rfl) rfl rfl (fun D x w' hm hW K Q hK => ?_) ?_
  ·have hk:=hK _ _ ⟨hW.w3.make2 (by decide),hW.c1.put (by decide) (by decide),hW.c2.make (by decide) hm.1,hW.c3.put (by decide) (by decide)⟩;simp only [Lift.Act.setG,List.foldl_cons,List.foldl_nil,List.setIfInBounds_toArray,List.set_cons_zero,List.set_cons_succ] at hk ⊢;clear hK;have hmk:=run_makeInts hn6 w';gi_wp2;exact hk
  refine detM_at (u0:=(fun _ => undef)) rfl (fun _ => rfl) (by decide) (fun g hg => by simp only [List.mem_cons,List.not_mem_nil,or_false] at hg;rcases hg with rfl | rfl | rfl | rfl | rfl | rfl <;> rfl) ?_;apply Exists.intro;refine ⟨fun D x w' hm hW K Q hK => ?_,?_⟩
  ·have hb:=hW.w3.bel;skip;simp only [Lift.Act.setG,List.foldl_cons,List.foldl_nil,List.setIfInBounds_toArray,List.set_cons_zero,List.set_cons_succ];gi_wp2;exact ⟨hW.w3.pure (by decide),hW.c1.pure (by decide),hW.c2.pure (by decide),hW.c3.pure (by decide)⟩
  apply Exists.intro;refine ⟨fun x => ?_,?_⟩
  ·simp only [Lift.Act.setG,List.foldl_cons,List.foldl_nil,List.setIfInBounds_toArray,List.set_cons_zero,List.set_cons_succ,Act.put];rfl
  refine detM_at (u0:=(fun _ => undef)) rfl (fun _ => rfl) (by decide) (fun g hg => by simp only [List.mem_cons,List.not_mem_nil,or_false] at hg;rcases hg with rfl | rfl | rfl | rfl | rfl | rfl <;> rfl) ?_;apply Exists.intro;refine ⟨fun D x w' hm hW K Q hK => ?_,?_⟩
  ·have hb:=hW.w3.bel;have q:=E.bx.below hb;have q0:=q.cell 0;simp at q0;have ltq:=q.lt;simp only [Lift.Act.setG,List.foldl_cons,List.foldl_nil,List.setIfInBounds_toArray,List.set_cons_zero,List.set_cons_succ];gi_wp2;exact ⟨hW.w3.pure (by decide),hW.c1.pure (by decide),hW.c2.pure (by decide),hW.c3.pure (by decide)⟩
  apply Exists.intro;refine ⟨fun x => ?_,?_⟩
  ·simp only [Lift.Act.setG,List.foldl_cons,List.foldl_nil,List.setIfInBounds_toArray,List.set_cons_zero,List.set_cons_succ,Act.put];rfl
  refine detM_at (u0:=(fun _ => undef)) rfl (fun _ => rfl) (by decide) (fun g hg => by simp only [List.mem_cons,List.not_mem_nil,or_false] at hg;rcases hg with rfl | rfl | rfl | rfl | rfl | rfl <;> rfl) ?_;apply Exists.intro;refine ⟨fun D x w' hm hW K Q hK => ?_,?_⟩
  ·have hb:=hW.w3.bel;skip;simp only [Lift.Act.setG,List.foldl_cons,List.foldl_nil,List.setIfInBounds_toArray,List.set_cons_zero,List.set_cons_succ];gi_wp2;exact ⟨hW.w3.pure (by decide),hW.c1.pure (by decide),hW.c2.pure (by decide),hW.c3.pure (by decide)⟩
  apply Exists.intro;refine ⟨fun x => ?_,?_⟩
  ·simp only [Lift.Act.setG,List.foldl_cons,List.foldl_nil,List.setIfInBounds_toArray,List.set_cons_zero,List.set_cons_succ,Act.put];rfl
  refine detM_mk 77 (by decide) rfl (fun _ => rfl) rfl rfl (fun D x w' hm hW K Q hK => ?_) ?_
  ·have hk:=hK _ _ ⟨hW.w3.make3 (by decide),hW.c1.put (by decide) (by decide),hW.c2.put (by decide) (by decide),hW.c3.make (by decide) hm.1⟩;simp only [Lift.Act.setG,List.foldl_cons,List.foldl_nil,List.setIfInBounds_toArray,List.set_cons_zero,List.set_cons_succ] at hk ⊢;clear hK;have hmk:=run_makeInts hn6 w';gi_wp2;exact hk
  refine detM_mk 15 (by decide) rfl (fun _ => rfl) rfl rfl (fun D x w' hm hW K Q hK => ?_) ?_
  ·have hk:=hK _ _ ⟨hW.w3.slots (alsoG_ne (by decide)) (alsoG_ne (by decide)) (alsoG_ne (by decide)) (upd_neT (by decide)) (upd_neT (by decide)) (upd_neT (by decide)),Copied.copy (by decide) (by decide) (hm.2.1 3 (by kernel_rfl)),hW.c2.put (by decide) (by decide),hW.c3.put (by decide) (by decide)⟩;simp only [Lift.Act.setG,List.foldl_cons,List.foldl_nil,List.setIfInBounds_toArray,List.set_cons_zero,List.set_cons_succ] at hk ⊢;clear hK;gi_wp2;exact hk
  refine detM_mk 16 (by decide) rfl (fun _ => rfl) rfl rfl (fun D x w' hm hW K Q hK => ?_) ?_
  ·have hk:=hK _ _ ⟨hW.w3.slots (alsoG_ne (by decide)) (alsoG_ne (by decide)) (alsoG_ne (by decide)) (upd_neT (by decide)) (upd_neT (by decide)) (upd_neT (by decide)),hW.c1.put (by decide) (by decide),Copied.copy (by decide) (by decide) (hm.2.1 7 (by kernel_rfl)),hW.c3.put (by decide) (by decide)⟩;simp only [Lift.Act.setG,List.foldl_cons,List.foldl_nil,List.setIfInBounds_toArray,List.set_cons_zero,List.set_cons_succ] at hk ⊢;clear hK;gi_wp2;exact hk
  refine detM_mk 17 (by decide) rfl (fun _ => rfl) rfl rfl (fun D x w' hm hW K Q hK => ?_) ?_
  ·have hk:=hK _ _ ⟨hW.w3.slots (alsoG_ne (by decide)) (alsoG_ne (by decide)) (alsoG_ne (by decide)) (upd_neT (by decide)) (upd_neT (by decide)) (upd_neT (by decide)),hW.c1.put (by decide) (by decide),hW.c2.put (by decide) (by decide),Copied.copy (by decide) (by decide) (hm.2.1 11 (by kernel_rfl))⟩;simp only [Lift.Act.setG,List.foldl_cons,List.foldl_nil,List.setIfInBounds_toArray,List.set_cons_zero,List.set_cons_succ] at hk ⊢;clear hK;gi_wp2;exact hk
  rintro x w5 ⟨hW,c1,c2,c3⟩;refine hQ _ _ _ ?_;clear hQ;replace c1:=(c1 (by decide)).1;replace c2:=(c2 (by decide)).1;replace c3:=(c3 (by decide)).1;obtain ⟨BM,x1,k1,hM⟩:=hW.a1 (by decide);obtain ⟨BB,x2,k2,hBB⟩:=hW.a2 (by decide);obtain ⟨BS,x3,k3,hS⟩:=hW.a3 (by decide);have n12:BM ≠ BB:=fun e => hW.n12 (by decide) (by decide) (by rw [x1,x2,e]);have n13:BM ≠ BS:=fun e => hW.n13 (by decide) (by decide) (by rw [x1,x3,e]);have n23:BB ≠ BS:=fun e => hW.n23 (by decide) (by decide) (by rw [x2,x3,e]);rw [x1] at c1;rw [x2] at c2;rw [x3] at c3;have hb8:=hW.bel;clear hW;simp only [Lift.Act.setG,List.foldl_cons,List.foldl_nil,List.setIfInBounds_toArray,List.set_cons_zero,List.set_cons_succ];rw [c1,c2,c3];clear c1 c2 c3 x1 x2 x3;generalize x 69 = x69;generalize x 73 = x73;generalize x 77 = x77;clear x;have hsz8:=hb8.size;have hVw:w.heap.size ≤ w4.heap.size:=E.g.size;have hBV:B < w4.heap.size:=E.bx.lt;replace E:=E.below hb8;replace hL:=hL.n.grow (Grow.of hb8) (Nat.le_refl _);replace hP:=hP.n.grow (Grow.of hb8) (Nat.le_refl _);clear hb8;obtain ⟨NV,hNV0⟩:∃ NV,w4.heap.size = NV:=⟨_,rfl⟩
  rw [hNV0] at hL hP k1 k2 k3 hVw hBV hsz8;clear hNV0;obtain ⟨N0,hN0⟩:∃ N0,w5.heap.size = N0:=⟨_,rfl⟩
  have m1:BM < N0:=by rw [← hN0];exact hM.lt
  have m2:BB < N0:=by rw [← hN0];exact hBB.lt
  have m3:BS < N0:=by rw [← hN0];exact hS.lt
  have hNV:NV ≤ N0:=by omega
  have hNw:N0 ≤ w5.heap.size:=by omega
  clear hN0 hsz8;simp (maxSteps:=100000000) only [thenR];refine wpR_thenZ fun wr hs => ?_;replace E:=E.same hs;replace hM:=hs.blk hM;replace hBB:=hs.blk hBB;replace hS:=hs.blk hS;replace hL:=hL.same hs;replace hP:=hP.same hs;replace hNw:N0 ≤ wr.heap.size:=by rw [hs.heap];exact hNw
  clear hs;have hBB:Blk wr BB 3 (nums (fun k => (cntC b.to k (L.take 0):Int)) b.coins.length):=hBB;gi_wp2;gi_loopw [18] (fun v wx => ∃ i:Nat,i ≤ L.length ∧ v = .int .i64 i ∧ LawAt w S w.heap.size l b B wx S ∧ SeqN NV wx (.slice lb L.length lc) L ∧ SeqN NV wx vp PL ∧ Blk wx BM 3 (nums (fun _ => 0) b.coins.length) ∧ Blk wx BS 3 (nums (fun _ => 0) b.coins.length) ∧ N0 ≤ wx.heap.size ∧ Blk wx BB 3 (nums (fun k => (cntC b.to k (L.take i):Int)) b.coins.length)) (fun i _ => L.length - (intOf i).toNat)
  case atStart => exact ⟨0,Nat.zero_le _,rfl,E,hL,hP,hM,hS,hNw,hBB⟩
  case round =>
   clear E hL hP hM hS hNw hBB;obtain ⟨i,hi,rfl,E,hL,hP,hM,hS,hNw,hBB⟩:=hrel;by_cases hl:i < L.length
   ·obtain ⟨c,hc1,hc2,hc3⟩:=hMA.op.of L[i] (List.getElem_mem hl);have eL:L.getD i 0 = (c:Int):=by rw [← hc1];simp [hl]
    have hc2':c < b.cs.length:=by simpa [RBook.to] using hc2
    obtain ⟨lb0,lo0,lc0,e0,hLc⟩:=hL;obtain ⟨rfl,rfl⟩:lb = lb0 ∧ lc = lc0:=by simpa using e0
    obtain ⟨LB,rfl,ltL,cL⟩:=hLc i hl;rw [eL] at cL;have hL:SeqN NV wr (.slice (some ⟨LB,lo0,none⟩) L.length lc) L:=⟨_,_,_,rfl,hLc⟩
    clear hLc e0;obtain ⟨lo,hlo⟩:∃ lo,lo0 = lo:=⟨_,rfl⟩
    subst hlo;have ltS:LB < wr.heap.size:=by omega
    have hcl:b.to.coin c < b.coins.length:=(hf.v.t _ (hf.v.tar hc2)).1;obtain ⟨co,hco⟩:∃ co,b.to.coin c = co:=⟨_,rfl⟩
    rw [hco] at hcl;have HCO:=Lib.hid hco;obtain ⟨ov,hov⟩:∃ ov:Int,((cntC b.to co (L.take i):Nat):Int) = ov:=⟨_,rfl⟩
    have hovb:0 ≤ ov ∧ ov ≤ 1000:=by have:=cntC_le b.to co (L.take i);rw [List.length_take] at this;omega
    have HSN:L.take (i + 1) = L.take i ++ [(c:Int)]:=by rw [List.take_add_one,List.getElem?_eq_getElem hl,hc1];rfl
    have HN1:=Lib.hid (show (fun k => (cntC b.to k (L.take (i + 1)):Int)) co = ov + 1 by
     simp only;rw [HSN,cntC_snoc,Int.toNat_natCast,if_pos hco.symm,Int.natCast_add,hov];rfl)
    have HN2:=Lib.hid (fun (k:Nat) (_:k < b.coins.length) (hk:k ≠ co) => show (fun k => (cntC b.to k (L.take (i + 1)):Int)) k = (fun k => (cntC b.to k (L.take i):Int)) k by
     simp only;rw [HSN,cntC_snoc,Int.toNat_natCast,hco,if_neg hk];rfl)
    have HOV:=Lib.hid hov;have j1:decide ((c:Int) < 0) = false:=decide_eq_false (by omega);have j2:decide ((b.cs.length:Int) ≤ c) = false:=decide_eq_false (by omega);have j2n:decide (b.cs.length ≤ c) = false:=decide_eq_false (by omega);have j3:(i:Int) < L.length:=by omega
    have j4:(co:Int) < b.coins.length:=by omega
    have HC1:=Lib.hid hc1;have HC3:=Lib.hid hc3;clear hov hco hc1 hc3 HSN eL;have g0:=E.bx.cell 0;have g1:=E.bx.cell 1;have g2:=E.bx.cell 2;have g3:=E.bx.cell 3;simp at g0 g1 g2 g3;have ltB:=E.bx.lt
    gi_wp2_with fail
    gi_big_quiet_th (fail)
    gi_wp2_with fail
    clear g0 g1 g2 g3 ltB;have hdr:=below_drewN wr nq;replace E:=E.below hdr;replace hL:=hL.grow (Grow.of hdr) (by omega);replace hP:=hP.grow (Grow.of hdr) (by omega);replace hM:=hM.below hdr;replace hS:=hS.below hdr;replace hBB:=hBB.below hdr;replace cL:=(hdr.cell (p:=⟨LB,lo0 + i,none⟩) ltS).trans cL;replace ltS:=Nat.lt_of_lt_of_le ltS hdr.size;replace hNw:=Nat.le_trans hNw hdr.size;clear hdr;generalize wr.drewN nq = wr at *;refine hideQ fun Q' hQ => ?_;refine wpIn_region_ghosts rfl mixed (by kernel_rfl) (WS1 11 wr BB co (.int .i64 (ov + 1))) [] (x₀:=fun _ => undef) (fun g hg => by cases hg) WS1.start ?_;simp only [List.size_toArray,List.length_cons,List.length_nil,Nat.reduceAdd,List.range,List.range.loop];refine detM_at (u0:=fun _ => undef) rfl (fun _ => rfl) (by decide) (fun g hg => by cases hg) ?_;apply Exists.intro;refine ⟨fun D x w' hm hW K Q hK => ?_,?_⟩
    ·have d13:=hm.2.2 11 (by kernel_rfl);have hb:=hW.bel d13;skip;simp only [Lift.Act.setG,List.foldl_cons,List.foldl_nil,List.setIfInBounds_toArray,List.set_cons_zero,List.set_cons_succ];gi_wp2;exact hW.step (by decide) d13 (Below.refl _ _)
    apply Exists.intro;refine ⟨fun x => rfl,?_⟩;refine detM_at (u0:=fun _ => undef) rfl (fun _ => rfl) (by decide) (fun g hg => by cases hg) ?_;apply Exists.intro;refine ⟨fun D x w' hm hW K Q hK => ?_,?_⟩
    ·have d13:=hm.2.2 11 (by kernel_rfl);have hb:=hW.bel d13;have q:=E.bx.below hb;have q0:=q.cell 0;have q1:=q.cell 1;have q2:=q.cell 2;have q3:=q.cell 3;simp at q0 q1 q2 q3;simp only [Lift.Act.setG,List.foldl_cons,List.foldl_nil,List.setIfInBounds_toArray,List.set_cons_zero,List.set_cons_succ];gi_wp2;exact hW.step (by decide) d13 (Below.refl _ _)
    iterate 3
     apply Exists.intro;refine ⟨fun x => rfl,?_⟩;refine detM_at (u0:=fun _ => undef) rfl (fun _ => rfl) (by decide) (fun g hg => by cases hg) ?_;apply Exists.intro;refine ⟨fun D x w' hm hW K Q hK => ?_,?_⟩
     ·have d13:=hm.2.2 11 (by kernel_rfl);have hb:=hW.bel d13;skip;simp only [Lift.Act.setG,List.foldl_cons,List.foldl_nil,List.setIfInBounds_toArray,List.set_cons_zero,List.set_cons_succ];gi_wp2;exact hW.step (by decide) d13 (Below.refl _ _)
    apply Exists.intro;refine ⟨fun x => rfl,?_⟩;refine detM_at (u0:=fun _ => undef) rfl (fun _ => rfl) (by decide) (fun g hg => by cases hg) ?_;apply Exists.intro;refine ⟨fun D x w' hm hW K Q hK => ?_,?_⟩
    ·have d13:=hm.2.2 11 (by kernel_rfl);have hb:=hW.bel d13;have z0:=(hb.cell (p:=⟨LB,lo0 + i,none⟩) ltS).trans cL;have ltz:=Nat.lt_of_lt_of_le ltS hb.size;simp only [Lift.Act.setG,List.foldl_cons,List.foldl_nil,List.setIfInBounds_toArray,List.set_cons_zero,List.set_cons_succ];gi_wp2;exact hW.step (by decide) d13 (Below.refl _ _)
    apply Exists.intro;refine ⟨fun x => rfl,?_⟩;refine detM_at (u0:=fun _ => undef) rfl (fun _ => rfl) (by decide) (fun g hg => by cases hg) ?_;apply Exists.intro;refine ⟨fun D x w' hm hW K Q hK => ?_,?_⟩
    ·have d13:=hm.2.2 11 (by kernel_rfl);have hb:=hW.bel d13;have hcall:=coinOf_in (E.bk.below (hb.mono E.bk.hN)) hR hc2';rw [HCO.out] at hcall;simp only [Lift.Act.setG,List.foldl_cons,List.foldl_nil,List.setIfInBounds_toArray,List.set_cons_zero,List.set_cons_succ]
     gi_wp2_with (gi_at_call 36;with_reducible refine hcall.mono ?_;rintro e w3 ⟨rfl,hb3⟩)
     exact hW.step (by decide) d13 hb3
    apply Exists.intro;refine ⟨fun x => rfl,?_⟩;refine detM_at (u0:=fun _ => undef) rfl (fun _ => rfl) (by decide) (fun g hg => by cases hg) ?_;apply Exists.intro;refine ⟨fun D x w' hm hW K Q hK => ?_,?_⟩
    ·have d13:=hm.2.2 11 (by kernel_rfl);have hb:=hW.bel d13;skip;simp only [Lift.Act.setG,List.foldl_cons,List.foldl_nil,List.setIfInBounds_toArray,List.set_cons_zero,List.set_cons_succ];gi_wp2;exact hW.step (by decide) d13 (Below.refl _ _)
    apply Exists.intro;refine ⟨fun x => rfl,?_⟩;refine detM_at (u0:=fun _ => undef) rfl (fun _ => rfl) (by decide) (fun g hg => by cases hg) ?_;apply Exists.intro;refine ⟨fun D x w' hm hW K Q hK => ?_,?_⟩
    ·have d13:=hm.2.2 11 (by kernel_rfl);have hb:=hW.bel d13;have q:=hBB.below hb;have z0:=q.cell co;rw [nums_get hcl,HOV.out] at z0;have ltL:=q.lt;have y0:=q.frozen co;simp only [Lift.Act.setG,List.foldl_cons,List.foldl_nil,List.setIfInBounds_toArray,List.set_cons_zero,List.set_cons_succ];gi_wp2;exact hW.step (by decide) d13 (Below.refl _ _)
    iterate 2
     apply Exists.intro;refine ⟨fun x => rfl,?_⟩;refine detM_at (u0:=fun _ => undef) rfl (fun _ => rfl) (by decide) (fun g hg => by cases hg) ?_;apply Exists.intro;refine ⟨fun D x w' hm hW K Q hK => ?_,?_⟩
     ·have d13:=hm.2.2 11 (by kernel_rfl);have hb:=hW.bel d13;skip;simp only [Lift.Act.setG,List.foldl_cons,List.foldl_nil,List.setIfInBounds_toArray,List.set_cons_zero,List.set_cons_succ];gi_wp2;exact hW.step (by decide) d13 (Below.refl _ _)
    apply Exists.intro;refine ⟨fun x => rfl,?_⟩;refine detM_none rfl (fun _ => rfl) rfl (fun D x w' hm hW K Q hK => ?_) ?_
    ·have d13:=hm.1;have hb:=hW.bel d13;have q:=hBB.below hb;have z0:=q.cell co;rw [nums_get hcl,HOV.out] at z0;have ltL:=q.lt;have y0:=q.frozen co;have hst:=hW.store d13;simp only [Lift.Act.setG,List.foldl_cons,List.foldl_nil,List.setIfInBounds_toArray,List.set_cons_zero,List.set_cons_succ] at hK ⊢;gi_wp2
     all_goals exact hst
    intro x w5 hW;refine hQ _ _ _ ?_;clear hQ;obtain ⟨w1,hb1,rfl⟩:=hW.fin (by decide);replace E:=E.poke (BO:=BB) (j:=co) (v:=.int .i64 (ov + 1)) h0 hb1 (by omega) (by omega);replace hL:=(hL.grow (Grow.of hb1) (by omega)).poke (j:=co) (u:=.int .i64 (ov + 1)) k2;replace hP:=(hP.grow (Grow.of hb1) (by omega)).poke (j:=co) (u:=.int .i64 (ov + 1)) k2;replace hM:=(hM.below hb1).set (j:=co) (show BB ≠ BM by omega) (.int .i64 (ov + 1));replace hS:=(hS.below hb1).set (j:=co) (show BB ≠ BS by omega) (.int .i64 (ov + 1));replace hBB:=(hBB.below hb1).put co (.int .i64 (ov + 1));rw [nums_set (g:=fun k => (cntC b.to k (L.take (i + 1)):Int)) hcl HN1.out HN2.out] at hBB;replace hNw:N0 ≤ (w1.setCell ⟨BB,co,none⟩ (.int .i64 (ov + 1))).heap.size:=by rw [World.size_setCell];exact Nat.le_trans hNw hb1.size
    clear hW hb1 HN1 HN2;simp only [Lift.Act.setG,List.foldl_nil,List.setIfInBounds_toArray,List.set_cons_zero,List.set_cons_succ];obtain ⟨W6,hW6⟩:∃ W6,w1.setCell ⟨BB,co,none⟩ (.int .i64 (ov + 1)) = W6:=⟨_,rfl⟩
    rw [hW6] at E hL hP hM hS hNw hBB ⊢;clear hW6;gi_wp2;go_roundw
    case rel => exact ⟨i + 1,by omega,by go_num,E,hL,hP,hM,hS,hNw,hBB⟩
    case measure => simp [intOf];omega
   ·obtain rfl:i = L.length:=by omega
    clear hi hl;rw [List.take_length] at hBB;gi_wp2;simp (maxSteps:=100000000) only [inBlockR,thenR];refine wpR_thenZ fun wr hs => ?_;replace E:=E.same hs;replace hM:=hs.blk hM;replace hBB:=hs.blk hBB;replace hS:=hs.blk hS;replace hL:=hL.same hs;replace hP:=hP.same hs;replace hNw:N0 ≤ wr.heap.size:=by rw [hs.heap];exact hNw
    clear hs;gi_wp2;simp (maxSteps:=100000000) only [thenR];refine wpR_thenZ fun wr hs => ?_;replace E:=E.same hs;replace hM:=hs.blk hM;replace hBB:=hs.blk hBB;replace hS:=hs.blk hS;replace hL:=hL.same hs;replace hP:=hP.same hs;replace hNw:N0 ≤ wr.heap.size:=by rw [hs.heap];exact hNw
    clear hs;gi_wp2;obtain ⟨F,hF⟩:∃ F:Nat → Bool,(fun c:Nat => decide (bits BinOp.and IntKind.u8 (set_ / 2 ^ c) 1 = 1) && decide (((b.to.after n).cases c).state = 0)) = F:=⟨_,rfl⟩
    obtain ⟨GO,hGO⟩:∃ GO:Nat → Bool,(fun c:Nat => decide (bits BinOp.and IntKind.u8 (oth / 2 ^ c) 1 = 1)) = GO:=⟨_,rfl⟩
    obtain ⟨BE,hBE⟩:∃ BE:Array Value,nums (fun k => (cntC b.to k L:Int)) b.coins.length = BE:=⟨_,rfl⟩
    rw [hBE] at hBB;have HF:=Lib.hid hF;have HGO:=Lib.hid hGO;have HBE:=Lib.hid hBE;clear hF hGO hBE;gi_loopw [19,20,21] (fun v v2 i wx => ∃ j:Nat,j ≤ b.cs.length ∧ i = .int .i64 j ∧ LawAt w S w.heap.size l b B wx S ∧ SeqN NV wx (.slice lb L.length lc) L ∧ SeqN NV wx vp PL ∧ Blk wx BM 3 (nums (fun k => (cntC b.to k (selL F j):Int)) b.coins.length) ∧ Blk wx BS 3 (nums (fun k => sumL b.to n k (selL F j)) b.coins.length) ∧ Blk wx BB 3 BE ∧ N0 ≤ wx.heap.size ∧ wx.ownsRow N0 3 1 v (selL F j).length (ints (selL F j)) ∧ wx.ownsRow N0 3 1 v2 (selL GO j).length (ints (selL GO j)) ∧ ∀ q,v.ownBlock = some q → v2.ownBlock ≠ some q) (fun _ _ i _ => b.cs.length - (intOf i).toNat)
    case atStart => exact ⟨0,Nat.zero_le _,rfl,E,hL,hP,hM,hS,hBB,hNw,World.ownsRow_nil _ _ _ _,World.ownsRow_nil _ _ _ _,fun q h => by cases h⟩
    case round =>
     clear E hL hP hM hS hBB hNw;obtain ⟨j,hj,rfl,E,hL,hP,hM,hS,hBB,hNw,hC,hQ,hne⟩:=hrel;by_cases hl:j < b.cs.length
     ·refine wpIn_seq ?_;refine hideH fun K1 hK1 => ?_;have g0:=E.bx.cell 0;have g1:=E.bx.cell 1;have g2:=E.bx.cell 2;have g3:=E.bx.cell 3;simp at g0 g1 g2 g3;have ltB:=E.bx.lt;gi_wp2;clear g0 g1 g2 g3 ltB;refine hK1.out _ _ _ ?_;clear hK1;simp only [Exit.then,Exit.inBlock];refine wpIn_seq ?_;refine hideH fun K3 hK3 => ?_;refine wpIn_block ?_;have hl':j < b.to.cs.length:=by simpa [RBook.to] using hl
      obtain ⟨y,hy⟩:∃ y,(b.to.after n).cases j = y:=⟨_,rfl⟩
      obtain ⟨fe,hfe⟩:∃ fe,(b.to.fee j n).1 = fe:=⟨_,rfl⟩
      obtain ⟨du,hdu⟩:∃ du,(b.to.fee j n).2 = du:=⟨_,rfl⟩
      have hcall:=State_in (E.bk.to hR) hf E.kd hl' (day:=n) (by omega) (by omega);rw [RBook.to_val,hy] at hcall;obtain ⟨ys,yh,yd,yf⟩:=y;have HY:=Lib.hid hy;have HFE:=Lib.hid hfe;have HDU:=Lib.hid hdu;clear hy hfe hdu;refine wpIn_seq ?_;refine hideH fun K4 hK4 => ?_;have g0:=E.bx.cell 0;have g1:=E.bx.cell 1;have g2:=E.bx.cell 2;have g3:=E.bx.cell 3;simp at g0 g1 g2 g3;have ltB:=E.bx.lt
      gi_wp2_with (gi_at_call 22;with_reducible refine hcall.mono ?_;rintro e w4 ⟨rfl,hb4⟩;replace E:=E.below hb4;replace hL:=hL.grow (Grow.of hb4) (by omega);replace hP:=hP.grow (Grow.of hb4) (by omega);replace hM:=hM.below hb4;replace hBB:=hBB.below hb4;replace hS:=hS.below hb4;replace hC:=owns_below hC hb4;replace hQ:=owns_below hQ hb4;replace hNw:=Nat.le_trans hNw hb4.size;clear hcall hb4 g0 g1 g2 g3 ltB)
      refine hK4.out _ _ _ ?_;clear hK4;simp only [Exit.then,Exit.inBlock];have hcall:=Fee_in (E.bk.to hR) hf hl' (day:=n) (by omega) (by omega);rw [RBook.to_val,HFE.out,HDU.out] at hcall;refine wpIn_seq ?_;refine hideH fun K4 hK4 => ?_;have g0:=E.bx.cell 0;have g1:=E.bx.cell 1;have g2:=E.bx.cell 2;have g3:=E.bx.cell 3;simp at g0 g1 g2 g3;have ltB:=E.bx.lt
      gi_wp2_with (gi_at_call 18;with_reducible refine hcall.mono ?_;rintro e w5 ⟨rfl,hb5⟩;replace E:=E.below hb5;replace hL:=hL.grow (Grow.of hb5) (by omega);replace hP:=hP.grow (Grow.of hb5) (by omega);replace hM:=hM.below hb5;replace hBB:=hBB.below hb5;replace hS:=hS.below hb5;replace hC:=owns_below hC hb5;replace hQ:=owns_below hQ hb5;replace hNw:=Nat.le_trans hNw hb5.size;clear hcall hb5 g0 g1 g2 g3 ltB)
      refine hK4.out _ _ _ ?_;clear hK4;simp only [Exit.then,Exit.inBlock];refine wpIn_seq ?_;refine hideH fun K4 hK4 => ?_;gi_wp2;refine hK4.out _ _ _ ?_;clear hK4;simp only [Exit.then,Exit.inBlock];refine wpIn_seq ?_;refine hideH fun K4 hK4 => ?_;obtain ⟨i0,hi0,hz0,hz1,hz2⟩:=info_parts Tryz.infoI;have hcl:b.to.coin j < b.coins.length:=(hf.v.t _ (hf.v.tar hl')).1;obtain ⟨co,hco⟩:∃ co,b.to.coin j = co:=⟨_,rfl⟩
      rw [hco] at hcl;have hcall:=coinOf_in E.bk hR hl;rw [hco] at hcall;have HCO:=Lib.hid hco;clear hco;have g0:=E.bx.cell 0;have g1:=E.bx.cell 1;have g2:=E.bx.cell 2;have g3:=E.bx.cell 3;simp at g0 g1 g2 g3;have ltB:=E.bx.lt
      gi_wp2_with (gi_at_call 36;with_reducible refine hcall.mono ?_;rintro e w6 ⟨rfl,hb6⟩;replace E:=E.below hb6;replace hL:=hL.grow (Grow.of hb6) (by omega);replace hP:=hP.grow (Grow.of hb6) (by omega);replace hM:=hM.below hb6;replace hBB:=hBB.below hb6;replace hS:=hS.below hb6;replace hC:=owns_below hC hb6;replace hQ:=owns_below hQ hb6;replace hNw:=Nat.le_trans hNw hb6.size;clear hcall hb6 g0 g1 g2 g3 ltB)
      ·rename_i hbit hys0;obtain rfl:ys = 0:=by simpa using hys0
       have HST:=Lib.hid (show selL F (j + 1) = selL F j ++ [(j:Int)] by rw [selL_succ,if_pos (by rw [← HF.out];simp only;rw [decide_eq_true hbit,HY.out];rfl)]);obtain ⟨q1,q2,-,-⟩:=lack_bounds hf.v hl' (by rw [HY.out]);have hlk2:b.to.lack n j = fe - yh:=by unfold Book.lack;rw [HFE.out,HY.out]
       have hfl:=hf.v.fee_le hl' n;rw [HFE.out] at hfl;obtain ⟨FM,hFM⟩:∃ FM:Nat → Int,(fun k => (cntC b.to k (selL F j):Int)) = FM:=⟨_,rfl⟩
       obtain ⟨FSq,hFS⟩:∃ FSq:Nat → Int,(fun k => sumL b.to n k (selL F j)) = FSq:=⟨_,rfl⟩
       obtain ⟨FM2,hFM2⟩:∃ FM2:Nat → Int,(fun k => (cntC b.to k (selL F (j + 1)):Int)) = FM2:=⟨_,rfl⟩
       obtain ⟨FS2,hFS2⟩:∃ FS2:Nat → Int,(fun k => sumL b.to n k (selL F (j + 1))) = FS2:=⟨_,rfl⟩
       obtain ⟨om,hom⟩:∃ om:Int,FM co = om:=⟨_,rfl⟩
       obtain ⟨os,hos⟩:∃ os:Int,FSq co = os:=⟨_,rfl⟩
       have homb:0 ≤ om ∧ om ≤ 1000:=by rw [← hom,← hFM];have:=cntC_le b.to co (selL F j);have:=selL_len F j;simp only;omega
       have hosb:0 ≤ os ∧ os ≤ 470000 * j:=by rw [← hos,← hFS];exact sumL_sel hf.v (fun c hc => by rw [← HF.out] at hc;simp only [Bool.and_eq_true,decide_eq_true_eq] at hc;exact hc.2) (Nat.le_of_lt hl') co
       have hosb2:os ≤ 10000000:=by omega
       have hosb1:=hosb.1;rw [hlk2] at q1 q2;have HMS:=Lib.hid (nums_set (f:=FM) (g:=FM2) (v:=om + 1) hcl (by rw [← hFM2,← hom,← hFM];simp only;rw [HST.out,cntC_snoc,Int.toNat_natCast,if_pos HCO.out.symm,Int.natCast_add];rfl) (fun k _ hk => by rw [← hFM2,← hFM];simp only;rw [HST.out,cntC_snoc,Int.toNat_natCast,HCO.out,if_neg hk];rfl));have HSS:=Lib.hid (nums_set (f:=FSq) (g:=FS2) (v:=os + fe - yh) hcl (by rw [← hFS2,← hos,← hFS];simp only;rw [HST.out,sumL_snoc,Int.toNat_natCast,if_pos HCO.out.symm,hlk2];omega) (fun k _ hk => by rw [← hFS2,← hFS];simp only;rw [HST.out,sumL_snoc,Int.toNat_natCast,HCO.out,if_neg hk];omega));have HOM:=Lib.hid hom;have HOS:=Lib.hid hos;have HFM2:=Lib.hid hFM2;have HFS2:=Lib.hid hFS2;rw [hFM] at hM;rw [hFS] at hS;clear hFM hFS hFM2 hFS2 hom hos hosb hlk2 hbit hys0;have j4:(co:Int) < b.coins.length:=by omega
       refine wpIn_region_ghosts rfl mixed (by kernel_rfl) (WM 6 7 21 23 25 157 158 19 NV N0 w6 BM BS BB (nums FM b.coins.length) (nums FM2 b.coins.length) (nums FSq b.coins.length) (nums FS2 b.coins.length) BE u19 u20 (selL F j) (selL GO j) j) [157,158,19] (x₀:=(fun t => if t = 157 then u157 else if t = 158 then u158 else u19)) (fun g hg => by simp only [List.mem_cons,List.not_mem_nil,or_false] at hg;rcases hg with rfl | rfl | rfl <;> rfl) (WM.start hM hS hBB hQ hC rfl) ?_;simp only [List.size_toArray,List.length_cons,List.length_nil,Nat.reduceAdd,List.range,List.range.loop]
       iterate 4
        refine detM_at (u0:=(fun t => if t = 157 then u157 else if t = 158 then u158 else u19)) rfl (fun _ => rfl) (by decide) (fun g hg => by simp only [List.mem_cons,List.not_mem_nil,or_false] at hg;rcases hg with rfl | rfl | rfl <;> rfl) ?_;apply Exists.intro;refine ⟨fun D x w' hm hW K Q hK => ?_,?_⟩
        ·skip;simp only [Lift.Act.setG,List.foldl_cons,List.foldl_nil,List.setIfInBounds_toArray,List.set_cons_zero,List.set_cons_succ];gi_wp2;exact hW.pure (by decide)
        apply Exists.intro;refine ⟨fun x => ?_,?_⟩
        ·simp only [Lift.Act.setG,List.foldl_cons,List.foldl_nil,List.setIfInBounds_toArray,List.set_cons_zero,List.set_cons_succ,Act.put];rfl
       refine detM_move 19 155 (by decide) (by decide) rfl (fun _ => rfl) rfl rfl (by simp) (fun D x w' hm hW => ⟨hW.e0 (hm.2.2 21 (by kernel_rfl)),hW.pure (by decide)⟩) ?_;simp only [Act.put,List.setIfInBounds_toArray,List.set_cons_zero,List.set_cons_succ];refine detM_at (u0:=(fun t => if t = 157 then u157 else if t = 158 then u158 else u19)) rfl (fun _ => rfl) (by decide) (fun g hg => by simp only [List.mem_cons,List.not_mem_nil,or_false] at hg;rcases hg with rfl | rfl | rfl <;> rfl) ?_;apply Exists.intro;refine ⟨fun D x w' hm hW K Q hK => ?_,?_⟩
       ·skip;simp only [Lift.Act.setG,List.foldl_cons,List.foldl_nil,List.setIfInBounds_toArray,List.set_cons_zero,List.set_cons_succ];gi_wp2;exact hW.pure (by decide)
       apply Exists.intro;refine ⟨fun x => ?_,?_⟩
       ·simp only [Lift.Act.setG,List.foldl_cons,List.foldl_nil,List.setIfInBounds_toArray,List.set_cons_zero,List.set_cons_succ,Act.put];rfl
       refine detM_mk 157 (by decide) rfl (fun _ => rfl) rfl rfl (fun D x w' hm hW K Q hK => buildI_wp rfl rfl (hK _ _ (hW.build ⟨by decide,by decide⟩ (by omega) hNw (hm.2.2 7 (by kernel_rfl))))) ?_;refine detM_mk 158 (by decide) rfl (fun _ => rfl) rfl rfl (fun D x w' hm hW K Q hK => ?_) ?_
       ·have d7:=hm.1;obtain ⟨g,e157,hg⟩:=hW.ob (hm.2.1 6 (by kernel_rfl));obtain ⟨g1,g2⟩:=hg d7;exact append_int_at (.tmp 155) (.tmp 157) rfl (y:=j) rfl (hW.ov d7) e157 g2 (by have:=selL_len F j;omega) (Nat.le_trans hNw hW.bel.size) fun v' w'' hown hgr hat => hK v' w'' (hW.app ⟨by decide,by decide⟩ (by omega) ⟨by omega,by omega,by omega⟩ hNw hne d7 hown hgr hat)
       iterate 3
        refine detM_at (u0:=(fun t => if t = 157 then u157 else if t = 158 then u158 else u19)) rfl (fun _ => rfl) (by decide) (fun g hg => by simp only [List.mem_cons,List.not_mem_nil,or_false] at hg;rcases hg with rfl | rfl | rfl <;> rfl) ?_;apply Exists.intro;refine ⟨fun D x w' hm hW K Q hK => ?_,?_⟩
        ·skip;simp only [Lift.Act.setG,List.foldl_cons,List.foldl_nil,List.setIfInBounds_toArray,List.set_cons_zero,List.set_cons_succ];gi_wp2;exact hW.pure (by decide)
        apply Exists.intro;refine ⟨fun x => ?_,?_⟩
        ·simp only [Lift.Act.setG,List.foldl_cons,List.foldl_nil,List.setIfInBounds_toArray,List.set_cons_zero,List.set_cons_succ,Act.put];rfl
       refine detM_at (u0:=(fun t => if t = 157 then u157 else if t = 158 then u158 else u19)) rfl (fun _ => rfl) (by decide) (fun g hg => by simp only [List.mem_cons,List.not_mem_nil,or_false] at hg;rcases hg with rfl | rfl | rfl <;> rfl) ?_;apply Exists.intro;refine ⟨fun D x w' hm hW K Q hK => ?_,?_⟩
       ·have q:=hW.m;rw [hm.2.2 23 (by kernel_rfl),if_neg Bool.false_ne_true] at q;have z0:=q.cell co;rw [nums_get hcl,HOM.out] at z0;have ltz:=q.lt;have y0:=q.frozen co;simp only [Lift.Act.setG,List.foldl_cons,List.foldl_nil,List.setIfInBounds_toArray,List.set_cons_zero,List.set_cons_succ];gi_wp2;exact hW.pure (by decide)
       iterate 4
        apply Exists.intro;refine ⟨fun x => ?_,?_⟩
        ·simp only [Lift.Act.setG,List.foldl_cons,List.foldl_nil,List.setIfInBounds_toArray,List.set_cons_zero,List.set_cons_succ,Act.put];rfl
        refine detM_at (u0:=(fun t => if t = 157 then u157 else if t = 158 then u158 else u19)) rfl (fun _ => rfl) (by decide) (fun g hg => by simp only [List.mem_cons,List.not_mem_nil,or_false] at hg;rcases hg with rfl | rfl | rfl <;> rfl) ?_;apply Exists.intro;refine ⟨fun D x w' hm hW K Q hK => ?_,?_⟩
        ·skip;simp only [Lift.Act.setG,List.foldl_cons,List.foldl_nil,List.setIfInBounds_toArray,List.set_cons_zero,List.set_cons_succ];gi_wp2;exact hW.pure (by decide)
       apply Exists.intro;refine ⟨fun x => ?_,?_⟩
       ·simp only [Lift.Act.setG,List.foldl_cons,List.foldl_nil,List.setIfInBounds_toArray,List.set_cons_zero,List.set_cons_succ,Act.put];rfl
       refine detM_at (u0:=(fun t => if t = 157 then u157 else if t = 158 then u158 else u19)) rfl (fun _ => rfl) (by decide) (fun g hg => by simp only [List.mem_cons,List.not_mem_nil,or_false] at hg;rcases hg with rfl | rfl | rfl <;> rfl) ?_;apply Exists.intro;refine ⟨fun D x w' hm hW K Q hK => ?_,?_⟩
       ·have q:=hW.s;rw [hm.2.2 25 (by kernel_rfl),if_neg Bool.false_ne_true] at q;have z0:=q.cell co;rw [nums_get hcl,HOS.out] at z0;have ltz:=q.lt;have y0:=q.frozen co;simp only [Lift.Act.setG,List.foldl_cons,List.foldl_nil,List.setIfInBounds_toArray,List.set_cons_zero,List.set_cons_succ];gi_wp2;exact hW.pure (by decide)
       iterate 4
        apply Exists.intro;refine ⟨fun x => ?_,?_⟩
        ·simp only [Lift.Act.setG,List.foldl_cons,List.foldl_nil,List.setIfInBounds_toArray,List.set_cons_zero,List.set_cons_succ,Act.put];rfl
        refine detM_at (u0:=(fun t => if t = 157 then u157 else if t = 158 then u158 else u19)) rfl (fun _ => rfl) (by decide) (fun g hg => by simp only [List.mem_cons,List.not_mem_nil,or_false] at hg;rcases hg with rfl | rfl | rfl <;> rfl) ?_;apply Exists.intro;refine ⟨fun D x w' hm hW K Q hK => ?_,?_⟩
        ·skip;simp only [Lift.Act.setG,List.foldl_cons,List.foldl_nil,List.setIfInBounds_toArray,List.set_cons_zero,List.set_cons_succ];gi_wp2;exact hW.pure (by decide)
       apply Exists.intro;refine ⟨fun x => ?_,?_⟩
       ·simp only [Lift.Act.setG,List.foldl_cons,List.foldl_nil,List.setIfInBounds_toArray,List.set_cons_zero,List.set_cons_succ,Act.put];rfl
       refine detM_mk 19 (by decide) rfl (fun _ => rfl) rfl rfl (fun D x w' hm hW K Q hK => ?_) ?_
       ·have hk:=hK _ _ (hW.move ⟨by decide,by decide⟩ (hm.2.1 7 (by kernel_rfl)));simp only [Lift.Act.setG,List.foldl_cons,List.foldl_nil,List.setIfInBounds_toArray,List.set_cons_zero,List.set_cons_succ] at hk ⊢;clear hK;gi_wp2;exact hk
       refine detM_at (u0:=(fun t => if t = 157 then u157 else if t = 158 then u158 else u19)) rfl (fun _ => rfl) (by decide) (fun g hg => by simp only [List.mem_cons,List.not_mem_nil,or_false] at hg;rcases hg with rfl | rfl | rfl <;> rfl) ?_;apply Exists.intro;refine ⟨fun D x w' hm hW K Q hK => ?_,?_⟩
       ·skip;simp only [Lift.Act.setG,List.foldl_cons,List.foldl_nil,List.setIfInBounds_toArray,List.set_cons_zero,List.set_cons_succ];gi_wp2;exact hW.pure (by decide)
       apply Exists.intro;refine ⟨fun x => ?_,?_⟩
       ·simp only [Lift.Act.setG,List.foldl_cons,List.foldl_nil,List.setIfInBounds_toArray,List.set_cons_zero,List.set_cons_succ,Act.put];rfl
       refine detM_none rfl (fun _ => rfl) rfl (fun D x w' hm hW K Q hK => ?_) ?_
       ·have hk:=hK _ (hW.stM ⟨by decide,by decide⟩ k1 m1 ⟨by omega,by omega⟩ hm.1 HMS.out);have q:=hW.m;rw [hm.1,if_neg Bool.false_ne_true] at q;have z0:=q.cell co;rw [nums_get hcl,HOM.out] at z0;have ltz:=q.lt;have y0:=q.frozen co;simp only [Lift.Act.setG,List.foldl_cons,List.foldl_nil,List.setIfInBounds_toArray,List.set_cons_zero,List.set_cons_succ] at hk ⊢;clear hK;gi_wp2;exact hk
       refine detM_at (u0:=(fun t => if t = 157 then u157 else if t = 158 then u158 else u19)) rfl (fun _ => rfl) (by decide) (fun g hg => by simp only [List.mem_cons,List.not_mem_nil,or_false] at hg;rcases hg with rfl | rfl | rfl <;> rfl) ?_;apply Exists.intro;refine ⟨fun D x w' hm hW K Q hK => ?_,?_⟩
       ·skip;simp only [Lift.Act.setG,List.foldl_cons,List.foldl_nil,List.setIfInBounds_toArray,List.set_cons_zero,List.set_cons_succ];gi_wp2;exact hW.pure (by decide)
       apply Exists.intro;refine ⟨fun x => ?_,?_⟩
       ·simp only [Lift.Act.setG,List.foldl_cons,List.foldl_nil,List.setIfInBounds_toArray,List.set_cons_zero,List.set_cons_succ,Act.put];rfl
       refine detM_none rfl (fun _ => rfl) rfl (fun D x w' hm hW K Q hK => ?_) ?_
       ·have hk:=hK _ (hW.stS ⟨by decide,by decide⟩ k3 m3 ⟨by omega,by omega⟩ hm.1 HSS.out);have q:=hW.s;rw [hm.1,if_neg Bool.false_ne_true] at q;have z0:=q.cell co;rw [nums_get hcl,HOS.out] at z0;have ltz:=q.lt;have y0:=q.frozen co;simp only [Lift.Act.setG,List.foldl_cons,List.foldl_nil,List.setIfInBounds_toArray,List.set_cons_zero,List.set_cons_succ] at hk ⊢;clear hK;gi_wp2;exact hk
       intro x w5 hW;obtain ⟨hown,hat⟩:=hW.oa (by decide);have e19:=(hW.ev (by decide)).1;replace hM:=hW.m;replace hS:=hW.s;rw [if_pos (by decide)] at hM hS;replace hBB:=hW.b;replace hQ:=hW.op;have hb25:=hW.bel;clear hW hC;replace E:=E.belowN h0 hb25 hVw hBV;replace hL:=hL.grow (Grow.of hb25) (Nat.le_refl _);replace hP:=hP.grow (Grow.of hb25) (Nat.le_refl _);replace hNw:=Nat.le_trans hNw hb25.size;rw [← HFM2.out] at hM;rw [← HFS2.out] at hS;have hC:w5.ownsRow N0 3 1 (x 158) (selL F (j + 1)).length (ints (selL F (j + 1))):=by rw [HST.out,List.length_append];exact hown
       have hne2:∀ q,(x 158).ownBlock = some q → u20.ownBlock ≠ some q:=fun q h1 h2 => by
        rcases hat with e | ⟨g,e,hg⟩
        ·exact hne q (e ▸ h1) h2
        ·rw [e] at h1;cases h1;exact hg q h2 rfl
       replace hne:=hne2;clear hne2 hat hown hb25 HMS HSS HOM HOS HFM2 HFS2 homb hosb1 hosb2 q1 q2 hfl;simp only [Lift.Act.setG,List.foldl_cons,List.foldl_nil,List.setIfInBounds_toArray,List.set_cons_zero,List.set_cons_succ];rw [e19];clear e19;generalize x 157 = x157;generalize x 158 = u19 at *;clear x;refine hK4.out _ _ _ ?_;clear hK4;simp only [Exit.then,Exit.inBlock];by_cases hob:bits BinOp.and IntKind.u8 (oth / 2 ^ j) 1 = 1
       ·have HGT:=Lib.hid (show selL GO (j + 1) = selL GO j ++ [(j:Int)] by rw [selL_succ,if_pos (by rw [← HGO.out];exact decide_eq_true hob)]);have hgl:=selL_len GO j
        gi_wp2_with (gi_at_builtin;refine wpListIn_append_own_at _ rfl _ _ 44 rfl N0 3 i0 (.int .i64 0) 1 8 Tryz.underlying44 hi0 hz0 hz1 hz2 rfl (by decide) _ _ _ rfl (hQ.alloc _) ⟨w5.heap.size,0,none⟩ 1 1 [.int .i64 (j:Int)] rfl rfl (cell_one_new _ _ _) (by simp [Value.oneCell']) (by unfold maxLen;omega) (by omega) (by simp;omega) ?_;intro v' w7 hown' hgrow hnil hat)
        have hq1:=hQ.alloc (.cells #[.int .i64 (j:Int)] 3);have hal:Below w5.heap.size w5 (w5.alloc (.cells #[.int .i64 (j:Int)] 3)):=(Below.refl _ w5).alloc (Nat.le_refl _) _;have hbw:=(hal.mono hNw).trans (owns_bel hq1 hgrow (Nat.le_trans hNw hal.size));have hC7:w7.ownsRow N0 3 1 u19 (selL F (j + 1)).length (ints (selL F (j + 1))):=ownsRow_of (hC.alloc (.cells #[.int .i64 (j:Int)] 3)) fun g o hg ho => (hgrow.block g (Array.getElem?_eq_some_iff.1 ho).1 fun e => hne g hg e.symm).trans ho;have hQ7:w7.ownsRow N0 3 1 v' (selL GO (j + 1)).length (ints (selL GO (j + 1))):=by
         rw [HGT.out,List.length_append];unfold ints at hown' ⊢;rw [List.map_append];exact hown'
        have hne7:∀ q,u19.ownBlock = some q → v'.ownBlock ≠ some q:=fun q h1 h2 => by
         rcases hat with e | e
         ·exact hne q h1 (e ▸ h2)
         ·rw [e] at h2;have h3:=(hC.lt q h1).2;have h4:=hal.size;cases h2;omega
        replace E:=E.belowN h0 (hbw.mono hNV) hVw hBV;replace hL:=hL.grow (Grow.of (hbw.mono hNV)) (Nat.le_refl _);replace hP:=hP.grow (Grow.of (hbw.mono hNV)) (Nat.le_refl _);replace hM:=hM.belowN hbw m1;replace hS:=hS.belowN hbw m3;replace hBB:=hBB.belowN hbw m2;replace hNw:=Nat.le_trans hNw hbw.size;clear hq1 hal hbw hC hQ hne hown' hgrow hnil hat hob hgl
        (try simp only [Exit.inBlock])
        refine hK3.out _ _ _ ?_;clear hK3;simp only [Exit.then,Exit.inBlock];gi_wp2;go_roundw
        case rel => exact ⟨j + 1,by omega,by go_num,E,hL,hP,hM,hS,hBB,hNw,hC7,hQ7,hne7⟩
        case measure => simp [intOf];omega
       ·have HGT:=Lib.hid (show selL GO (j + 1) = selL GO j by rw [selL_succ,if_neg (by rw [← HGO.out];simpa using hob),List.append_nil]);gi_wp2
        (try simp only [Exit.inBlock])
        refine hK3.out _ _ _ ?_;clear hK3;simp only [Exit.then,Exit.inBlock];gi_wp2;go_roundw
        case rel => exact ⟨j + 1,by omega,by go_num,E,hL,hP,hM,hS,hBB,hNw,hC,by rw [HGT.out];exact hQ,hne⟩
        case measure => simp [intOf];omega
      ·rename_i hbit hys0;clear g0 g1 g2 g3 ltB hcall;have hys:¬ ys = 0:=by simpa using hys0
       have HST:=Lib.hid (show selL F (j + 1) = selL F j by rw [selL_succ,if_neg (by rw [← HF.out];simp only;rw [decide_eq_true hbit,HY.out];simp [hys]),List.append_nil]);rw [← HST.out] at hM hS hC;clear hbit hys0 hys;refine hK4.out _ _ _ ?_;clear hK4;simp only [Exit.then,Exit.inBlock];by_cases hob:bits BinOp.and IntKind.u8 (oth / 2 ^ j) 1 = 1
       ·have HGT:=Lib.hid (show selL GO (j + 1) = selL GO j ++ [(j:Int)] by rw [selL_succ,if_pos (by rw [← HGO.out];exact decide_eq_true hob)]);have hgl:=selL_len GO j
        gi_wp2_with (gi_at_builtin;refine wpListIn_append_own_at _ rfl _ _ 44 rfl N0 3 i0 (.int .i64 0) 1 8 Tryz.underlying44 hi0 hz0 hz1 hz2 rfl (by decide) _ _ _ rfl (hQ.alloc _) ⟨w5.heap.size,0,none⟩ 1 1 [.int .i64 (j:Int)] rfl rfl (cell_one_new _ _ _) (by simp [Value.oneCell']) (by unfold maxLen;omega) (by omega) (by simp;omega) ?_;intro v' w7 hown' hgrow hnil hat)
        have hq1:=hQ.alloc (.cells #[.int .i64 (j:Int)] 3);have hal:Below w5.heap.size w5 (w5.alloc (.cells #[.int .i64 (j:Int)] 3)):=(Below.refl _ w5).alloc (Nat.le_refl _) _;have hbw:=(hal.mono hNw).trans (owns_bel hq1 hgrow (Nat.le_trans hNw hal.size));have hC7:w7.ownsRow N0 3 1 u19 (selL F (j + 1)).length (ints (selL F (j + 1))):=ownsRow_of (hC.alloc (.cells #[.int .i64 (j:Int)] 3)) fun g o hg ho => (hgrow.block g (Array.getElem?_eq_some_iff.1 ho).1 fun e => hne g hg e.symm).trans ho;have hQ7:w7.ownsRow N0 3 1 v' (selL GO (j + 1)).length (ints (selL GO (j + 1))):=by
         rw [HGT.out,List.length_append];unfold ints at hown' ⊢;rw [List.map_append];exact hown'
        have hne7:∀ q,u19.ownBlock = some q → v'.ownBlock ≠ some q:=fun q h1 h2 => by
         rcases hat with e | e
         ·exact hne q h1 (e ▸ h2)
         ·rw [e] at h2;have h3:=(hC.lt q h1).2;have h4:=hal.size;cases h2;omega
        replace E:=E.belowN h0 (hbw.mono hNV) hVw hBV;replace hL:=hL.grow (Grow.of (hbw.mono hNV)) (Nat.le_refl _);replace hP:=hP.grow (Grow.of (hbw.mono hNV)) (Nat.le_refl _);replace hM:=hM.belowN hbw m1;replace hS:=hS.belowN hbw m3;replace hBB:=hBB.belowN hbw m2;replace hNw:=Nat.le_trans hNw hbw.size;clear hq1 hal hbw hC hQ hne hown' hgrow hnil hat hob hgl
        (try simp only [Exit.inBlock])
        refine hK3.out _ _ _ ?_;clear hK3;simp only [Exit.then,Exit.inBlock];gi_wp2;go_roundw
        case rel => exact ⟨j + 1,by omega,by go_num,E,hL,hP,hM,hS,hBB,hNw,hC7,hQ7,hne7⟩
        case measure => simp [intOf];omega
       ·have HGT:=Lib.hid (show selL GO (j + 1) = selL GO j by rw [selL_succ,if_neg (by rw [← HGO.out];simpa using hob),List.append_nil]);gi_wp2
        (try simp only [Exit.inBlock])
        refine hK3.out _ _ _ ?_;clear hK3;simp only [Exit.then,Exit.inBlock];gi_wp2;go_roundw
        case rel => exact ⟨j + 1,by omega,by go_num,E,hL,hP,hM,hS,hBB,hNw,hC,by rw [HGT.out];exact hQ,hne⟩
        case measure => simp [intOf];omega
      ·rename_i hbit;clear g0 g1 g2 g3 ltB hcall;have HST:=Lib.hid (show selL F (j + 1) = selL F j by rw [selL_succ,if_neg (by rw [← HF.out];simp only;rw [decide_eq_false hbit];simp),List.append_nil]);rw [← HST.out] at hM hS hC;clear hbit;refine hK4.out _ _ _ ?_;clear hK4;simp only [Exit.then,Exit.inBlock];by_cases hob:bits BinOp.and IntKind.u8 (oth / 2 ^ j) 1 = 1
       ·have HGT:=Lib.hid (show selL GO (j + 1) = selL GO j ++ [(j:Int)] by rw [selL_succ,if_pos (by rw [← HGO.out];exact decide_eq_true hob)]);have hgl:=selL_len GO j
        gi_wp2_with (gi_at_builtin;refine wpListIn_append_own_at _ rfl _ _ 44 rfl N0 3 i0 (.int .i64 0) 1 8 Tryz.underlying44 hi0 hz0 hz1 hz2 rfl (by decide) _ _ _ rfl (hQ.alloc _) ⟨w5.heap.size,0,none⟩ 1 1 [.int .i64 (j:Int)] rfl rfl (cell_one_new _ _ _) (by simp [Value.oneCell']) (by unfold maxLen;omega) (by omega) (by simp;omega) ?_;intro v' w7 hown' hgrow hnil hat)
        have hq1:=hQ.alloc (.cells #[.int .i64 (j:Int)] 3);have hal:Below w5.heap.size w5 (w5.alloc (.cells #[.int .i64 (j:Int)] 3)):=(Below.refl _ w5).alloc (Nat.le_refl _) _;have hbw:=(hal.mono hNw).trans (owns_bel hq1 hgrow (Nat.le_trans hNw hal.size));have hC7:w7.ownsRow N0 3 1 u19 (selL F (j + 1)).length (ints (selL F (j + 1))):=ownsRow_of (hC.alloc (.cells #[.int .i64 (j:Int)] 3)) fun g o hg ho => (hgrow.block g (Array.getElem?_eq_some_iff.1 ho).1 fun e => hne g hg e.symm).trans ho;have hQ7:w7.ownsRow N0 3 1 v' (selL GO (j + 1)).length (ints (selL GO (j + 1))):=by
         rw [HGT.out,List.length_append];unfold ints at hown' ⊢;rw [List.map_append];exact hown'
        have hne7:∀ q,u19.ownBlock = some q → v'.ownBlock ≠ some q:=fun q h1 h2 => by
         rcases hat with e | e
         ·exact hne q h1 (e ▸ h2)
         ·rw [e] at h2;have h3:=(hC.lt q h1).2;have h4:=hal.size;cases h2;omega
        replace E:=E.belowN h0 (hbw.mono hNV) hVw hBV;replace hL:=hL.grow (Grow.of (hbw.mono hNV)) (Nat.le_refl _);replace hP:=hP.grow (Grow.of (hbw.mono hNV)) (Nat.le_refl _);replace hM:=hM.belowN hbw m1;replace hS:=hS.belowN hbw m3;replace hBB:=hBB.belowN hbw m2;replace hNw:=Nat.le_trans hNw hbw.size;clear hq1 hal hbw hC hQ hne hown' hgrow hnil hat hob hgl
        (try simp only [Exit.inBlock])
        refine hK3.out _ _ _ ?_;clear hK3;simp only [Exit.then,Exit.inBlock];gi_wp2;go_roundw
        case rel => exact ⟨j + 1,by omega,by go_num,E,hL,hP,hM,hS,hBB,hNw,hC7,hQ7,hne7⟩
        case measure => simp [intOf];omega
       ·have HGT:=Lib.hid (show selL GO (j + 1) = selL GO j by rw [selL_succ,if_neg (by rw [← HGO.out];simpa using hob),List.append_nil]);gi_wp2
        (try simp only [Exit.inBlock])
        refine hK3.out _ _ _ ?_;clear hK3;simp only [Exit.then,Exit.inBlock];gi_wp2;go_roundw
        case rel => exact ⟨j + 1,by omega,by go_num,E,hL,hP,hM,hS,hBB,hNw,hC,by rw [HGT.out];exact hQ,hne⟩
        case measure => simp [intOf];omega
     ·obtain rfl:j = b.cs.length:=by omega
      clear hj hl;have hOp:OpenL b.to n (selL F b.cs.length):=by
       have:=selL_open (b:=b.to) (n:=n) (f:=F) (fun c hc => by rw [← HF.out] at hc;simp only [Bool.and_eq_true,decide_eq_true_eq] at hc;exact hc.2);rwa [to_cslen] at this
      have hbest:=hMA.best _ hOp;have hmlen:=hMA.len (selL F b.cs.length);have hCl:=selL_len F b.cs.length;have hQl:=selL_len GO b.cs.length;replace hC:=owns_seq hC rfl;replace hQ:=owns_seq hQ rfl;replace hP:=hP.at (by omega)
      clear hL hne;generalize selL F b.cs.length = C at *;generalize selL GO b.cs.length = QL at *;obtain ⟨cb,co,cc,rfl,hCc⟩:=hC;have hC:SeqAt wr (.slice cb C.length cc) C:=⟨cb,co,cc,rfl,hCc⟩
      clear hCc HF HGO;have g0:=E.bx.cell 0;have g1:=E.bx.cell 1;have g2:=E.bx.cell 2;have g3:=E.bx.cell 3;simp at g0 g1 g2 g3;have ltB:=E.bx.lt;gi_wp2;clear g0 g1 g2 g3 ltB;simp (maxSteps:=100000000) only [inBlockR,thenR];refine wpR_seq fit ?_;refine wpR_thenZ fun wr hs => ?_;replace E:=E.same hs;replace hM:=hM.gr (hs.g _);replace hS:=hS.gr (hs.g _);replace hBB:=hBB.gr (hs.g _);replace hP:=hP.gr (hs.g _);replace hC:=hC.gr (hs.g _);replace hQ:=hQ.gr (hs.g _);clear hs;gi_wp2;simp (maxSteps:=100000000) only [thenR];refine wpR_block fit ?_;refine wpR_loop fit (fun k a w' S' => ∃ c:Nat,c ≤ b.coins.length ∧ k = b.coins.length - c ∧ LawAt w S w.heap.size l b B w' S' ∧ Blk w' BM 3 (nums (fun k => (cntC b.to k C:Int)) b.coins.length) ∧ Blk w' BS 3 (nums (fun k => sumL b.to n k C) b.coins.length) ∧ Blk w' BB 3 BE ∧ SeqAt w' vp PL ∧ SeqAt w' (.slice cb C.length cc) C ∧ SeqAt w' u20 QL ∧ ∃ u5 u6 u7 u8 u12 u13 u14 u18 u21 u22 u23 u24 u25 u26 u27 u28 u30 u31 u32 u33 u34 u35 u36 u37 u38 u39 u40 u41 u42 u43 u44 u45 u46 u47 u48 u49 u50 u51 u52 u53 u54 u55 u56 u57 u58 u59 u60 u61 u62 u63 u64 u65 u66 u67 u68 u69 u70 u71 u72 u73 u74 u75 u76 u77 u78 u79 u80 u81 u82 u83 u84 u85 u86 u87 u88 u89 u90 u91 u92 u93 u94 u95 u96 u97 u98 u99 u100 u101 u102 u103 u104 u105 u106 u107 u108 u109 u110 u111 u112 u113 u114 u115 u116 u117 u118 u119 u120 u121 u122 u123 u124 u125 u126 u127 u128 u129 u130 u131 u132 u133 u134 u135 u136 u137 u138 u139 u140 u141 u142 u143 u144 u145 u146 u147 u148 u149 u150 u151 u152 u153 u154 u155 u156 u157 u158 u159 u160 u161 u162 u163 u164 u165 u166 u167 u168 u169 u170 u171 u172 u173 u174 u175 u176 u177 u178 u179 u180 u181 u182 u183 u184 u185 u186 u187 u188 u189 u190 u191 u192 u193 u194 u195 u196 u197 u198 u199 u200 u201 u202 u203 u204 u205 u206 u207 u208 u209 u210 u211 u212 u213 u214 u215 u216 u217 u218 u219 u220 u221 u222 u223 u224 u225 u226 u227 u228 u229 u230 u231 u232 u233 u234 u235 u236 u237 u238 u239 u240 u241 u242 u243 u244 u245 u246 u247 u248 u249 u250 u251 u252 u253 u254 u255 u256 u257 u258:Value,a = ⟨#[.agg (l.rarr b),.int .u16 day,.int .u8 set_,.int .u8 oth,.pointer (some ⟨B,0,none⟩),u5,u6,u7,u8,.int .i64 n,.slice lb L.length lc,vp,u12,u13,u14,.slice (some ⟨BM,0,none⟩) b.coins.length b.coins.length,.slice (some ⟨BB,0,none⟩) b.coins.length b.coins.length,.slice (some ⟨BS,0,none⟩) b.coins.length b.coins.length,u18,.slice cb C.length cc,u20,u21,u22,u23,u24,u25,u26,u27,u28,.int .i64 c,u30,u31,u32,u33,u34,u35,u36,u37,u38,u39,u40,u41,u42,u43,u44,u45,u46,u47,u48,u49,u50,u51,u52,u53,u54,u55,u56,u57,u58,u59,u60,u61,u62,u63,u64,u65,u66,u67,u68,u69,u70,u71,u72,u73,u74,u75,u76,u77,u78,u79,u80,u81,u82,u83,u84,u85,u86,u87,u88,u89,u90,u91,u92,u93,u94,u95,u96,u97,u98,u99,u100,u101,u102,u103,u104,u105,u106,u107,u108,u109,u110,u111,u112,u113,u114,u115,u116,u117,u118,u119,u120,u121,u122,u123,u124,u125,u126,u127,u128,u129,u130,u131,u132,u133,u134,u135,u136,u137,u138,u139,u140,u141,u142,u143,u144,u145,u146,u147,u148,u149,u150,u151,u152,u153,u154,u155,u156,u157,u158,u159,u160,u161,u162,u163,u164,u165,u166,u167,u168,u169,u170,u171,u172,u173,u174,u175,u176,u177,u178,u179,u180,u181,u182,u183,u184,u185,u186,u187,u188,u189,u190,u191,u192,u193,u194,u195,u196,u197,u198,u199,u200,u201,u202,u203,u204,u205,u206,u207,u208,u209,u210,u211,u212,u213,u214,u215,u216,u217,u218,u219,u220,u221,u222,u223,u224,u225,u226,u227,u228,u229,u230,u231,u232,u233,u234,u235,u236,u237,u238,u239,u240,u241,u242,u243,u244,u245,u246,u247,u248,u249,u250,u251,u252,u253,u254,u255,u256,u257,u258],[]⟩) b.coins.length ?start3 ?_
      case start3 => refine ⟨0,Nat.zero_le _,rfl,E,hM,hS,hBB,hP,hC,hQ,?_⟩;(repeat apply Exists.intro);rfl
      clear E hM hS hBB hP hC hQ;rintro k a w1 S1 ⟨c,hc,rfl,E,hM,hS,hBB,hP,hC,hQ,hfr⟩
      (iterate 245 obtain ⟨_,hfr⟩:=hfr)
      subst hfr;refine wpR_seq fit ?_;by_cases hlt:c < b.coins.length
      ·as_aux_lemma =>
        have hltI:decide ((c:Int) < b.coins.length) = true:=decide_eq_true (by omega);refine wpR_thenZ fun wr hs => ?_;replace E:=E.same hs;replace hM:=hM.gr (hs.g _);replace hS:=hS.gr (hs.g _);replace hBB:=hBB.gr (hs.g _);replace hP:=hP.gr (hs.g _);replace hC:=hC.gr (hs.g _);replace hQ:=hQ.gr (hs.g _);clear hs;have g0:=E.bx.cell 0;have g1:=E.bx.cell 1;have g2:=E.bx.cell 2;have g3:=E.bx.cell 3;simp at g0 g1 g2 g3;have ltB:=E.bx.lt;gi_wp2;clear g0 g1 g2 g3 ltB;refine wpR_cond fit (t:=true) rfl ?_;simp (maxSteps:=100000000) only [if_true];refine wpR_skip fit ?_;simp (maxSteps:=100000000) only [thenR];refine wpR_seq fit ?_;refine wpR_block fit ?_;refine wpR_seq fit ?_;refine wpR_region fit ?_;simp only [List.size_toArray,List.length_cons,List.length_nil,Nat.reduceAdd,List.range,List.range.loop];refine opsR_loneZ rfl rfl fun wr hs => ?_;replace E:=E.same hs;replace hM:=hM.gr (hs.g _);replace hS:=hS.gr (hs.g _);replace hBB:=hBB.gr (hs.g _);replace hP:=hP.gr (hs.g _);replace hC:=hC.gr (hs.g _);replace hQ:=hQ.gr (hs.g _);clear hs;have g0:=E.bx.cell 0;have g1:=E.bx.cell 1;have g2:=E.bx.cell 2;have g3:=E.bx.cell 3;simp at g0 g1 g2 g3;have ltB:=E.bx.lt;gi_wp2;clear g0 g1 g2 g3 ltB
        iterate 2
         refine opsR_loneZ rfl rfl fun wr hs => ?_;replace E:=E.same hs;replace hM:=hM.gr (hs.g _);replace hS:=hS.gr (hs.g _);replace hBB:=hBB.gr (hs.g _);replace hP:=hP.gr (hs.g _);replace hC:=hC.gr (hs.g _);replace hQ:=hQ.gr (hs.g _);clear hs;gi_wp2
        refine opsR_callZ rfl rfl rfl Tryz.func26 (by kernel_rfl) body26 (vals:=#[.agg (l.rarr b),.int .i64 c,.int .i64 n]) (by simp [Act.eval]) (by rw [← RBook.to_val];exact Balance_R (E.bk.to hR) hf E.kd (Nat.le_trans hlim E.g.size) hlt (by omega) (by omega)) ?_;rintro u w5 S5 ⟨rfl,hg5⟩;replace E:=E.grow hg5;replace hM:=hM.gr hg5.toGrow;replace hS:=hS.gr hg5.toGrow;replace hBB:=hBB.gr hg5.toGrow;replace hP:=hP.gr hg5.toGrow;replace hC:=hC.gr hg5.toGrow;replace hQ:=hQ.gr hg5.toGrow;clear hg5;obtain ⟨xA,hA⟩:∃ xA,(b.to.after n).acc c = xA:=⟨_,rfl⟩
        obtain ⟨xP,hxP⟩:∃ xP,(b.to.after n).pd c = xP:=⟨_,rfl⟩
        obtain ⟨xH,hxH⟩:∃ xH,b.to.heldOf (b.to.after n) c = xH:=⟨_,rfl⟩
        obtain ⟨xT,hxT⟩:∃ xT,(b.to.after n).tkn c = xT:=⟨_,rfl⟩
        rw [hA,hxP,hxH,hxT];have HA:=Lib.hid hA;clear hA hxP hxH hxT;have G:=Grow.refl w5.heap.size w5;refine opsR_loneZ rfl rfl fun wr1 hs => ?_;replace G:=hs.pre G;clear hs;gi_wp2;refine opsR_loneZ rfl rfl fun wr2 hs => ?_;replace G:=hs.pre G;clear hs;gi_wp2;refine opsR_loneZ rfl rfl fun wr3 hs => ?_;replace G:=hs.pre G;clear hs;gi_wp2;refine opsR_loneZ rfl rfl fun wc hs => ?_;replace G:=hs.pre G;clear hs;gi_wp2;have hz:Blk (wc.alloc (.cells zero41 41)) wc.heap.size 41 zero41:=Blk.new wc zero41 41;have lo:=G.size;replace G:=G.trans ((Grow.of ((Below.refl _ wc).alloc (Nat.le_refl _) (.cells zero41 41))).mono G.size);refine opsR_loneZ rfl rfl fun wd hs => ?_;replace hz:=hs.blk hz;replace G:=hs.pre G;clear hs;generalize wc.heap.size = nB at *;have z0:=hz.cell 0;have z1:=hz.cell 1;have z2:=hz.cell 2;have z3:=hz.cell 3;have y0:=hz.frozen 0;have y1:=hz.frozen 1;have y2:=hz.frozen 2;have y3:=hz.frozen 3;simp [zero41] at z0 z1 z2 z3;gi_wp2;have hX:=(((hz.put 0 (.int .i64 xA)).put 1 (.int .i64 xH)).put 2 (.int .i64 xT)).put 3 (.int .i64 xP);simp only [zero41,List.setIfInBounds_toArray,List.set_cons_zero,List.set_cons_succ] at hX;replace G:=G.trans (Grow.of (((((Below.refl _ wd).setCell (p:=⟨nB,0,none⟩) lo (.int .i64 xA)).setCell (p:=⟨nB,1,none⟩) lo (.int .i64 xH)).setCell (p:=⟨nB,2,none⟩) lo (.int .i64 xT)).setCell (p:=⟨nB,3,none⟩) lo (.int .i64 xP)));clear z0 z1 z2 z3 y0 y1 y2 y3 hz;refine opsR_loneZ rfl rfl fun we hs => ?_;replace hX:=hs.blk hX;replace G:=hs.pre G;clear hs;gi_wp2;refine opsR_nil fit ?_;replace E:=E.grow G.s;replace hM:=hM.gr G;replace hS:=hS.gr G;replace hBB:=hBB.gr G;replace hP:=hP.gr G;replace hC:=hC.gr G;replace hQ:=hQ.gr G;clear G lo;simp (maxSteps:=100000000) only [thenR];refine wpR_thenZ fun wr hs => ?_;replace hX:=hs.blk hX;replace E:=E.same hs;replace hM:=hM.gr (hs.g _);replace hS:=hS.gr (hs.g _);replace hBB:=hBB.gr (hs.g _);replace hP:=hP.gr (hs.g _);replace hC:=hC.gr (hs.g _);replace hQ:=hQ.gr (hs.g _);clear hs;have x0:=hX.cell 0;have x1:=hX.cell 1;have x2:=hX.cell 2;have x3:=hX.cell 3;simp at x0 x1 x2 x3;have ltX:=hX.lt;have zM:=hM.cell c;have zS:=hS.cell c;have zB:=hBB.cell c;rw [nums_get hlt] at zM zS;rw [← HBE.out,nums_get hlt] at zB;obtain ⟨sv,hsv⟩:∃ sv,sumL b.to n c C = sv:=⟨_,rfl⟩
        obtain ⟨mv,hmv⟩:∃ mv,cntC b.to c C = mv:=⟨_,rfl⟩
        obtain ⟨bv,hbv⟩:∃ bv,cntC b.to c L = bv:=⟨_,rfl⟩
        have hbc:=hbest c hlt;rw [HA.out,hsv,hmv,hbv] at hbc;simp only [hsv,hmv,hbv] at zM zS zB;have ltM:=hM.lt;have ltS:=hS.lt;have ltB2:=hBB.lt;clear hsv hmv hbv;have hcI:(c:Int) < b.coins.length:=by omega
        by_cases hle:sv ≤ xA
        ·have j1:decide (sv ≤ xA) = true:=decide_eq_true hle;have j2:decide ((bv:Int) < mv) = false:=decide_eq_false (by have:=hbc hle;omega);have j3:decide (bv < mv) = false:=decide_eq_false (by have:=hbc hle;omega);clear hbc hle
         gi_wp2_with fail
         gi_big_quiet_th (fail)
         gi_wp2;replace E:=E.below (below_drewN _ nq);replace hM:=hM.gr (Grow.of (below_drewN _ nq));replace hS:=hS.gr (Grow.of (below_drewN _ nq));replace hBB:=hBB.gr (Grow.of (below_drewN _ nq));replace hP:=hP.gr (Grow.of (below_drewN _ nq));replace hC:=hC.gr (Grow.of (below_drewN _ nq));replace hQ:=hQ.gr (Grow.of (below_drewN _ nq));clear j1 j2 j3;clear x0 x1 x2 x3 ltX zM zS zB ltM ltS ltB2 hX;refine wpR_cond fit (t:=false) rfl ?_;simp (maxSteps:=100000000) only [Bool.false_eq_true,if_false];refine wpR_skip fit ?_;simp (maxSteps:=100000000) only [inBlockR,thenR];refine wpR_loneZ fun wr hs => ?_;replace E:=E.same hs;replace hM:=hM.gr (hs.g _);replace hS:=hS.gr (hs.g _);replace hBB:=hBB.gr (hs.g _);replace hP:=hP.gr (hs.g _);replace hC:=hC.gr (hs.g _);replace hQ:=hQ.gr (hs.g _);clear hs;gi_wp2;simp (maxSteps:=100000000) only [thenR];refine ⟨b.coins.length - (c + 1),by omega,c + 1,by omega,rfl,E,hM,hS,hBB,hP,hC,hQ,?_⟩
         (repeat apply Exists.intro)
         rfl
        ·have j1:decide (sv ≤ xA) = false:=decide_eq_false hle;clear hbc hle
         gi_wp2_with fail
         gi_big_quiet_th (fail)
         gi_wp2;replace E:=E.below (below_drewN _ nq);replace hM:=hM.gr (Grow.of (below_drewN _ nq));replace hS:=hS.gr (Grow.of (below_drewN _ nq));replace hBB:=hBB.gr (Grow.of (below_drewN _ nq));replace hP:=hP.gr (Grow.of (below_drewN _ nq));replace hC:=hC.gr (Grow.of (below_drewN _ nq));replace hQ:=hQ.gr (Grow.of (below_drewN _ nq));clear j1;clear x0 x1 x2 x3 ltX zM zS zB ltM ltS ltB2 hX;refine wpR_cond fit (t:=false) rfl ?_;simp (maxSteps:=100000000) only [Bool.false_eq_true,if_false];refine wpR_skip fit ?_;simp (maxSteps:=100000000) only [inBlockR,thenR];refine wpR_loneZ fun wr hs => ?_;replace E:=E.same hs;replace hM:=hM.gr (hs.g _);replace hS:=hS.gr (hs.g _);replace hBB:=hBB.gr (hs.g _);replace hP:=hP.gr (hs.g _);replace hC:=hC.gr (hs.g _);replace hQ:=hQ.gr (hs.g _);clear hs;gi_wp2;simp (maxSteps:=100000000) only [thenR];refine ⟨b.coins.length - (c + 1),by omega,c + 1,by omega,rfl,E,hM,hS,hBB,hP,hC,hQ,?_⟩
         (repeat apply Exists.intro)
         rfl
      ·obtain rfl:c = b.coins.length:=by omega
       as_aux_lemma =>
        refine wpR_thenZ fun wr hs => ?_;replace E:=E.same hs;replace hM:=hM.gr (hs.g _);replace hS:=hS.gr (hs.g _);replace hBB:=hBB.gr (hs.g _);replace hP:=hP.gr (hs.g _);replace hC:=hC.gr (hs.g _);replace hQ:=hQ.gr (hs.g _);clear hs;have g0:=E.bx.cell 0;have g1:=E.bx.cell 1;have g2:=E.bx.cell 2;have g3:=E.bx.cell 3;simp at g0 g1 g2 g3;have ltB:=E.bx.lt;gi_wp2;clear g0 g1 g2 g3 ltB;refine wpR_cond fit (t:=false) rfl ?_;simp (maxSteps:=100000000) only [Bool.false_eq_true,if_false];refine wpR_exit fit ?_;simp (maxSteps:=100000000) only [thenR,inBlockR,if_true];have hCl2:C.length < 1000000:=by omega
        have hQl2:QL.length < 1000000:=by omega
        refine wpR_thenZ fun wr hs => ?_;replace E:=E.same hs;replace hM:=hM.gr (hs.g _);replace hS:=hS.gr (hs.g _);replace hBB:=hBB.gr (hs.g _);replace hP:=hP.gr (hs.g _);replace hC:=hC.gr (hs.g _);replace hQ:=hQ.gr (hs.g _);clear hs;have g0:=E.bx.cell 0;have g1:=E.bx.cell 1;have g2:=E.bx.cell 2;have g3:=E.bx.cell 3;simp at g0 g1 g2 g3;have ltB:=E.bx.lt;have hcall:=Proves_in (E.bk.to hR) hf E.kd (day:=n) (by omega) (by omega) hC hP hCl2 (by omega);obtain ⟨p1,hp1⟩:∃ p1,b.to.proves (b.to.after n) n C PL = p1:=⟨_,rfl⟩
        rw [RBook.to_val,hp1] at hcall;have hl1:p1 = true → C.length = L.length:=fun h => hmlen _ hOp (hp1.trans h);clear hp1
        gi_wp2_with (gi_at_call 33;with_reducible refine hcall.mono ?_;rintro e w4 ⟨rfl,hb4⟩)
        clear g0 g1 g2 g3 ltB;replace E:=E.below hb4;replace hM:=hM.gr (Grow.of hb4);replace hS:=hS.gr (Grow.of hb4);replace hBB:=hBB.gr (Grow.of hb4);replace hP:=hP.gr (Grow.of hb4);replace hC:=hC.gr (Grow.of hb4);replace hQ:=hQ.gr (Grow.of hb4);clear hcall hb4;simp (maxSteps:=100000000) only [thenR];refine wpR_thenZ fun wr hs => ?_;replace E:=E.same hs;replace hM:=hM.gr (hs.g _);replace hS:=hS.gr (hs.g _);replace hBB:=hBB.gr (hs.g _);replace hP:=hP.gr (hs.g _);replace hC:=hC.gr (hs.g _);replace hQ:=hQ.gr (hs.g _);clear hs;have g0:=E.bx.cell 0;have g1:=E.bx.cell 1;have g2:=E.bx.cell 2;have g3:=E.bx.cell 3;simp at g0 g1 g2 g3;have ltB:=E.bx.lt;have hcall:=Proves_in (E.bk.to hR) hf E.kd (day:=n) (by omega) (by omega) hC hQ hCl2 hQl2;obtain ⟨p2,hp2⟩:∃ p2,b.to.proves (b.to.after n) n C QL = p2:=⟨_,rfl⟩
        rw [RBook.to_val,hp2] at hcall;have hl2:p2 = true → C.length = L.length:=fun h => hmlen _ hOp (hp2.trans h);clear hp2
        gi_wp2_with (gi_at_call 33;with_reducible refine hcall.mono ?_;rintro e w4 ⟨rfl,hb4⟩)
        clear g0 g1 g2 g3 ltB;replace E:=E.below hb4;clear hcall hb4 hM hS hBB hP hC hQ;simp (maxSteps:=100000000) only [thenR];clear hbest hMA hmlen hOp;cases p1 with
        | true =>
         have e:=hl1 rfl;rw [e];clear hl1 hl2 e;refine wpR_seq fit (wpR_region fit ?_);simp only [List.size_toArray,List.length_cons,List.length_nil,Nat.reduceAdd,List.range,List.range.loop]
         iterate 10
          refine opsR_loneZ rfl rfl fun wr hs => ?_;replace E:=E.same hs;clear hs;gi_wp2
         iterate 2
          refine opsR_skipZ rfl rfl (fun w' f h => by (simp [Oper.about] at h)) ?_
         iterate 10
          refine opsR_loneZ rfl rfl fun wr hs => ?_;replace E:=E.same hs;clear hs;gi_wp2
         refine opsR_callZ rfl rfl rfl Tryz.func17 (by kernel_rfl) body17 (vals:=#[]) (by simp) (paid_R E.kd (Nat.le_trans hlim E.g.size)) ?_;rintro u w5 S5 ⟨rfl,hg5⟩;replace E:=E.grow hg5;clear hg5
         iterate 2
          refine opsR_loneZ rfl rfl fun wr hs => ?_;replace E:=E.same hs;clear hs;gi_wp2
         refine opsR_nil fit ?_;refine wpR_ret fit ?_;exact ⟨rfl,.bool true,fun τ d => by rw [results_tmp rfl];rfl,rfl,E.g⟩
        | false =>
         cases p2 with
         | true =>
          have e:=hl2 rfl;rw [e];clear hl1 hl2 e;refine wpR_seq fit (wpR_region fit ?_);simp only [List.size_toArray,List.length_cons,List.length_nil,Nat.reduceAdd,List.range,List.range.loop]
          iterate 22
           refine opsR_loneZ rfl rfl fun wr hs => ?_;replace E:=E.same hs;clear hs;gi_wp2
          refine opsR_callZ rfl rfl rfl Tryz.func17 (by kernel_rfl) body17 (vals:=#[]) (by simp) (paid_R E.kd (Nat.le_trans hlim E.g.size)) ?_;rintro u w5 S5 ⟨rfl,hg5⟩;replace E:=E.grow hg5;clear hg5
          iterate 2
           refine opsR_loneZ rfl rfl fun wr hs => ?_;replace E:=E.same hs;clear hs;gi_wp2
          refine opsR_nil fit ?_;refine wpR_ret fit ?_;exact ⟨rfl,.bool true,fun τ d => by rw [results_tmp rfl];rfl,rfl,E.g⟩
         | false =>
          clear hl1 hl2;refine wpR_seq fit (wpR_region fit ?_);simp only [List.size_toArray,List.length_cons,List.length_nil,Nat.reduceAdd,List.range,List.range.loop]
          iterate 14
           refine opsR_loneZ rfl rfl fun wr hs => ?_;replace E:=E.same hs;clear hs;gi_wp2
          iterate 2
           refine opsR_skipZ rfl rfl (fun w' f h => by (simp [Oper.about] at h)) ?_;refine opsR_skipZ rfl rfl (fun w' f h => by (simp [Oper.about,resolve,Target.leads,Sem.run_pure] at h)) ?_
          refine opsR_skipZ rfl rfl (fun w' f h => by (simp [Oper.about] at h)) ?_
          iterate 3
           refine opsR_loneZ rfl rfl fun wr hs => ?_;replace E:=E.same hs;clear hs;gi_wp2
          refine opsR_callZ rfl rfl rfl Tryz.func17 (by kernel_rfl) body17 (vals:=#[]) (by simp) (paid_R E.kd (Nat.le_trans hlim E.g.size)) ?_;rintro u w5 S5 ⟨rfl,hg5⟩;replace E:=E.grow hg5;clear hg5
          iterate 2
           refine opsR_loneZ rfl rfl fun wr hs => ?_;replace E:=E.same hs;clear hs;gi_wp2
          refine opsR_nil fit ?_;refine wpR_ret fit ?_;exact ⟨rfl,.bool true,fun τ d => by rw [results_tmp rfl];rfl,rfl,E.g⟩
end Go.Proofs.YtnkejaohnhpbpaaGreatDoor
