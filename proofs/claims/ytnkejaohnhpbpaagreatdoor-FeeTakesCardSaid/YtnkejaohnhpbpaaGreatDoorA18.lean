/- The specification's check of a payment, inside the fence. PRINTED BY A PROGRAM (m7.py). -/
import Derived.Test.YtnkejaohnhpbpaaGreatDoorA07
import Derived.Test.YtnkejaohnhpbpaaGreatDoorA17
set_option linter.all false
namespace Go.Proofs.YtnkejaohnhpbpaaGreatDoor
open Go Go.RowKit Lift
def RBook.payFlaw (b:RBook) (p:RPay):Int:=
 if ¬ ((0 ≤ p.kind ∧ p.kind ≤ 2) ∧ (0 ≤ p.day ∧ p.day ≤ 9999) ∧ (1 ≤ p.amount ∧ p.amount ≤ 10000)) then 1
 else if ¬ (0 ≤ p.coin ∧ p.coin < b.coins.length) then 6
 else if p.kind = 1 then (if p.cas = 0 then 0 else 1)
 else if ¬ (0 ≤ p.cas ∧ p.cas < b.cs.length) then 6
 else if p.kind = 2 ∧ p.coin ≠ (b.tarAt (b.casAt p.cas.toNat).tar.toNat).coin then 10 else 0
theorem RBook.payFlaw_iff (b:RBook) (p:RPay):b.payFlaw p = 0 ↔ b.PayOk p:=by
 unfold RBook.payFlaw RBook.PayOk
 by_cases h1:(0 ≤ p.kind ∧ p.kind ≤ 2) ∧ (0 ≤ p.day ∧ p.day ≤ 9999) ∧ (1 ≤ p.amount ∧ p.amount ≤ 10000)
 ·rw [if_neg (not_not_intro h1)]
  by_cases h2:0 ≤ p.coin ∧ p.coin < b.coins.length
  ·rw [if_neg (not_not_intro h2)]
   by_cases h3:p.kind = 1
   ·rw [if_pos h3]
    by_cases h4:p.cas = 0
    ·rw [if_pos h4]
     exact ⟨fun _ => ⟨h1.1,h1.2.1,h1.2.2,h2,fun _ => h4,fun q => absurd h3 q,fun q => by omega⟩,fun _ => rfl⟩
    ·rw [if_neg h4]
     exact ⟨fun q => by omega,fun q => absurd (q.2.2.2.2.1 h3) h4⟩
   ·rw [if_neg h3]
    by_cases h4:0 ≤ p.cas ∧ p.cas < b.cs.length
    ·rw [if_neg (not_not_intro h4)]
     by_cases h5:p.kind = 2 ∧ p.coin ≠ (b.tarAt (b.casAt p.cas.toNat).tar.toNat).coin
     ·rw [if_pos h5]
      exact ⟨fun q => by omega,fun q => absurd (q.2.2.2.2.2.2 h5.1) h5.2⟩
     ·rw [if_neg h5]
      exact ⟨fun _ => ⟨h1.1,h1.2.1,h1.2.2,h2,fun q => absurd q h3,fun _ => h4,fun q => Classical.byContradiction fun k => h5 ⟨q,k⟩⟩,fun _ => rfl⟩
    ·rw [if_pos h4]
     exact ⟨fun q => by omega,fun q => absurd (q.2.2.2.2.2.1 h3) h4⟩
  ·rw [if_pos h2]
   exact ⟨fun q => by omega,fun q => absurd q.2.2.2.1 h2⟩
 ·rw [if_pos h1]
  exact ⟨fun q => by omega,fun q => absurd ⟨q.1,q.2.1,q.2.2.1⟩ h1⟩
section
variable {b:RBook} {p:RPay}
theorem pf1 (h:¬ ((0 ≤ p.kind ∧ p.kind ≤ 2) ∧ (0 ≤ p.day ∧ p.day ≤ 9999) ∧ (1 ≤ p.amount ∧ p.amount ≤ 10000))):b.payFlaw p = 1:=by unfold RBook.payFlaw;rw [if_pos h]
theorem pf2 (h1:(0 ≤ p.kind ∧ p.kind ≤ 2) ∧ (0 ≤ p.day ∧ p.day ≤ 9999) ∧ (1 ≤ p.amount ∧ p.amount ≤ 10000)) (h:¬ (0 ≤ p.coin ∧ p.coin < b.coins.length)):b.payFlaw p = 6:=by unfold RBook.payFlaw;rw [if_neg (not_not_intro h1),if_pos h]
theorem pf3 (h1:(0 ≤ p.kind ∧ p.kind ≤ 2) ∧ (0 ≤ p.day ∧ p.day ≤ 9999) ∧ (1 ≤ p.amount ∧ p.amount ≤ 10000)) (h2:0 ≤ p.coin ∧ p.coin < b.coins.length) (h3:p.kind = 1) (h4:p.cas = 0):b.payFlaw p = 0:=by
 unfold RBook.payFlaw;rw [if_neg (not_not_intro h1),if_neg (not_not_intro h2),if_pos h3,if_pos h4]
theorem pf4 (h1:(0 ≤ p.kind ∧ p.kind ≤ 2) ∧ (0 ≤ p.day ∧ p.day ≤ 9999) ∧ (1 ≤ p.amount ∧ p.amount ≤ 10000)) (h2:0 ≤ p.coin ∧ p.coin < b.coins.length) (h3:p.kind = 1) (h4:¬ p.cas = 0):b.payFlaw p = 1:=by
 unfold RBook.payFlaw;rw [if_neg (not_not_intro h1),if_neg (not_not_intro h2),if_pos h3,if_neg h4]
theorem pf5 (h1:(0 ≤ p.kind ∧ p.kind ≤ 2) ∧ (0 ≤ p.day ∧ p.day ≤ 9999) ∧ (1 ≤ p.amount ∧ p.amount ≤ 10000)) (h2:0 ≤ p.coin ∧ p.coin < b.coins.length) (h3:¬ p.kind = 1) (h4:¬ (0 ≤ p.cas ∧ p.cas < b.cs.length)):b.payFlaw p = 6:=by
 unfold RBook.payFlaw;rw [if_neg (not_not_intro h1),if_neg (not_not_intro h2),if_neg h3,if_pos h4]
theorem pf6 (h1:(0 ≤ p.kind ∧ p.kind ≤ 2) ∧ (0 ≤ p.day ∧ p.day ≤ 9999) ∧ (1 ≤ p.amount ∧ p.amount ≤ 10000)) (h2:0 ≤ p.coin ∧ p.coin < b.coins.length) (h3:¬ p.kind = 1) (h4:0 ≤ p.cas ∧ p.cas < b.cs.length) (h5:p.kind = 2 ∧ p.coin ≠ (b.tarAt (b.casAt p.cas.toNat).tar.toNat).coin):b.payFlaw p = 10:=by
 unfold RBook.payFlaw;rw [if_neg (not_not_intro h1),if_neg (not_not_intro h2),if_neg h3,if_neg (not_not_intro h4),if_pos h5]
theorem pf7 (h1:(0 ≤ p.kind ∧ p.kind ≤ 2) ∧ (0 ≤ p.day ∧ p.day ≤ 9999) ∧ (1 ≤ p.amount ∧ p.amount ≤ 10000)) (h2:0 ≤ p.coin ∧ p.coin < b.coins.length) (h3:¬ p.kind = 1) (h4:0 ≤ p.cas ∧ p.cas < b.cs.length) (h5:¬ (p.kind = 2 ∧ p.coin ≠ (b.tarAt (b.casAt p.cas.toNat).tar.toNat).coin)):b.payFlaw p = 0:=by
 unfold RBook.payFlaw;rw [if_neg (not_not_intro h1),if_neg (not_not_intro h2),if_neg h3,if_neg (not_not_intro h4),if_neg h5]
end
set_option maxRecDepth 1000000 in
set_option maxHeartbeats 16000000 in
theorem checkPay_in {N:Nat} {l:Lay} {b:RBook} {w:World} (hbk:RBkAt N l b w) (hc:b.coins.length < 1000000) (hk:b.cs.length < 1000000) (htar:∀ c,c < b.cs.length → 0 ≤ (b.casAt c).tar ∧ (b.casAt c).tar < b.ts.length) (kd dy co am cc:Int) :
  CallsIn Fz 0 Tryz.prog 56 #[.agg (l.rarr b),.agg #[.int .i64 kd,.int .i64 dy,.int .i64 co,.int .i64 am,.int .i64 cc]] w fun e w' => e = .returned (.int .i64 (b.payFlaw ⟨kd,dy,co,am,cc⟩)) ∧ Below w.heap.size w w':=by
 obtain ⟨xcb,xtb,xkb,xpb,xcc,xtc,xkc,xpc⟩:=l
 simp only [Lay.rarr]
 by_cases qa:0 ≤ kd
 ·have ra:¬ (kd < 0):=by omega
  by_cases qb:kd ≤ 2
  ·have rb:¬ (2 < kd):=by omega
   by_cases qc:0 ≤ dy ∧ dy ≤ 9999
   ·by_cases qd:1 ≤ am ∧ am ≤ 10000
    ·by_cases qe:0 ≤ co ∧ co < b.coins.length
     ·rcases (show kd = 0 ∨ kd = 1 ∨ kd = 2 by omega) with rfl | rfl | rfl
      ·by_cases qg:0 ≤ cc ∧ cc < b.cs.length
       ·have hb1:Below w.heap.size w (w.alloc (.cells #[.slice xcb b.coins.length xcc,.slice xtb b.ts.length xtc,.slice xkb b.cs.length xkc,.slice xpb b.ps.length xpc] 27)):=(Below.refl _ w).alloc (Nat.le_refl _) _
        have hb2:Below (w.alloc (.cells #[.slice xcb b.coins.length xcc,.slice xtb b.ts.length xtc,.slice xkb b.cs.length xkc,.slice xpb b.ps.length xpc] 27)).heap.size (w.alloc (.cells #[.slice xcb b.coins.length xcc,.slice xtb b.ts.length xtc,.slice xkb b.cs.length xkc,.slice xpb b.ps.length xpc] 27)) ((w.alloc (.cells #[.slice xcb b.coins.length xcc,.slice xtb b.ts.length xtc,.slice xkb b.cs.length xkc,.slice xpb b.ps.length xpc] 27)).alloc (.cells #[.int .i64 0,.int .i64 dy,.int .i64 co,.int .i64 am,.int .i64 cc] 56)):=(Below.refl _ _).alloc (Nat.le_refl _) _
        have HB:=hb1.trans (hb2.mono hb1.size)
        have hA:=(Blk.new w #[.slice xcb b.coins.length xcc,.slice xtb b.ts.length xtc,.slice xkb b.cs.length xkc,.slice xpb b.ps.length xpc] 27).below hb2
        have hX:=Blk.new (w.alloc (.cells #[.slice xcb b.coins.length xcc,.slice xtb b.ts.length xtc,.slice xkb b.cs.length xkc,.slice xpb b.ps.length xpc] 27)) #[.int .i64 0,.int .i64 dy,.int .i64 co,.int .i64 am,.int .i64 cc] 56
        rw [World.size_alloc] at hX
        have hbkW:=hbk.below (HB.mono hbk.hN)
        clear hb1 hb2
        gi_enter Tryz.func56,Tryz.ntmps56
        gi_wp2_with (first | (gi_at_call 47;with_reducible refine (rDay_t dy _ qc).mono ?_;rintro e w5 ⟨rfl,rfl⟩) | (gi_at_call 78;with_reducible refine (In_t am 1 10000 _ qd).mono ?_;rintro e w5 ⟨rfl,rfl⟩) | (gi_at_call 61;with_reducible refine (isCoinR_t (l:=⟨xcb,xtb,xkb,xpb,xcc,xtc,xkc,xpc⟩) (b:=b) qe hc).mono ?_;rintro e w5 ⟨rfl,hb5⟩;have hX5:=hX.below hb5;have hA5:=hA.below hb5;have x0:=hX5.cell 0;have x1:=hX5.cell 1;have x2:=hX5.cell 2;have x3:=hX5.cell 3;have x4:=hX5.cell 4;have a0:=hA5.cell 0;have a1:=hA5.cell 1;have a2:=hA5.cell 2;have a3:=hA5.cell 3;simp at x0 x1 x2 x3 x4 a0 a1 a2 a3;have ltX5:=hX5.lt;have ltA5:=hA5.lt) | (gi_at_call 77;with_reducible refine (isCaseR_t (l:=⟨xcb,xtb,xkb,xpb,xcc,xtc,xkc,xpc⟩) (b:=b) qg hk).mono ?_;rintro e w6 ⟨rfl,hb6⟩;have hX6:=hX5.below hb6;have hA6:=hA5.below hb6;clear x0 x1 x2 x3 x4 a0 a1 a2 a3))
        refine wpIn_region_reads (fun w' => Below w6.heap.size w6 w') rfl mixed (by kernel_rfl) (fun d => ⟨rfl,rfl,rfl,Nat.le_refl _,fun _ _ => rfl⟩) ?_
        simp only [List.size_toArray,List.length_cons,List.length_nil,Nat.reduceAdd,Nat.zero_add,List.range,List.range.loop]
        refine det_pure rfl rfl (by decide) ?_
        apply Exists.intro
        refine ⟨fun T w' hw' K Q hK => ?_,?_⟩
        ·gi_wp2
         exact hw'
        apply Exists.intro
        refine ⟨rfl,?_⟩
        refine det_pre rfl rfl (by kernel_rfl) (.inr rfl) ?_
        apply Exists.intro
        refine ⟨fun w' hw' K Q hK => ?_,?_⟩
        ·have q:=hX6.below hw'
         have q0:=q.cell 0
         have q2:=q.cell 2
         have q4:=q.cell 4
         have rB:=hA6.below hw'
         have r0:=rB.cell 0
         have r1:=rB.cell 1
         have r2:=rB.cell 2
         have r3:=rB.cell 3
         simp at q0 q2 q4 r0 r1 r2 r3
         gi_wp2
         exact hw'
        apply Exists.intro
        refine ⟨rfl,?_⟩
        refine det_pure rfl rfl (by decide) ?_
        apply Exists.intro
        refine ⟨fun T w' hw' K Q hK => ?_,?_⟩
        ·gi_wp2
         exact hw'
        apply Exists.intro
        refine ⟨rfl,?_⟩
        refine det_pure rfl rfl (by decide) ?_
        apply Exists.intro
        refine ⟨fun T w' hw' K Q hK => ?_,?_⟩
        ·gi_wp2
         exact hw'
        apply Exists.intro
        refine ⟨rfl,?_⟩
        refine det_skip_undef rfl rfl (by decide) (fun w f hf => by simp [Oper.about] at hf) rfl ?_
        refine det_skip_undef rfl rfl (by decide) (fun w f hf => by simp [Oper.about] at hf) rfl ?_
        refine det_skip_undef rfl rfl (by decide) (fun w f hf => by simp [Oper.about] at hf) rfl ?_
        refine det_skip_undef rfl rfl (by decide) (fun w f hf => by simp [Oper.about] at hf) rfl ?_
        refine det_skip_undef rfl rfl (by decide) (fun w f hf => by simp [Oper.about] at hf) rfl ?_
        refine det_skip_undef rfl rfl (by decide) (fun w f hf => by
         simp [Oper.about,resolve,Deferred.ofValue,Target.leads,Act.eval,go_sem] at hf
         subst hf
         rfl) rfl ?_
        refine det_skip_undef rfl rfl (by decide) (fun w f hf => by simp [Oper.about] at hf) rfl ?_
        refine det_pure rfl rfl (by decide) ?_
        apply Exists.intro
        refine ⟨fun T w' hw' K Q hK => ?_,?_⟩
        ·gi_wp2
         exact hw'
        apply Exists.intro
        refine ⟨rfl,?_⟩
        intro w7 hw7
        gi_wp2
        go_ret
        exact ⟨by rw [pf7 ⟨⟨qa,qb⟩,qc,qd⟩ qe (show ¬ (0:Int) = 1 by decide) qg (fun q => absurd q.1 (show ¬ (0:Int) = 2 by decide))];rfl,(HB.trans ((hb5.trans (hb6.mono hb5.size)).mono HB.size)).trans (hw7.mono (Nat.le_trans HB.size (Nat.le_trans hb5.size hb6.size)))⟩
       ·have hb1:Below w.heap.size w (w.alloc (.cells #[.slice xcb b.coins.length xcc,.slice xtb b.ts.length xtc,.slice xkb b.cs.length xkc,.slice xpb b.ps.length xpc] 27)):=(Below.refl _ w).alloc (Nat.le_refl _) _
        have hb2:Below (w.alloc (.cells #[.slice xcb b.coins.length xcc,.slice xtb b.ts.length xtc,.slice xkb b.cs.length xkc,.slice xpb b.ps.length xpc] 27)).heap.size (w.alloc (.cells #[.slice xcb b.coins.length xcc,.slice xtb b.ts.length xtc,.slice xkb b.cs.length xkc,.slice xpb b.ps.length xpc] 27)) ((w.alloc (.cells #[.slice xcb b.coins.length xcc,.slice xtb b.ts.length xtc,.slice xkb b.cs.length xkc,.slice xpb b.ps.length xpc] 27)).alloc (.cells #[.int .i64 0,.int .i64 dy,.int .i64 co,.int .i64 am,.int .i64 cc] 56)):=(Below.refl _ _).alloc (Nat.le_refl _) _
        have HB:=hb1.trans (hb2.mono hb1.size)
        have hA:=(Blk.new w #[.slice xcb b.coins.length xcc,.slice xtb b.ts.length xtc,.slice xkb b.cs.length xkc,.slice xpb b.ps.length xpc] 27).below hb2
        have hX:=Blk.new (w.alloc (.cells #[.slice xcb b.coins.length xcc,.slice xtb b.ts.length xtc,.slice xkb b.cs.length xkc,.slice xpb b.ps.length xpc] 27)) #[.int .i64 0,.int .i64 dy,.int .i64 co,.int .i64 am,.int .i64 cc] 56
        rw [World.size_alloc] at hX
        have hbkW:=hbk.below (HB.mono hbk.hN)
        clear hb1 hb2
        gi_enter Tryz.func56,Tryz.ntmps56
        gi_wp2_with (first | (gi_at_call 47;with_reducible refine (rDay_t dy _ qc).mono ?_;rintro e w5 ⟨rfl,rfl⟩) | (gi_at_call 78;with_reducible refine (In_t am 1 10000 _ qd).mono ?_;rintro e w5 ⟨rfl,rfl⟩) | (gi_at_call 61;with_reducible refine (isCoinR_t (l:=⟨xcb,xtb,xkb,xpb,xcc,xtc,xkc,xpc⟩) (b:=b) qe hc).mono ?_;rintro e w5 ⟨rfl,hb5⟩;have hX5:=hX.below hb5;have hA5:=hA.below hb5;have x0:=hX5.cell 0;have x1:=hX5.cell 1;have x2:=hX5.cell 2;have x3:=hX5.cell 3;have x4:=hX5.cell 4;have a0:=hA5.cell 0;have a1:=hA5.cell 1;have a2:=hA5.cell 2;have a3:=hA5.cell 3;simp at x0 x1 x2 x3 x4 a0 a1 a2 a3;have ltX5:=hX5.lt;have ltA5:=hA5.lt) | (gi_at_call 77;with_reducible refine (isCaseR_f (l:=⟨xcb,xtb,xkb,xpb,xcc,xtc,xkc,xpc⟩) (b:=b) qg hk).mono ?_;rintro e w6 ⟨rfl,hb6⟩))
        go_ret
        exact ⟨by rw [pf5 ⟨⟨qa,qb⟩,qc,qd⟩ qe (show ¬ (0:Int) = 1 by decide) qg];rfl,HB.trans ((hb5.trans (hb6.mono hb5.size)).mono HB.size)⟩
      ·by_cases qf:cc = 0
       ·subst qf
        have hb1:Below w.heap.size w (w.alloc (.cells #[.slice xcb b.coins.length xcc,.slice xtb b.ts.length xtc,.slice xkb b.cs.length xkc,.slice xpb b.ps.length xpc] 27)):=(Below.refl _ w).alloc (Nat.le_refl _) _
        have hb2:Below (w.alloc (.cells #[.slice xcb b.coins.length xcc,.slice xtb b.ts.length xtc,.slice xkb b.cs.length xkc,.slice xpb b.ps.length xpc] 27)).heap.size (w.alloc (.cells #[.slice xcb b.coins.length xcc,.slice xtb b.ts.length xtc,.slice xkb b.cs.length xkc,.slice xpb b.ps.length xpc] 27)) ((w.alloc (.cells #[.slice xcb b.coins.length xcc,.slice xtb b.ts.length xtc,.slice xkb b.cs.length xkc,.slice xpb b.ps.length xpc] 27)).alloc (.cells #[.int .i64 1,.int .i64 dy,.int .i64 co,.int .i64 am,.int .i64 0] 56)):=(Below.refl _ _).alloc (Nat.le_refl _) _
        have HB:=hb1.trans (hb2.mono hb1.size)
        have hA:=(Blk.new w #[.slice xcb b.coins.length xcc,.slice xtb b.ts.length xtc,.slice xkb b.cs.length xkc,.slice xpb b.ps.length xpc] 27).below hb2
        have hX:=Blk.new (w.alloc (.cells #[.slice xcb b.coins.length xcc,.slice xtb b.ts.length xtc,.slice xkb b.cs.length xkc,.slice xpb b.ps.length xpc] 27)) #[.int .i64 1,.int .i64 dy,.int .i64 co,.int .i64 am,.int .i64 0] 56
        rw [World.size_alloc] at hX
        have hbkW:=hbk.below (HB.mono hbk.hN)
        clear hb1 hb2
        gi_enter Tryz.func56,Tryz.ntmps56
        gi_wp2_with (first | (gi_at_call 47;with_reducible refine (rDay_t dy _ qc).mono ?_;rintro e w5 ⟨rfl,rfl⟩) | (gi_at_call 78;with_reducible refine (In_t am 1 10000 _ qd).mono ?_;rintro e w5 ⟨rfl,rfl⟩) | (gi_at_call 61;with_reducible refine (isCoinR_t (l:=⟨xcb,xtb,xkb,xpb,xcc,xtc,xkc,xpc⟩) (b:=b) qe hc).mono ?_;rintro e w5 ⟨rfl,hb5⟩;have hX5:=hX.below hb5;have hA5:=hA.below hb5;have x0:=hX5.cell 0;have x1:=hX5.cell 1;have x2:=hX5.cell 2;have x3:=hX5.cell 3;have x4:=hX5.cell 4;have a0:=hA5.cell 0;have a1:=hA5.cell 1;have a2:=hA5.cell 2;have a3:=hA5.cell 3;simp at x0 x1 x2 x3 x4 a0 a1 a2 a3;have ltX5:=hX5.lt;have ltA5:=hA5.lt))
        go_ret
        exact ⟨by rw [pf3 ⟨⟨qa,qb⟩,qc,qd⟩ qe rfl rfl];rfl,HB.trans (hb5.mono HB.size)⟩
       ·have hb1:Below w.heap.size w (w.alloc (.cells #[.slice xcb b.coins.length xcc,.slice xtb b.ts.length xtc,.slice xkb b.cs.length xkc,.slice xpb b.ps.length xpc] 27)):=(Below.refl _ w).alloc (Nat.le_refl _) _
        have hb2:Below (w.alloc (.cells #[.slice xcb b.coins.length xcc,.slice xtb b.ts.length xtc,.slice xkb b.cs.length xkc,.slice xpb b.ps.length xpc] 27)).heap.size (w.alloc (.cells #[.slice xcb b.coins.length xcc,.slice xtb b.ts.length xtc,.slice xkb b.cs.length xkc,.slice xpb b.ps.length xpc] 27)) ((w.alloc (.cells #[.slice xcb b.coins.length xcc,.slice xtb b.ts.length xtc,.slice xkb b.cs.length xkc,.slice xpb b.ps.length xpc] 27)).alloc (.cells #[.int .i64 1,.int .i64 dy,.int .i64 co,.int .i64 am,.int .i64 cc] 56)):=(Below.refl _ _).alloc (Nat.le_refl _) _
        have HB:=hb1.trans (hb2.mono hb1.size)
        have hA:=(Blk.new w #[.slice xcb b.coins.length xcc,.slice xtb b.ts.length xtc,.slice xkb b.cs.length xkc,.slice xpb b.ps.length xpc] 27).below hb2
        have hX:=Blk.new (w.alloc (.cells #[.slice xcb b.coins.length xcc,.slice xtb b.ts.length xtc,.slice xkb b.cs.length xkc,.slice xpb b.ps.length xpc] 27)) #[.int .i64 1,.int .i64 dy,.int .i64 co,.int .i64 am,.int .i64 cc] 56
        rw [World.size_alloc] at hX
        have hbkW:=hbk.below (HB.mono hbk.hN)
        clear hb1 hb2
        gi_enter Tryz.func56,Tryz.ntmps56
        gi_wp2_with (first | (gi_at_call 47;with_reducible refine (rDay_t dy _ qc).mono ?_;rintro e w5 ⟨rfl,rfl⟩) | (gi_at_call 78;with_reducible refine (In_t am 1 10000 _ qd).mono ?_;rintro e w5 ⟨rfl,rfl⟩) | (gi_at_call 61;with_reducible refine (isCoinR_t (l:=⟨xcb,xtb,xkb,xpb,xcc,xtc,xkc,xpc⟩) (b:=b) qe hc).mono ?_;rintro e w5 ⟨rfl,hb5⟩;have hX5:=hX.below hb5;have hA5:=hA.below hb5;have x0:=hX5.cell 0;have x1:=hX5.cell 1;have x2:=hX5.cell 2;have x3:=hX5.cell 3;have x4:=hX5.cell 4;have a0:=hA5.cell 0;have a1:=hA5.cell 1;have a2:=hA5.cell 2;have a3:=hA5.cell 3;simp at x0 x1 x2 x3 x4 a0 a1 a2 a3;have ltX5:=hX5.lt;have ltA5:=hA5.lt))
        go_ret
        exact ⟨by rw [pf4 ⟨⟨qa,qb⟩,qc,qd⟩ qe rfl qf];rfl,HB.trans (hb5.mono HB.size)⟩
      ·by_cases qg:0 ≤ cc ∧ cc < b.cs.length
       ·obtain ⟨c,rfl⟩:∃ c:Nat,cc = c:=⟨cc.toNat,by omega⟩
        have hcc:c < b.cs.length:=by omega
        obtain ⟨kc,hkc⟩:∃ kc,(b.tarAt (b.casAt c).tar.toNat).coin = kc:=⟨_,rfl⟩
        by_cases qh:co = kc
        ·subst qh
         have hb1:Below w.heap.size w (w.alloc (.cells #[.slice xcb b.coins.length xcc,.slice xtb b.ts.length xtc,.slice xkb b.cs.length xkc,.slice xpb b.ps.length xpc] 27)):=(Below.refl _ w).alloc (Nat.le_refl _) _
         have hb2:Below (w.alloc (.cells #[.slice xcb b.coins.length xcc,.slice xtb b.ts.length xtc,.slice xkb b.cs.length xkc,.slice xpb b.ps.length xpc] 27)).heap.size (w.alloc (.cells #[.slice xcb b.coins.length xcc,.slice xtb b.ts.length xtc,.slice xkb b.cs.length xkc,.slice xpb b.ps.length xpc] 27)) ((w.alloc (.cells #[.slice xcb b.coins.length xcc,.slice xtb b.ts.length xtc,.slice xkb b.cs.length xkc,.slice xpb b.ps.length xpc] 27)).alloc (.cells #[.int .i64 2,.int .i64 dy,.int .i64 co,.int .i64 am,.int .i64 c] 56)):=(Below.refl _ _).alloc (Nat.le_refl _) _
         have HB:=hb1.trans (hb2.mono hb1.size)
         have hA:=(Blk.new w #[.slice xcb b.coins.length xcc,.slice xtb b.ts.length xtc,.slice xkb b.cs.length xkc,.slice xpb b.ps.length xpc] 27).below hb2
         have hX:=Blk.new (w.alloc (.cells #[.slice xcb b.coins.length xcc,.slice xtb b.ts.length xtc,.slice xkb b.cs.length xkc,.slice xpb b.ps.length xpc] 27)) #[.int .i64 2,.int .i64 dy,.int .i64 co,.int .i64 am,.int .i64 c] 56
         rw [World.size_alloc] at hX
         have hbkW:=hbk.below (HB.mono hbk.hN)
         clear hb1 hb2
         gi_enter Tryz.func56,Tryz.ntmps56
         gi_wp2_with (first | (gi_at_call 47;with_reducible refine (rDay_t dy _ qc).mono ?_;rintro e w5 ⟨rfl,rfl⟩) | (gi_at_call 78;with_reducible refine (In_t am 1 10000 _ qd).mono ?_;rintro e w5 ⟨rfl,rfl⟩) | (gi_at_call 61;with_reducible refine (isCoinR_t (l:=⟨xcb,xtb,xkb,xpb,xcc,xtc,xkc,xpc⟩) (b:=b) qe hc).mono ?_;rintro e w5 ⟨rfl,hb5⟩;have hX5:=hX.below hb5;have hA5:=hA.below hb5;have x0:=hX5.cell 0;have x1:=hX5.cell 1;have x2:=hX5.cell 2;have x3:=hX5.cell 3;have x4:=hX5.cell 4;have a0:=hA5.cell 0;have a1:=hA5.cell 1;have a2:=hA5.cell 2;have a3:=hA5.cell 3;simp at x0 x1 x2 x3 x4 a0 a1 a2 a3;have ltX5:=hX5.lt;have ltA5:=hA5.lt) | (gi_at_call 77;with_reducible refine (isCaseR_t (l:=⟨xcb,xtb,xkb,xpb,xcc,xtc,xkc,xpc⟩) (b:=b) qg hk).mono ?_;rintro e w6 ⟨rfl,hb6⟩;have hX6:=hX5.below hb6;have hA6:=hA5.below hb6;clear x0 x1 x2 x3 x4 a0 a1 a2 a3))
         have hbk6:=hbkW.below (((hb5.trans (hb6.mono hb5.size))).mono hbkW.hN)
         have hcoin:∀ w',Below w6.heap.size w6 w' → _:=fun w' hw' => coinR_in (hbk6.below (hw'.mono hbk6.hN)) hcc (htar _ hcc)
         rw [hkc] at hcoin
         refine wpIn_region_reads (fun w' => Below w6.heap.size w6 w') rfl mixed (by kernel_rfl) (fun d => ⟨rfl,rfl,rfl,Nat.le_refl _,fun _ _ => rfl⟩) ?_
         simp only [List.size_toArray,List.length_cons,List.length_nil,Nat.reduceAdd,Nat.zero_add,List.range,List.range.loop]
         refine det_pure rfl rfl (by decide) ?_
         apply Exists.intro
         refine ⟨fun T w' hw' K Q hK => ?_,?_⟩
         ·gi_wp2
          exact hw'
         apply Exists.intro
         refine ⟨rfl,?_⟩
         refine det_pre rfl rfl (by kernel_rfl) (.inr rfl) ?_
         apply Exists.intro
         refine ⟨fun w' hw' K Q hK => ?_,?_⟩
         ·have q:=hX6.below hw'
          have q0:=q.cell 0
          have q2:=q.cell 2
          have q4:=q.cell 4
          have rB:=hA6.below hw'
          have r0:=rB.cell 0
          have r1:=rB.cell 1
          have r2:=rB.cell 2
          have r3:=rB.cell 3
          simp at q0 q2 q4 r0 r1 r2 r3
          gi_wp2
          exact hw'
         apply Exists.intro
         refine ⟨rfl,?_⟩
         refine det_pure rfl rfl (by decide) ?_
         apply Exists.intro
         refine ⟨fun T w' hw' K Q hK => ?_,?_⟩
         ·gi_wp2
          exact hw'
         apply Exists.intro
         refine ⟨rfl,?_⟩
         refine det_pure rfl rfl (by decide) ?_
         apply Exists.intro
         refine ⟨fun T w' hw' K Q hK => ?_,?_⟩
         ·gi_wp2
          exact hw'
         apply Exists.intro
         refine ⟨rfl,?_⟩
         refine det_pure rfl rfl (by decide) ?_
         apply Exists.intro
         refine ⟨fun T w' hw' K Q hK => ?_,?_⟩
         ·gi_wp2
          exact hw'
         apply Exists.intro
         refine ⟨rfl,?_⟩
         refine det_pre rfl rfl (by kernel_rfl) (.inr rfl) ?_
         apply Exists.intro
         refine ⟨fun w' hw' K Q hK => ?_,?_⟩
         ·have q:=hX6.below hw'
          have q0:=q.cell 0
          have q2:=q.cell 2
          have q4:=q.cell 4
          have rB:=hA6.below hw'
          have r0:=rB.cell 0
          have r1:=rB.cell 1
          have r2:=rB.cell 2
          have r3:=rB.cell 3
          simp at q0 q2 q4 r0 r1 r2 r3
          gi_wp2
          exact hw'
         apply Exists.intro
         refine ⟨rfl,?_⟩
         refine det_pre rfl rfl (by kernel_rfl) (.inr rfl) ?_
         apply Exists.intro
         refine ⟨fun w' hw' K Q hK => ?_,?_⟩
         ·have q:=hX6.below hw'
          have q0:=q.cell 0
          have q2:=q.cell 2
          have q4:=q.cell 4
          have rB:=hA6.below hw'
          have r0:=rB.cell 0
          have r1:=rB.cell 1
          have r2:=rB.cell 2
          have r3:=rB.cell 3
          simp at q0 q2 q4 r0 r1 r2 r3
          gi_wp2
          exact hw'
         apply Exists.intro
         refine ⟨rfl,?_⟩
         refine det_pure rfl rfl (by decide) ?_
         apply Exists.intro
         refine ⟨fun T w' hw' K Q hK => ?_,?_⟩
         ·gi_wp2
          exact hw'
         apply Exists.intro
         refine ⟨rfl,?_⟩
         refine det_pre rfl rfl (by kernel_rfl) (.inr rfl) ?_
         apply Exists.intro
         refine ⟨fun w' hw' K Q hK => ?_,?_⟩
         ·have q:=hX6.below hw'
          have q0:=q.cell 0
          have q2:=q.cell 2
          have q4:=q.cell 4
          have rB:=hA6.below hw'
          have r0:=rB.cell 0
          have r1:=rB.cell 1
          have r2:=rB.cell 2
          have r3:=rB.cell 3
          simp at q0 q2 q4 r0 r1 r2 r3
          gi_wp2
          exact hw'
         apply Exists.intro
         refine ⟨rfl,?_⟩
         refine det_pre rfl rfl (by kernel_rfl) (.inr rfl) ?_
         apply Exists.intro
         refine ⟨fun w' hw' K Q hK => ?_,?_⟩
         ·have q:=hX6.below hw'
          have q0:=q.cell 0
          have q2:=q.cell 2
          have q4:=q.cell 4
          have rB:=hA6.below hw'
          have r0:=rB.cell 0
          have r1:=rB.cell 1
          have r2:=rB.cell 2
          have r3:=rB.cell 3
          simp at q0 q2 q4 r0 r1 r2 r3
          gi_wp2_with (gi_at_call 62;refine (hcoin _ hw').mono ?_;rintro e w'' ⟨rfl,hb⟩)
          exact hw'.trans (hb.mono hw'.size)
         apply Exists.intro
         refine ⟨rfl,?_⟩
         refine det_pure rfl rfl (by decide) ?_
         apply Exists.intro
         refine ⟨fun T w' hw' K Q hK => ?_,?_⟩
         ·gi_wp2
          exact hw'
         apply Exists.intro
         refine ⟨rfl,?_⟩
         refine det_pure rfl rfl (by decide) ?_
         apply Exists.intro
         refine ⟨fun T w' hw' K Q hK => ?_,?_⟩
         ·gi_wp2
          exact hw'
         apply Exists.intro
         refine ⟨rfl,?_⟩
         intro w7 hw7
         gi_wp2
         go_ret
         exact ⟨by rw [pf7 ⟨⟨qa,qb⟩,qc,qd⟩ qe (show ¬ (2:Int) = 1 by decide) qg (fun q => q.2 hkc.symm)];rfl,(HB.trans ((hb5.trans (hb6.mono hb5.size)).mono HB.size)).trans (hw7.mono (Nat.le_trans HB.size (Nat.le_trans hb5.size hb6.size)))⟩
        ·have hb1:Below w.heap.size w (w.alloc (.cells #[.slice xcb b.coins.length xcc,.slice xtb b.ts.length xtc,.slice xkb b.cs.length xkc,.slice xpb b.ps.length xpc] 27)):=(Below.refl _ w).alloc (Nat.le_refl _) _
         have hb2:Below (w.alloc (.cells #[.slice xcb b.coins.length xcc,.slice xtb b.ts.length xtc,.slice xkb b.cs.length xkc,.slice xpb b.ps.length xpc] 27)).heap.size (w.alloc (.cells #[.slice xcb b.coins.length xcc,.slice xtb b.ts.length xtc,.slice xkb b.cs.length xkc,.slice xpb b.ps.length xpc] 27)) ((w.alloc (.cells #[.slice xcb b.coins.length xcc,.slice xtb b.ts.length xtc,.slice xkb b.cs.length xkc,.slice xpb b.ps.length xpc] 27)).alloc (.cells #[.int .i64 2,.int .i64 dy,.int .i64 co,.int .i64 am,.int .i64 c] 56)):=(Below.refl _ _).alloc (Nat.le_refl _) _
         have HB:=hb1.trans (hb2.mono hb1.size)
         have hA:=(Blk.new w #[.slice xcb b.coins.length xcc,.slice xtb b.ts.length xtc,.slice xkb b.cs.length xkc,.slice xpb b.ps.length xpc] 27).below hb2
         have hX:=Blk.new (w.alloc (.cells #[.slice xcb b.coins.length xcc,.slice xtb b.ts.length xtc,.slice xkb b.cs.length xkc,.slice xpb b.ps.length xpc] 27)) #[.int .i64 2,.int .i64 dy,.int .i64 co,.int .i64 am,.int .i64 c] 56
         rw [World.size_alloc] at hX
         have hbkW:=hbk.below (HB.mono hbk.hN)
         clear hb1 hb2
         gi_enter Tryz.func56,Tryz.ntmps56
         gi_wp2_with (first | (gi_at_call 47;with_reducible refine (rDay_t dy _ qc).mono ?_;rintro e w5 ⟨rfl,rfl⟩) | (gi_at_call 78;with_reducible refine (In_t am 1 10000 _ qd).mono ?_;rintro e w5 ⟨rfl,rfl⟩) | (gi_at_call 61;with_reducible refine (isCoinR_t (l:=⟨xcb,xtb,xkb,xpb,xcc,xtc,xkc,xpc⟩) (b:=b) qe hc).mono ?_;rintro e w5 ⟨rfl,hb5⟩;have hX5:=hX.below hb5;have hA5:=hA.below hb5;have x0:=hX5.cell 0;have x1:=hX5.cell 1;have x2:=hX5.cell 2;have x3:=hX5.cell 3;have x4:=hX5.cell 4;have a0:=hA5.cell 0;have a1:=hA5.cell 1;have a2:=hA5.cell 2;have a3:=hA5.cell 3;simp at x0 x1 x2 x3 x4 a0 a1 a2 a3;have ltX5:=hX5.lt;have ltA5:=hA5.lt) | (gi_at_call 77;with_reducible refine (isCaseR_t (l:=⟨xcb,xtb,xkb,xpb,xcc,xtc,xkc,xpc⟩) (b:=b) qg hk).mono ?_;rintro e w6 ⟨rfl,hb6⟩;have hX6:=hX5.below hb6;have hA6:=hA5.below hb6;clear x0 x1 x2 x3 x4 a0 a1 a2 a3))
         have hbk6:=hbkW.below (((hb5.trans (hb6.mono hb5.size))).mono hbkW.hN)
         have hcoin:∀ w',Below w6.heap.size w6 w' → _:=fun w' hw' => coinR_in (hbk6.below (hw'.mono hbk6.hN)) hcc (htar _ hcc)
         rw [hkc] at hcoin
         refine wpIn_region_reads (fun w' => Below w6.heap.size w6 w') rfl mixed (by kernel_rfl) (fun d => ⟨rfl,rfl,rfl,Nat.le_refl _,fun _ _ => rfl⟩) ?_
         simp only [List.size_toArray,List.length_cons,List.length_nil,Nat.reduceAdd,Nat.zero_add,List.range,List.range.loop]
         refine det_pure rfl rfl (by decide) ?_
         apply Exists.intro
         refine ⟨fun T w' hw' K Q hK => ?_,?_⟩
         ·gi_wp2
          exact hw'
         apply Exists.intro
         refine ⟨rfl,?_⟩
         refine det_pre rfl rfl (by kernel_rfl) (.inr rfl) ?_
         apply Exists.intro
         refine ⟨fun w' hw' K Q hK => ?_,?_⟩
         ·have q:=hX6.below hw'
          have q0:=q.cell 0
          have q2:=q.cell 2
          have q4:=q.cell 4
          have rB:=hA6.below hw'
          have r0:=rB.cell 0
          have r1:=rB.cell 1
          have r2:=rB.cell 2
          have r3:=rB.cell 3
          simp at q0 q2 q4 r0 r1 r2 r3
          gi_wp2
          exact hw'
         apply Exists.intro
         refine ⟨rfl,?_⟩
         refine det_pure rfl rfl (by decide) ?_
         apply Exists.intro
         refine ⟨fun T w' hw' K Q hK => ?_,?_⟩
         ·gi_wp2
          exact hw'
         apply Exists.intro
         refine ⟨rfl,?_⟩
         refine det_pure rfl rfl (by decide) ?_
         apply Exists.intro
         refine ⟨fun T w' hw' K Q hK => ?_,?_⟩
         ·gi_wp2
          exact hw'
         apply Exists.intro
         refine ⟨rfl,?_⟩
         refine det_pure rfl rfl (by decide) ?_
         apply Exists.intro
         refine ⟨fun T w' hw' K Q hK => ?_,?_⟩
         ·gi_wp2
          exact hw'
         apply Exists.intro
         refine ⟨rfl,?_⟩
         refine det_pre rfl rfl (by kernel_rfl) (.inr rfl) ?_
         apply Exists.intro
         refine ⟨fun w' hw' K Q hK => ?_,?_⟩
         ·have q:=hX6.below hw'
          have q0:=q.cell 0
          have q2:=q.cell 2
          have q4:=q.cell 4
          have rB:=hA6.below hw'
          have r0:=rB.cell 0
          have r1:=rB.cell 1
          have r2:=rB.cell 2
          have r3:=rB.cell 3
          simp at q0 q2 q4 r0 r1 r2 r3
          gi_wp2
          exact hw'
         apply Exists.intro
         refine ⟨rfl,?_⟩
         refine det_pre rfl rfl (by kernel_rfl) (.inr rfl) ?_
         apply Exists.intro
         refine ⟨fun w' hw' K Q hK => ?_,?_⟩
         ·have q:=hX6.below hw'
          have q0:=q.cell 0
          have q2:=q.cell 2
          have q4:=q.cell 4
          have rB:=hA6.below hw'
          have r0:=rB.cell 0
          have r1:=rB.cell 1
          have r2:=rB.cell 2
          have r3:=rB.cell 3
          simp at q0 q2 q4 r0 r1 r2 r3
          gi_wp2
          exact hw'
         apply Exists.intro
         refine ⟨rfl,?_⟩
         refine det_pure rfl rfl (by decide) ?_
         apply Exists.intro
         refine ⟨fun T w' hw' K Q hK => ?_,?_⟩
         ·gi_wp2
          exact hw'
         apply Exists.intro
         refine ⟨rfl,?_⟩
         refine det_pre rfl rfl (by kernel_rfl) (.inr rfl) ?_
         apply Exists.intro
         refine ⟨fun w' hw' K Q hK => ?_,?_⟩
         ·have q:=hX6.below hw'
          have q0:=q.cell 0
          have q2:=q.cell 2
          have q4:=q.cell 4
          have rB:=hA6.below hw'
          have r0:=rB.cell 0
          have r1:=rB.cell 1
          have r2:=rB.cell 2
          have r3:=rB.cell 3
          simp at q0 q2 q4 r0 r1 r2 r3
          gi_wp2
          exact hw'
         apply Exists.intro
         refine ⟨rfl,?_⟩
         refine det_pre rfl rfl (by kernel_rfl) (.inr rfl) ?_
         apply Exists.intro
         refine ⟨fun w' hw' K Q hK => ?_,?_⟩
         ·have q:=hX6.below hw'
          have q0:=q.cell 0
          have q2:=q.cell 2
          have q4:=q.cell 4
          have rB:=hA6.below hw'
          have r0:=rB.cell 0
          have r1:=rB.cell 1
          have r2:=rB.cell 2
          have r3:=rB.cell 3
          simp at q0 q2 q4 r0 r1 r2 r3
          gi_wp2_with (gi_at_call 62;refine (hcoin _ hw').mono ?_;rintro e w'' ⟨rfl,hb⟩)
          exact hw'.trans (hb.mono hw'.size)
         apply Exists.intro
         refine ⟨rfl,?_⟩
         refine det_pure rfl rfl (by decide) ?_
         apply Exists.intro
         refine ⟨fun T w' hw' K Q hK => ?_,?_⟩
         ·gi_wp2
          exact hw'
         apply Exists.intro
         refine ⟨rfl,?_⟩
         refine det_pure rfl rfl (by decide) ?_
         apply Exists.intro
         refine ⟨fun T w' hw' K Q hK => ?_,?_⟩
         ·gi_wp2
          exact hw'
         apply Exists.intro
         refine ⟨rfl,?_⟩
         intro w7 hw7
         gi_wp2
         go_ret
         exact ⟨by rw [pf6 ⟨⟨qa,qb⟩,qc,qd⟩ qe (show ¬ (2:Int) = 1 by decide) qg ⟨rfl,fun q => qh (q.trans hkc)⟩];rfl,(HB.trans ((hb5.trans (hb6.mono hb5.size)).mono HB.size)).trans (hw7.mono (Nat.le_trans HB.size (Nat.le_trans hb5.size hb6.size)))⟩
       ·have hb1:Below w.heap.size w (w.alloc (.cells #[.slice xcb b.coins.length xcc,.slice xtb b.ts.length xtc,.slice xkb b.cs.length xkc,.slice xpb b.ps.length xpc] 27)):=(Below.refl _ w).alloc (Nat.le_refl _) _
        have hb2:Below (w.alloc (.cells #[.slice xcb b.coins.length xcc,.slice xtb b.ts.length xtc,.slice xkb b.cs.length xkc,.slice xpb b.ps.length xpc] 27)).heap.size (w.alloc (.cells #[.slice xcb b.coins.length xcc,.slice xtb b.ts.length xtc,.slice xkb b.cs.length xkc,.slice xpb b.ps.length xpc] 27)) ((w.alloc (.cells #[.slice xcb b.coins.length xcc,.slice xtb b.ts.length xtc,.slice xkb b.cs.length xkc,.slice xpb b.ps.length xpc] 27)).alloc (.cells #[.int .i64 2,.int .i64 dy,.int .i64 co,.int .i64 am,.int .i64 cc] 56)):=(Below.refl _ _).alloc (Nat.le_refl _) _
        have HB:=hb1.trans (hb2.mono hb1.size)
        have hA:=(Blk.new w #[.slice xcb b.coins.length xcc,.slice xtb b.ts.length xtc,.slice xkb b.cs.length xkc,.slice xpb b.ps.length xpc] 27).below hb2
        have hX:=Blk.new (w.alloc (.cells #[.slice xcb b.coins.length xcc,.slice xtb b.ts.length xtc,.slice xkb b.cs.length xkc,.slice xpb b.ps.length xpc] 27)) #[.int .i64 2,.int .i64 dy,.int .i64 co,.int .i64 am,.int .i64 cc] 56
        rw [World.size_alloc] at hX
        have hbkW:=hbk.below (HB.mono hbk.hN)
        clear hb1 hb2
        gi_enter Tryz.func56,Tryz.ntmps56
        gi_wp2_with (first | (gi_at_call 47;with_reducible refine (rDay_t dy _ qc).mono ?_;rintro e w5 ⟨rfl,rfl⟩) | (gi_at_call 78;with_reducible refine (In_t am 1 10000 _ qd).mono ?_;rintro e w5 ⟨rfl,rfl⟩) | (gi_at_call 61;with_reducible refine (isCoinR_t (l:=⟨xcb,xtb,xkb,xpb,xcc,xtc,xkc,xpc⟩) (b:=b) qe hc).mono ?_;rintro e w5 ⟨rfl,hb5⟩;have hX5:=hX.below hb5;have hA5:=hA.below hb5;have x0:=hX5.cell 0;have x1:=hX5.cell 1;have x2:=hX5.cell 2;have x3:=hX5.cell 3;have x4:=hX5.cell 4;have a0:=hA5.cell 0;have a1:=hA5.cell 1;have a2:=hA5.cell 2;have a3:=hA5.cell 3;simp at x0 x1 x2 x3 x4 a0 a1 a2 a3;have ltX5:=hX5.lt;have ltA5:=hA5.lt) | (gi_at_call 77;with_reducible refine (isCaseR_f (l:=⟨xcb,xtb,xkb,xpb,xcc,xtc,xkc,xpc⟩) (b:=b) qg hk).mono ?_;rintro e w6 ⟨rfl,hb6⟩))
        go_ret
        exact ⟨by rw [pf5 ⟨⟨qa,qb⟩,qc,qd⟩ qe (show ¬ (2:Int) = 1 by decide) qg];rfl,HB.trans ((hb5.trans (hb6.mono hb5.size)).mono HB.size)⟩
     ·have hb1:Below w.heap.size w (w.alloc (.cells #[.slice xcb b.coins.length xcc,.slice xtb b.ts.length xtc,.slice xkb b.cs.length xkc,.slice xpb b.ps.length xpc] 27)):=(Below.refl _ w).alloc (Nat.le_refl _) _
      have hb2:Below (w.alloc (.cells #[.slice xcb b.coins.length xcc,.slice xtb b.ts.length xtc,.slice xkb b.cs.length xkc,.slice xpb b.ps.length xpc] 27)).heap.size (w.alloc (.cells #[.slice xcb b.coins.length xcc,.slice xtb b.ts.length xtc,.slice xkb b.cs.length xkc,.slice xpb b.ps.length xpc] 27)) ((w.alloc (.cells #[.slice xcb b.coins.length xcc,.slice xtb b.ts.length xtc,.slice xkb b.cs.length xkc,.slice xpb b.ps.length xpc] 27)).alloc (.cells #[.int .i64 kd,.int .i64 dy,.int .i64 co,.int .i64 am,.int .i64 cc] 56)):=(Below.refl _ _).alloc (Nat.le_refl _) _
      have HB:=hb1.trans (hb2.mono hb1.size)
      have hA:=(Blk.new w #[.slice xcb b.coins.length xcc,.slice xtb b.ts.length xtc,.slice xkb b.cs.length xkc,.slice xpb b.ps.length xpc] 27).below hb2
      have hX:=Blk.new (w.alloc (.cells #[.slice xcb b.coins.length xcc,.slice xtb b.ts.length xtc,.slice xkb b.cs.length xkc,.slice xpb b.ps.length xpc] 27)) #[.int .i64 kd,.int .i64 dy,.int .i64 co,.int .i64 am,.int .i64 cc] 56
      rw [World.size_alloc] at hX
      have hbkW:=hbk.below (HB.mono hbk.hN)
      clear hb1 hb2
      gi_enter Tryz.func56,Tryz.ntmps56
      gi_wp2_with (first | (gi_at_call 47;with_reducible refine (rDay_t dy _ qc).mono ?_;rintro e w5 ⟨rfl,rfl⟩) | (gi_at_call 78;with_reducible refine (In_t am 1 10000 _ qd).mono ?_;rintro e w5 ⟨rfl,rfl⟩) | (gi_at_call 61;with_reducible refine (isCoinR_f (l:=⟨xcb,xtb,xkb,xpb,xcc,xtc,xkc,xpc⟩) (b:=b) qe hc).mono ?_;rintro e w5 ⟨rfl,hb5⟩))
      go_ret
      exact ⟨by rw [pf2 ⟨⟨qa,qb⟩,qc,qd⟩ qe];rfl,HB.trans (hb5.mono HB.size)⟩
    ·have hb1:Below w.heap.size w (w.alloc (.cells #[.slice xcb b.coins.length xcc,.slice xtb b.ts.length xtc,.slice xkb b.cs.length xkc,.slice xpb b.ps.length xpc] 27)):=(Below.refl _ w).alloc (Nat.le_refl _) _
     have hb2:Below (w.alloc (.cells #[.slice xcb b.coins.length xcc,.slice xtb b.ts.length xtc,.slice xkb b.cs.length xkc,.slice xpb b.ps.length xpc] 27)).heap.size (w.alloc (.cells #[.slice xcb b.coins.length xcc,.slice xtb b.ts.length xtc,.slice xkb b.cs.length xkc,.slice xpb b.ps.length xpc] 27)) ((w.alloc (.cells #[.slice xcb b.coins.length xcc,.slice xtb b.ts.length xtc,.slice xkb b.cs.length xkc,.slice xpb b.ps.length xpc] 27)).alloc (.cells #[.int .i64 kd,.int .i64 dy,.int .i64 co,.int .i64 am,.int .i64 cc] 56)):=(Below.refl _ _).alloc (Nat.le_refl _) _
     have HB:=hb1.trans (hb2.mono hb1.size)
     have hA:=(Blk.new w #[.slice xcb b.coins.length xcc,.slice xtb b.ts.length xtc,.slice xkb b.cs.length xkc,.slice xpb b.ps.length xpc] 27).below hb2
     have hX:=Blk.new (w.alloc (.cells #[.slice xcb b.coins.length xcc,.slice xtb b.ts.length xtc,.slice xkb b.cs.length xkc,.slice xpb b.ps.length xpc] 27)) #[.int .i64 kd,.int .i64 dy,.int .i64 co,.int .i64 am,.int .i64 cc] 56
     rw [World.size_alloc] at hX
     have hbkW:=hbk.below (HB.mono hbk.hN)
     clear hb1 hb2
     gi_enter Tryz.func56,Tryz.ntmps56
     gi_wp2_with (first | (gi_at_call 47;with_reducible refine (rDay_t dy _ qc).mono ?_;rintro e w5 ⟨rfl,rfl⟩) | (gi_at_call 78;with_reducible refine (In_f am 1 10000 _ qd).mono ?_;rintro e w5 ⟨rfl,rfl⟩))
     go_ret
     exact ⟨by rw [pf1 (fun q => qd q.2.2)];rfl,HB⟩
   ·have hb1:Below w.heap.size w (w.alloc (.cells #[.slice xcb b.coins.length xcc,.slice xtb b.ts.length xtc,.slice xkb b.cs.length xkc,.slice xpb b.ps.length xpc] 27)):=(Below.refl _ w).alloc (Nat.le_refl _) _
    have hb2:Below (w.alloc (.cells #[.slice xcb b.coins.length xcc,.slice xtb b.ts.length xtc,.slice xkb b.cs.length xkc,.slice xpb b.ps.length xpc] 27)).heap.size (w.alloc (.cells #[.slice xcb b.coins.length xcc,.slice xtb b.ts.length xtc,.slice xkb b.cs.length xkc,.slice xpb b.ps.length xpc] 27)) ((w.alloc (.cells #[.slice xcb b.coins.length xcc,.slice xtb b.ts.length xtc,.slice xkb b.cs.length xkc,.slice xpb b.ps.length xpc] 27)).alloc (.cells #[.int .i64 kd,.int .i64 dy,.int .i64 co,.int .i64 am,.int .i64 cc] 56)):=(Below.refl _ _).alloc (Nat.le_refl _) _
    have HB:=hb1.trans (hb2.mono hb1.size)
    have hA:=(Blk.new w #[.slice xcb b.coins.length xcc,.slice xtb b.ts.length xtc,.slice xkb b.cs.length xkc,.slice xpb b.ps.length xpc] 27).below hb2
    have hX:=Blk.new (w.alloc (.cells #[.slice xcb b.coins.length xcc,.slice xtb b.ts.length xtc,.slice xkb b.cs.length xkc,.slice xpb b.ps.length xpc] 27)) #[.int .i64 kd,.int .i64 dy,.int .i64 co,.int .i64 am,.int .i64 cc] 56
    rw [World.size_alloc] at hX
    have hbkW:=hbk.below (HB.mono hbk.hN)
    clear hb1 hb2
    gi_enter Tryz.func56,Tryz.ntmps56
    gi_wp2_with (first | (gi_at_call 47;with_reducible refine (rDay_f dy _ qc).mono ?_;rintro e w5 ⟨rfl,rfl⟩))
    go_ret
    exact ⟨by rw [pf1 (fun q => qc q.2.1)];rfl,HB⟩
  ·have rb:2 < kd:=by omega
   have hb1:Below w.heap.size w (w.alloc (.cells #[.slice xcb b.coins.length xcc,.slice xtb b.ts.length xtc,.slice xkb b.cs.length xkc,.slice xpb b.ps.length xpc] 27)):=(Below.refl _ w).alloc (Nat.le_refl _) _
   have hb2:Below (w.alloc (.cells #[.slice xcb b.coins.length xcc,.slice xtb b.ts.length xtc,.slice xkb b.cs.length xkc,.slice xpb b.ps.length xpc] 27)).heap.size (w.alloc (.cells #[.slice xcb b.coins.length xcc,.slice xtb b.ts.length xtc,.slice xkb b.cs.length xkc,.slice xpb b.ps.length xpc] 27)) ((w.alloc (.cells #[.slice xcb b.coins.length xcc,.slice xtb b.ts.length xtc,.slice xkb b.cs.length xkc,.slice xpb b.ps.length xpc] 27)).alloc (.cells #[.int .i64 kd,.int .i64 dy,.int .i64 co,.int .i64 am,.int .i64 cc] 56)):=(Below.refl _ _).alloc (Nat.le_refl _) _
   have HB:=hb1.trans (hb2.mono hb1.size)
   clear hb1 hb2
   gi_enter Tryz.func56,Tryz.ntmps56
   gi_wp2
   go_ret
   exact ⟨by rw [pf1 (fun q => by have:=q.1.2;simp only at this;omega)];rfl,HB⟩
 ·have ra:kd < 0:=by omega
  have hb1:Below w.heap.size w (w.alloc (.cells #[.slice xcb b.coins.length xcc,.slice xtb b.ts.length xtc,.slice xkb b.cs.length xkc,.slice xpb b.ps.length xpc] 27)):=(Below.refl _ w).alloc (Nat.le_refl _) _
  have hb2:Below (w.alloc (.cells #[.slice xcb b.coins.length xcc,.slice xtb b.ts.length xtc,.slice xkb b.cs.length xkc,.slice xpb b.ps.length xpc] 27)).heap.size (w.alloc (.cells #[.slice xcb b.coins.length xcc,.slice xtb b.ts.length xtc,.slice xkb b.cs.length xkc,.slice xpb b.ps.length xpc] 27)) ((w.alloc (.cells #[.slice xcb b.coins.length xcc,.slice xtb b.ts.length xtc,.slice xkb b.cs.length xkc,.slice xpb b.ps.length xpc] 27)).alloc (.cells #[.int .i64 kd,.int .i64 dy,.int .i64 co,.int .i64 am,.int .i64 cc] 56)):=(Below.refl _ _).alloc (Nat.le_refl _) _
  have HB:=hb1.trans (hb2.mono hb1.size)
  clear hb1 hb2
  gi_enter Tryz.func56,Tryz.ntmps56
  gi_wp2
  go_ret
  exact ⟨by rw [pf1 (fun q => by have:=q.1.1;simp only at this;omega)];rfl,HB⟩
end Go.Proofs.YtnkejaohnhpbpaaGreatDoor
