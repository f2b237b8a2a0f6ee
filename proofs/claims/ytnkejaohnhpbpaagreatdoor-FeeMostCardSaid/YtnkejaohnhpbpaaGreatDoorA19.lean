/- Great: whether a book is too great for the specification: inside the fence. PRINTED BY A PROGRAM (m1.py). -/
import Derived.Test.YtnkejaohnhpbpaaGreatDoorA14
import Derived.Test.YtnkejaohnhpbpaaGreatDoorA16
import Derived.Test.YtnkejaohnhpbpaaGreatDoorA17
import Derived.Test.YtnkejaohnhpbpaaGreatDoorA18
set_option linter.all false
section
namespace Go.Proofs.YtnkejaohnhpbpaaGreatDoor
open Go Go.RowKit Lift
def GreatSays (b:RBook) (e:Ending):Prop:=∃ r:Bool,e = .returned (.bool r) ∧ (r = false → b.Small)
set_option maxHeartbeats 8000000 in
theorem Great_in {N:Nat} {l:Lay} {b:RBook} {w:World} (hbk:RBkAt N l b w) :
  CallsIn Fz 0 Tryz.prog 16 #[.agg (l.rarr b)] w fun e w' => GreatSays b e ∧ Below w.heap.size w w':=by
 have hb1:Below w.heap.size w (w.alloc (.cells (l.rarr b) 27)):=(Below.refl _ w).alloc (Nat.le_refl _) _;have hA:=Blk.new w (l.rarr b) 27;have hN1:=hbk.below (hb1.mono hbk.hN);by_cases q1:b.coins.length ≤ 20
 ·by_cases q2:b.ts.length ≤ 20
  ·by_cases q3:b.cs.length ≤ 20
   ·by_cases q4:b.ps.length ≤ 40
    ·have r1:¬ ((20:Int) < b.coins.length):=by omega
     have r2:¬ ((20:Int) < b.ts.length):=by omega
     have r3:¬ ((20:Int) < b.cs.length):=by omega
     have r4:¬ ((40:Int) < b.ps.length):=by omega
     gi_enter Tryz.func16,Tryz.ntmps16
     gi_wp2;generalize w.alloc _ = W at *;have hlt:=hA.lt;have a0:=hA.cell 0;have a1:=hA.cell 1;have a2:=hA.cell 2;have a3:=hA.cell 3;simp at a0 a1 a2 a3;gi_loopw [3] (fun i wr => W = wr ∧ ∃ k:Nat,k ≤ b.coins.length ∧ i = .int .i64 k) (fun i _ => b.coins.length - (intOf i).toNat)
     case atStart => exact ⟨rfl,0,Nat.zero_le _,rfl⟩
     case round =>
      obtain ⟨rfl,k,hk,rfl⟩:=hrel;by_cases hl:k < b.coins.length
      ·obtain ⟨cb,co,e1,e2,e3⟩:=hN1.cs k [.string b.coins[k]] (by simp [hl]);have c0:=e3 0 _ rfl;simp only [Nat.mul_one,Nat.add_zero] at c0;have hcl:cb < W.heap.size:=Nat.lt_of_lt_of_le e2 hN1.hN;rw [e1] at a0;obtain ⟨nm,hnm⟩:∃ nm,nm = b.coins[k]:=⟨_,rfl⟩
       rw [← hnm] at c0;clear hnm e3;by_cases hg:100 < nm.size
       ·have hg':(100:Int) < nm.size:=by omega
        gi_wp2;go_ret;exact ⟨⟨true,rfl,fun h => by cases h⟩,hb1⟩
       ·have hg':¬ ((100:Int) < nm.size):=by omega
        gi_wp2;go_roundw
        case rel => exact ⟨by trivial,k + 1,by omega,by go_num⟩
        case measure => simp [intOf];omega
      ·obtain rfl:k = b.coins.length:=by omega
       gi_wp2;gi_loopw [4] (fun i wr => W = wr ∧ ∃ k:Nat,k ≤ b.ts.length ∧ i = .int .i64 k) (fun i _ => b.ts.length - (intOf i).toNat)
       case atStart => exact ⟨rfl,0,Nat.zero_le _,rfl⟩
       case round =>
        obtain ⟨rfl,k,hk,rfl⟩:=hrel;by_cases hl:k < b.ts.length
        ·obtain ⟨cb,co,e1,e2,e3⟩:=hN1.ts k b.ts[k].row (by simp [hl]);have c0:=e3 0 _ rfl;simp only [Nat.add_zero] at c0;have hcl:cb < W.heap.size:=Nat.lt_of_lt_of_le e2 hN1.hN;rw [e1] at a1;obtain ⟨nm,hnm⟩:∃ nm,nm = b.ts[k].name:=⟨_,rfl⟩
         rw [← hnm] at c0;clear hnm e3;by_cases hg:100 < nm.size
         ·have hg':(100:Int) < nm.size:=by omega
          gi_wp2;go_ret;exact ⟨⟨true,rfl,fun h => by cases h⟩,hb1⟩
         ·have hg':¬ ((100:Int) < nm.size):=by omega
          gi_wp2;go_roundw
          case rel => exact ⟨by trivial,k + 1,by omega,by go_num⟩
          case measure => simp [intOf];omega
        ·obtain rfl:k = b.ts.length:=by omega
         gi_wp2;gi_loopw [5] (fun i wr => W = wr ∧ ∃ k:Nat,k ≤ b.cs.length ∧ i = .int .i64 k) (fun i _ => b.cs.length - (intOf i).toNat)
         case atStart => exact ⟨rfl,0,Nat.zero_le _,rfl⟩
         case round =>
          obtain ⟨rfl,k,hk,rfl⟩:=hrel;by_cases hl:k < b.cs.length
          ·obtain ⟨cb,co,e1,e2,e3⟩:=hN1.ks k b.cs[k].row (by simp [hl]);have c0:=e3 0 _ rfl;simp only [Nat.add_zero] at c0;have hcl:cb < W.heap.size:=Nat.lt_of_lt_of_le e2 hN1.hN;rw [e1] at a2;obtain ⟨nm,hnm⟩:∃ nm,nm = b.cs[k].name:=⟨_,rfl⟩
           rw [← hnm] at c0;clear hnm e3;by_cases hg:100 < nm.size
           ·have hg':(100:Int) < nm.size:=by omega
            gi_wp2;go_ret;exact ⟨⟨true,rfl,fun h => by cases h⟩,hb1⟩
           ·have hg':¬ ((100:Int) < nm.size):=by omega
            gi_wp2;go_roundw
            case rel => exact ⟨by trivial,k + 1,by omega,by go_num⟩
            case measure => simp [intOf];omega
          ·obtain rfl:k = b.cs.length:=by omega
           gi_wp2;go_ret;exact ⟨⟨false,rfl,fun _ => ⟨q1,q2,q3,q4⟩⟩,hb1⟩
    ·have r1:¬ ((20:Int) < b.coins.length):=by omega
     have r2:¬ ((20:Int) < b.ts.length):=by omega
     have r3:¬ ((20:Int) < b.cs.length):=by omega
     have r:(40:Int) < b.ps.length:=by omega
     gi_enter Tryz.func16,Tryz.ntmps16
     gi_wp2;go_ret;exact ⟨⟨true,rfl,fun h => by cases h⟩,hb1⟩
   ·have r1:¬ ((20:Int) < b.coins.length):=by omega
    have r2:¬ ((20:Int) < b.ts.length):=by omega
    have r:(20:Int) < b.cs.length:=by omega
    gi_enter Tryz.func16,Tryz.ntmps16
    gi_wp2;go_ret;exact ⟨⟨true,rfl,fun h => by cases h⟩,hb1⟩
  ·have r1:¬ ((20:Int) < b.coins.length):=by omega
   have r:(20:Int) < b.ts.length:=by omega
   gi_enter Tryz.func16,Tryz.ntmps16
   gi_wp2;go_ret;exact ⟨⟨true,rfl,fun h => by cases h⟩,hb1⟩
 ·have r:(20:Int) < b.coins.length:=by omega
  gi_enter Tryz.func16,Tryz.ntmps16
  gi_wp2;go_ret;exact ⟨⟨true,rfl,fun h => by cases h⟩,hb1⟩
end Go.Proofs.YtnkejaohnhpbpaaGreatDoor
end
section
namespace Go.Proofs.YtnkejaohnhpbpaaGreatDoor
open Go Go.RowKit Lift
section
variable {N:Nat} {l:Lay} {b:RBook} {w:World}
theorem checkCoins_t (hbk:RBkAt N l b w) (hcap:b.coins.length ≤ l.cc) (h:b.CoinsOk):CallsIn Fz 0 Tryz.prog 53 #[.slice l.cb b.coins.length l.cc] w fun e w' => e = .returned (.int .i64 0) ∧ Below w.heap.size w w':=
 (checkCoins_in hbk hcap).mono fun e w' ⟨⟨f,h1,h2⟩,h3⟩ => ⟨by rw [h1,h2.2 h],h3⟩
theorem checkCoins_f (hbk:RBkAt N l b w) (hcap:b.coins.length ≤ l.cc) (h:¬ b.CoinsOk):CallsIn Fz 0 Tryz.prog 53 #[.slice l.cb b.coins.length l.cc] w fun e w' => (∃ f:Int,e = .returned (.int .i64 f) ∧ ¬ f = 0) ∧ Below w.heap.size w w':=
 (checkCoins_in hbk hcap).mono fun e w' ⟨⟨f,h1,h2⟩,h3⟩ => ⟨⟨f,h1,fun q => h (h2.1 q)⟩,h3⟩
theorem checkTariffs_t (hbk:RBkAt N l b w) (hc:b.coins.length < 1000000) (ht:b.ts.length < 1000000) (h:b.TarsOk):CallsIn Fz 0 Tryz.prog 54 #[.agg (l.rarr b)] w fun e w' => e = .returned (.int .i64 0) ∧ Below w.heap.size w w':=
 (checkTariffs_in hbk hc ht).mono fun e w' ⟨⟨f,h1,h2⟩,h3⟩ => ⟨by rw [h1,h2.2 h],h3⟩
theorem checkTariffs_f (hbk:RBkAt N l b w) (hc:b.coins.length < 1000000) (ht:b.ts.length < 1000000) (h:¬ b.TarsOk):CallsIn Fz 0 Tryz.prog 54 #[.agg (l.rarr b)] w fun e w' => (∃ f:Int,e = .returned (.int .i64 f) ∧ ¬ f = 0) ∧ Below w.heap.size w w':=
 (checkTariffs_in hbk hc ht).mono fun e w' ⟨⟨f,h1,h2⟩,h3⟩ => ⟨⟨f,h1,fun q => h (h2.1 q)⟩,h3⟩
theorem checkCases_t (hbk:RBkAt N l b w) (hc:b.coins.length < 1000000) (ht:b.ts.length < 1000000) (h:b.CassOk):CallsIn Fz 0 Tryz.prog 55 #[.agg (l.rarr b)] w fun e w' => e = .returned (.int .i64 0) ∧ Below w.heap.size w w':=
 (checkCases_in hbk hc ht).mono fun e w' ⟨⟨f,h1,h2⟩,h3⟩ => ⟨by rw [h1,h2.2 h],h3⟩
theorem checkCases_f (hbk:RBkAt N l b w) (hc:b.coins.length < 1000000) (ht:b.ts.length < 1000000) (h:¬ b.CassOk):CallsIn Fz 0 Tryz.prog 55 #[.agg (l.rarr b)] w fun e w' => (∃ f:Int,e = .returned (.int .i64 f) ∧ ¬ f = 0) ∧ Below w.heap.size w w':=
 (checkCases_in hbk hc ht).mono fun e w' ⟨⟨f,h1,h2⟩,h3⟩ => ⟨⟨f,h1,fun q => h (h2.1 q)⟩,h3⟩
end
set_option maxRecDepth 1000000 in
set_option maxHeartbeats 16000000 in
theorem CheckRef_in {N:Nat} {l:Lay} {b:RBook} {w:World} (hbk:RBkAt N l b w) (hcap:b.coins.length ≤ l.cc) (hc:b.coins.length < 1000000) (ht:b.ts.length < 1000000) (hk:b.cs.length < 1000000) (hp:b.ps.length < 1000000) :
  CallsIn Fz 0 Tryz.prog 21 #[.agg (l.rarr b)] w fun e w' => (∃ f:Int,e = .returned (.int .i64 f) ∧ (f = 0 ↔ b.Right)) ∧ Below w.heap.size w w':=by
 obtain ⟨xcb,xtb,xkb,xpb,xcc,xtc,xkc,xpc⟩:=l;have hb1:Below w.heap.size w (w.alloc (.cells #[.slice xcb b.coins.length xcc,.slice xtb b.ts.length xtc,.slice xkb b.cs.length xkc,.slice xpb b.ps.length xpc] 27)):=(Below.refl _ w).alloc (Nat.le_refl _) _;have hA:=Blk.new w #[.slice xcb b.coins.length xcc,.slice xtb b.ts.length xtc,.slice xkb b.cs.length xkc,.slice xpb b.ps.length xpc] 27;have hN1:=hbk.below (hb1.mono hbk.hN);simp only [Lay.rarr];by_cases qc:b.CoinsOk
 ·by_cases qt:b.TarsOk
  ·by_cases qk:b.CassOk
   ·by_cases h10:10 < b.ps.length
    ·have h10':(10:Int) < b.ps.length:=by omega
     gi_enter Tryz.func21,Tryz.ntmps21
     gi_wp2_with (first | (gi_at_call 53;with_reducible refine (checkCoins_t (l:=⟨xcb,xtb,xkb,xpb,xcc,xtc,xkc,xpc⟩) (b:=b) hN1 hcap qc).mono ?_;rintro e w2 ⟨rfl,hb2⟩;have hBA:=hA.below hb2;have gA0:=hBA.cell 0;have gA1:=hBA.cell 1;have gA2:=hBA.cell 2;have gA3:=hBA.cell 3;simp at gA0 gA1 gA2 gA3;have ltA:=hBA.lt;have hbkA:=hN1.below (hb2.mono hN1.hN)) | (gi_at_call 54;with_reducible refine (checkTariffs_t (l:=⟨xcb,xtb,xkb,xpb,xcc,xtc,xkc,xpc⟩) (b:=b) hbkA hc ht qt).mono ?_;rintro e w3 ⟨rfl,hb3'⟩;have hb3:=hb2.trans (hb3'.mono hb2.size);clear gA0 gA1 gA2 gA3;have hBC:=hA.below hb3;have gC0:=hBC.cell 0;have gC1:=hBC.cell 1;have gC2:=hBC.cell 2;have gC3:=hBC.cell 3;simp at gC0 gC1 gC2 gC3;have ltC:=hBC.lt;have hbkC:=hN1.below (hb3.mono hN1.hN)) | (gi_at_call 55;with_reducible refine (checkCases_t (l:=⟨xcb,xtb,xkb,xpb,xcc,xtc,xkc,xpc⟩) (b:=b) hbkC hc ht qk).mono ?_;rintro e w4 ⟨rfl,hb4'⟩;have hb4:=hb3.trans (hb4'.mono hb3.size);clear gC0 gC1 gC2 gC3;have hBD:=hA.below hb4;have gD0:=hBD.cell 0;have gD1:=hBD.cell 1;have gD2:=hBD.cell 2;have gD3:=hBD.cell 3;simp at gD0 gD1 gD2 gD3;have ltD:=hBD.lt;have hbkD:=hN1.below (hb4.mono hN1.hN)))
     go_ret;exact ⟨⟨2,rfl,fun q => by omega,fun q => by have:=q.np;omega⟩,hb1.trans (hb4.mono hb1.size)⟩
    ·have h10':¬ ((10:Int) < b.ps.length):=by omega
     have htar:∀ c,c < b.cs.length → 0 ≤ (b.casAt c).tar ∧ (b.casAt c).tar < b.ts.length:=fun c h => (qk.2 c h).2.2.1;gi_enter Tryz.func21,Tryz.ntmps21
     gi_wp2_with (first | (gi_at_call 53;with_reducible refine (checkCoins_t (l:=⟨xcb,xtb,xkb,xpb,xcc,xtc,xkc,xpc⟩) (b:=b) hN1 hcap qc).mono ?_;rintro e w2 ⟨rfl,hb2⟩;have hBA:=hA.below hb2;have gA0:=hBA.cell 0;have gA1:=hBA.cell 1;have gA2:=hBA.cell 2;have gA3:=hBA.cell 3;simp at gA0 gA1 gA2 gA3;have ltA:=hBA.lt;have hbkA:=hN1.below (hb2.mono hN1.hN)) | (gi_at_call 54;with_reducible refine (checkTariffs_t (l:=⟨xcb,xtb,xkb,xpb,xcc,xtc,xkc,xpc⟩) (b:=b) hbkA hc ht qt).mono ?_;rintro e w3 ⟨rfl,hb3'⟩;have hb3:=hb2.trans (hb3'.mono hb2.size);clear gA0 gA1 gA2 gA3;have hBC:=hA.below hb3;have gC0:=hBC.cell 0;have gC1:=hBC.cell 1;have gC2:=hBC.cell 2;have gC3:=hBC.cell 3;simp at gC0 gC1 gC2 gC3;have ltC:=hBC.lt;have hbkC:=hN1.below (hb3.mono hN1.hN)) | (gi_at_call 55;with_reducible refine (checkCases_t (l:=⟨xcb,xtb,xkb,xpb,xcc,xtc,xkc,xpc⟩) (b:=b) hbkC hc ht qk).mono ?_;rintro e w4 ⟨rfl,hb4'⟩;have hb4:=hb3.trans (hb4'.mono hb3.size);clear gC0 gC1 gC2 gC3;have hBD:=hA.below hb4;have gD0:=hBD.cell 0;have gD1:=hBD.cell 1;have gD2:=hBD.cell 2;have gD3:=hBD.cell 3;simp at gD0 gD1 gD2 gD3;have ltD:=hBD.lt;have hbkD:=hN1.below (hb4.mono hN1.hN)))
     gi_loopw [6] (fun v wr => Below w4.heap.size w4 wr ∧ ∃ k:Nat,k ≤ b.ps.length ∧ v = .int .i64 k ∧ ∀ i,i < k → b.PayOk (b.payAt i)) (fun v _ => b.ps.length - (intOf v).toNat)
     case atStart => exact ⟨Below.refl _ _,0,Nat.zero_le _,rfl,fun i hi => by omega⟩
     case round =>
      obtain ⟨HB,k,hk',rfl,hok⟩:=hrel;clear gD0 gD1 gD2 gD3;have hBr:=hBD.below HB;have hbr:=hbkD.below (HB.mono hbkD.hN);have ltr:=hBr.lt;have g0:=hBr.cell 0;have g1:=hBr.cell 1;have g2:=hBr.cell 2;have g3:=hBr.cell 3;simp at g0 g1 g2 g3;have HALL:=hb1.trans ((hb4.trans (HB.mono hb4.size)).mono hb1.size);by_cases hl:k < b.ps.length
      ·obtain ⟨pb,po,e1,e2,e3⟩:=hbr.ps k (b.payAt k).row (by rw [List.getElem?_map,List.getElem?_eq_getElem hl,payAt_get hl];rfl);have hltp:pb < wr.heap.size:=Nat.lt_of_lt_of_le e2 hbr.hN;have hiff:=b.payFlaw_iff (b.payAt k);have good:b.PayOk (b.payAt k) → ∀ i,i < k + 1 → b.PayOk (b.payAt i):=fun h i hi => by
        by_cases e:i = k
        ·subst e;exact h
        ·exact hok i (by omega)
       have bad:¬ b.PayOk (b.payAt k) → ¬ b.Right:=fun h q => h (((RBook.right_iff b).1 q).2.2.2.2 k hl);generalize b.payAt k = p at *;obtain ⟨kd,dy,co,am,cc⟩:=p;have c0:=e3 0 _ rfl;have c1:=e3 1 _ rfl;have c2:=e3 2 _ rfl;have c3:=e3 3 _ rfl;have c4:=e3 4 _ rfl;simp only [Nat.add_zero] at c0;dsimp only at e1;subst e1;have hpay:∀ w',Below wr.heap.size wr w' → _:=fun w' hw' => checkPay_in (l:=⟨xcb,xtb,xkb,some ⟨pb,po,none⟩,xcc,xtc,xkc,xpc⟩) (hbr.below (hw'.mono hbr.hN)) hc hk htar kd dy co am cc;simp only [Lay.rarr] at hpay;generalize b.payFlaw ⟨kd,dy,co,am,cc⟩ = f at *;have HG:=Lib.hid good;have HBD:=Lib.hid bad;have HI:=Lib.hid hiff;have HO:=Lib.hid hok;clear good bad hiff hok e3
       gi_wp2_with fail
       refine wpIn_region_reads (fun w' => Below wr.heap.size wr w') rfl mixed (by kernel_rfl) (fun d => ⟨rfl,rfl,rfl,Nat.le_refl _,fun _ _ => rfl⟩) ?_;simp only [List.size_toArray,List.length_cons,List.length_nil,Nat.reduceAdd,Nat.zero_add,List.range,List.range.loop]
       iterate 2
        refine det_pre rfl rfl (by kernel_rfl) (.inr rfl) ?_;apply Exists.intro;refine ⟨fun w' hw' K Q hK => ?_,?_⟩
        ·have rB:=hBr.below hw';have r0:=rB.cell 0;have r1:=rB.cell 1;have r2:=rB.cell 2;have r3:=rB.cell 3;simp at r0 r1 r2 r3;have p0:=(hw'.cell (p:=⟨pb,po + k * 5,none⟩) hltp).trans c0;have p1:=(hw'.cell (p:=⟨pb,po + k * 5 + 1,none⟩) hltp).trans c1;have p2:=(hw'.cell (p:=⟨pb,po + k * 5 + 2,none⟩) hltp).trans c2;have p3:=(hw'.cell (p:=⟨pb,po + k * 5 + 3,none⟩) hltp).trans c3;have p4:=(hw'.cell (p:=⟨pb,po + k * 5 + 4,none⟩) hltp).trans c4;gi_wp2;exact hw'
        apply Exists.intro;refine ⟨rfl,?_⟩;refine det_pure rfl rfl (by decide) ?_;apply Exists.intro;refine ⟨fun T w' hw' K Q hK => ?_,?_⟩
        ·gi_wp2;exact hw'
        apply Exists.intro;refine ⟨rfl,?_⟩
       refine det_pure rfl rfl (by decide) ?_;apply Exists.intro;refine ⟨fun T w' hw' K Q hK => ?_,?_⟩
       ·gi_wp2;exact hw'
       apply Exists.intro;refine ⟨rfl,?_⟩;refine det_pre rfl rfl (by kernel_rfl) (.inr rfl) ?_;apply Exists.intro;refine ⟨fun w' hw' K Q hK => ?_,?_⟩
       ·have rB:=hBr.below hw';have r0:=rB.cell 0;have r1:=rB.cell 1;have r2:=rB.cell 2;have r3:=rB.cell 3;simp at r0 r1 r2 r3;have p0:=(hw'.cell (p:=⟨pb,po + k * 5,none⟩) hltp).trans c0;have p1:=(hw'.cell (p:=⟨pb,po + k * 5 + 1,none⟩) hltp).trans c1;have p2:=(hw'.cell (p:=⟨pb,po + k * 5 + 2,none⟩) hltp).trans c2;have p3:=(hw'.cell (p:=⟨pb,po + k * 5 + 3,none⟩) hltp).trans c3;have p4:=(hw'.cell (p:=⟨pb,po + k * 5 + 4,none⟩) hltp).trans c4;gi_wp2;exact hw'
       apply Exists.intro;refine ⟨rfl,?_⟩;refine det_pre rfl rfl (by kernel_rfl) (.inr rfl) ?_;apply Exists.intro;refine ⟨fun w' hw' K Q hK => ?_,?_⟩
       ·have rB:=hBr.below hw';have r0:=rB.cell 0;have r1:=rB.cell 1;have r2:=rB.cell 2;have r3:=rB.cell 3;simp at r0 r1 r2 r3;have p0:=(hw'.cell (p:=⟨pb,po + k * 5,none⟩) hltp).trans c0;have p1:=(hw'.cell (p:=⟨pb,po + k * 5 + 1,none⟩) hltp).trans c1;have p2:=(hw'.cell (p:=⟨pb,po + k * 5 + 2,none⟩) hltp).trans c2;have p3:=(hw'.cell (p:=⟨pb,po + k * 5 + 3,none⟩) hltp).trans c3;have p4:=(hw'.cell (p:=⟨pb,po + k * 5 + 4,none⟩) hltp).trans c4
        gi_wp2_with (gi_at_call 56;refine (hpay _ hw').mono ?_;rintro e w'' ⟨rfl,hb⟩)
        exact hw'.trans (hb.mono hw'.size)
       apply Exists.intro;refine ⟨rfl,?_⟩;refine det_pure rfl rfl (by decide) ?_;apply Exists.intro;refine ⟨fun T w' hw' K Q hK => ?_,?_⟩
       ·gi_wp2;exact hw'
       apply Exists.intro;refine ⟨rfl,?_⟩;intro w7 hw7;by_cases hf:f = 0
       ·subst hf;gi_wp2;go_roundw
        case rel => exact ⟨HB.trans (hw7.mono HB.size),k + 1,by omega,by go_num,HG.out ((HI.out).1 rfl)⟩
        case measure => simp [intOf];omega
       ·gi_wp2;go_ret;exact ⟨⟨f,rfl,fun q => absurd q hf,fun q => absurd q (HBD.out fun r => hf ((HI.out).2 r))⟩,HALL.trans (hw7.mono HALL.size)⟩
      ·obtain rfl:k = b.ps.length:=by omega
       have HO:=Lib.hid hok;clear hok;gi_wp2;go_ret;exact ⟨⟨0,rfl,fun _ => (RBook.right_iff b).2 ⟨qc,qt,qk,by omega,HO.out⟩,fun _ => rfl⟩,HALL⟩
   ·gi_enter Tryz.func21,Tryz.ntmps21
    gi_wp2_with (first | (gi_at_call 53;with_reducible refine (checkCoins_t (l:=⟨xcb,xtb,xkb,xpb,xcc,xtc,xkc,xpc⟩) (b:=b) hN1 hcap qc).mono ?_;rintro e w2 ⟨rfl,hb2⟩;have hBA:=hA.below hb2;have gA0:=hBA.cell 0;have gA1:=hBA.cell 1;have gA2:=hBA.cell 2;have gA3:=hBA.cell 3;simp at gA0 gA1 gA2 gA3;have ltA:=hBA.lt;have hbkA:=hN1.below (hb2.mono hN1.hN)) | (gi_at_call 54;with_reducible refine (checkTariffs_t (l:=⟨xcb,xtb,xkb,xpb,xcc,xtc,xkc,xpc⟩) (b:=b) hbkA hc ht qt).mono ?_;rintro e w3 ⟨rfl,hb3'⟩;have hb3:=hb2.trans (hb3'.mono hb2.size);clear gA0 gA1 gA2 gA3;have hBC:=hA.below hb3;have gC0:=hBC.cell 0;have gC1:=hBC.cell 1;have gC2:=hBC.cell 2;have gC3:=hBC.cell 3;simp at gC0 gC1 gC2 gC3;have ltC:=hBC.lt;have hbkC:=hN1.below (hb3.mono hN1.hN)) | (gi_at_call 55;with_reducible refine (checkCases_f (l:=⟨xcb,xtb,xkb,xpb,xcc,xtc,xkc,xpc⟩) (b:=b) hbkC hc ht qk).mono ?_;rintro e w4 ⟨⟨f,rfl,hf⟩,hb4⟩))
    go_ret;exact ⟨⟨f,rfl,fun q => absurd q hf,fun q => absurd ((RBook.right_iff b).1 q).2.2.1 qk⟩,hb1.trans ((hb3.trans (hb4.mono hb3.size)).mono hb1.size)⟩
  ·gi_enter Tryz.func21,Tryz.ntmps21
   gi_wp2_with (first | (gi_at_call 53;with_reducible refine (checkCoins_t (l:=⟨xcb,xtb,xkb,xpb,xcc,xtc,xkc,xpc⟩) (b:=b) hN1 hcap qc).mono ?_;rintro e w2 ⟨rfl,hb2⟩;have hBA:=hA.below hb2;have gA0:=hBA.cell 0;have gA1:=hBA.cell 1;have gA2:=hBA.cell 2;have gA3:=hBA.cell 3;simp at gA0 gA1 gA2 gA3;have ltA:=hBA.lt;have hbkA:=hN1.below (hb2.mono hN1.hN)) | (gi_at_call 54;with_reducible refine (checkTariffs_f (l:=⟨xcb,xtb,xkb,xpb,xcc,xtc,xkc,xpc⟩) (b:=b) hbkA hc ht qt).mono ?_;rintro e w3 ⟨⟨f,rfl,hf⟩,hb3⟩))
   go_ret;exact ⟨⟨f,rfl,fun q => absurd q hf,fun q => absurd ((RBook.right_iff b).1 q).2.1 qt⟩,hb1.trans ((hb2.trans (hb3.mono hb2.size)).mono hb1.size)⟩
 ·gi_enter Tryz.func21,Tryz.ntmps21
  gi_wp2_with (first | (gi_at_call 53;with_reducible refine (checkCoins_f (l:=⟨xcb,xtb,xkb,xpb,xcc,xtc,xkc,xpc⟩) (b:=b) hN1 hcap qc).mono ?_;rintro e w2 ⟨⟨f,rfl,hf⟩,hb2⟩))
  go_ret;exact ⟨⟨f,rfl,fun q => absurd q hf,fun q => absurd ((RBook.right_iff b).1 q).1 qc⟩,hb1.trans (hb2.mono hb1.size)⟩
end Go.Proofs.YtnkejaohnhpbpaaGreatDoor
end
section
namespace Go.Proofs.YtnkejaohnhpbpaaGreatDoor
open Go Go.RowKit Lift
theorem Great_any {N:Nat} {l:Lay} {b:RBook} {w:World} (hbk:RBkAt N l b w):CallsIn Fz 0 Tryz.prog 16 #[.agg (l.rarr b)] w fun e w' => (∃ r:Bool,e = .returned (.bool r) ∧ (r = false → b.Small)) ∧ Below w.heap.size w w':=Great_in hbk
theorem CheckRef_any {N:Nat} {l:Lay} {b:RBook} {w:World} (hbk:RBkAt N l b w) (hcap:b.coins.length ≤ l.cc) (h:b.Small):CallsIn Fz 0 Tryz.prog 21 #[.agg (l.rarr b)] w fun e w' => (∃ f:Int,e = .returned (.int .i64 f) ∧ (f = 0 ↔ b.Right)) ∧ Below w.heap.size w w':=
 CheckRef_in hbk hcap (by have:=h.1;omega) (by have:=h.2.1;omega) (by have:=h.2.2.1;omega) (by have:=h.2.2.2;omega)
set_option maxRecDepth 1000000 in
set_option maxHeartbeats 4000000 in
theorem Fit_in {N:Nat} {l:Lay} {b:RBook} {w:World} (hbk:RBkAt N l b w) (hcap:b.coins.length ≤ l.cc) :
  CallsIn Fz 0 Tryz.prog 35 #[.agg (l.rarr b)] w fun e w' => (∃ r:Bool,e = .returned (.bool r) ∧ (r = true → b.Right)) ∧ Below w.heap.size w w':=by
 have hb1:Below w.heap.size w (w.alloc (.cells (l.rarr b) 27)):=(Below.refl _ w).alloc (Nat.le_refl _) _;have hA:=Blk.new w (l.rarr b) 27;have hN1:=hbk.below (hb1.mono hbk.hN);gi_enter Tryz.func35,Tryz.ntmps35
 gi_wp2_with (first
  | (gi_at_call 16;with_reducible refine (Great_any hN1).mono ?_;rintro e w2 ⟨⟨r,rfl,hr⟩,hb2⟩;have hA2:=hA.below hb2;have g0:=hA2.cell 0;have g1:=hA2.cell 1;have g2:=hA2.cell 2;have g3:=hA2.cell 3;simp at g0 g1 g2 g3;have lt2:=hA2.lt)
  | (gi_at_call 21;with_reducible refine (CheckRef_any (hN1.below (hb2.mono hN1.hN)) hcap (hr (by simp_all))).mono ?_;rintro e w3 ⟨⟨f,rfl,hf⟩,hb3⟩))
 ·go_ret;exact ⟨⟨false,rfl,fun q => by cases q⟩,hb1.trans (hb2.mono hb1.size)⟩
 ·go_ret;exact ⟨⟨f == 0,rfl,fun q => hf.1 (by simpa using q)⟩,hb1.trans ((hb2.trans (hb3.mono hb2.size)).mono hb1.size)⟩
end Go.Proofs.YtnkejaohnhpbpaaGreatDoor
end
