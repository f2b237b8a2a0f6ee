/- CheckBook on a book that is right, its end: inside the fence. PRINTED BY A PROGRAM (k5.py). -/
import Derived.Laws.ResultCell
import Derived.Test.YtnkejaohnhpbpaaGreatDoorA07
import Derived.Test.YtnkejaohnhpbpaaGreatDoorA08
import Derived.Test.YtnkejaohnhpbpaaGreatDoorA10
import Derived.Test.YtnkejaohnhpbpaaGreatDoorA14
set_option linter.all false
section
namespace Go.Proofs.YtnkejaohnhpbpaaGreatDoor
open Go Go.RowKit Lift
set_option maxHeartbeats 4000000 in
theorem pay1_in {N:Nat} {l:Lay} {b:Book} {w:World} (hbk:BkAt N l b w) (hf:Full b) {kd k cc:Nat} {dy am:Int} (hp:(⟨kd,dy,k,am,cc⟩:Pay) ∈ b.ps) {B1:Nat} (hB:Blk w B1 77 #[.slice l.cb b.coins.length l.cc,.slice l.tb b.ts.length l.tc,.slice l.kb b.cs.length l.kc,.slice l.pb b.ps.length l.pc]) :
  CallsIn Fz 0 Tryz.prog 87 #[.agg #[.int .i64 kd,.int .i64 dy,.int .i64 k,.int .i64 am,.int .i64 cc],.pointer (some ⟨B1,0,none⟩)] w fun e w' => e = .returned (.int .i64 0) ∧ Below w.heap.size w w':=by
 have vp:=hf.v.p _ hp;have vm:=hf.mv _ hp;have hnc:=hf.v.nc;have hnk:=hf.v.nk;simp only at vp vm;obtain ⟨v1,v2,v3,v4,v5,v6,v7,v8⟩:=vp;have v4':(k:Int) ≤ b.coins.length - 1:=by omega
 have b0:=hB.cell 0;have b2:=hB.cell 2;simp at b0 b2;have hltB:=hB.lt;rcases (show kd = 0 ∨ kd = 1 ∨ kd = 2 by omega) with rfl | rfl | rfl
 ·have hcc:cc < b.cs.length:=v8 (by decide);have v9:(cc:Int) ≤ b.cs.length - 1:=by omega
  have hX:=Blk.new w #[.int .i64 (0:Nat),.int .i64 dy,.int .i64 k,.int .i64 am,.int .i64 cc] 56;have HB:Below w.heap.size w (w.alloc (.cells #[.int .i64 (0:Nat),.int .i64 dy,.int .i64 k,.int .i64 am,.int .i64 cc] 56)):=(Below.refl _ w).alloc (Nat.le_refl _) _;have hBW:=hB.below HB;have hbkW:=hbk.below (HB.mono hbk.hN);gi_enter Tryz.func87,Tryz.ntmps87
  gi_wp2_with (first
   | (gi_at_call 76;refine (between_in _ _ _ _).mono ?_;rintro e w3 ⟨rfl,rfl⟩)
   | (gi_at_call 75;refine (isDay_in _ _).mono ?_;rintro e w3 ⟨rfl,rfl⟩)
   | (gi_at_call 59;refine (index59_in _ _ _ _ (by omega) _).mono ?_;rintro e w3 ⟨rfl,rfl⟩)
   | (gi_at_call 44;refine (index44_in _ _ _ _ (by omega) _).mono ?_;rintro e w3 ⟨rfl,rfl⟩))
  generalize w.alloc _ = W at *;clear b0 b2;refine wpIn_region_reads (fun w' => Below W.heap.size W w') rfl mixed (by kernel_rfl) (fun d => ⟨rfl,rfl,rfl,Nat.le_refl _,fun _ _ => rfl⟩) ?_;simp only [List.size_toArray,List.length_cons,List.length_nil,Nat.reduceAdd,Nat.zero_add,List.range,List.range.loop];refine det_pure rfl rfl (by decide) ?_;apply Exists.intro;refine ⟨fun T w' hw' K Q hK => ?_,?_⟩
  ·gi_wp2;exact hw'
  apply Exists.intro;refine ⟨rfl,?_⟩;refine det_pre rfl rfl (by kernel_rfl) (.inr rfl) ?_;apply Exists.intro;refine ⟨fun w' hw' K Q hK => ?_,?_⟩
  ·have q:=hX.below hw';have q0:=q.cell 0;have q2:=q.cell 2;have q4:=q.cell 4;have rB:=hBW.below hw';have r0:=rB.cell 0;have r1:=rB.cell 1;have r2:=rB.cell 2;have r3:=rB.cell 3;simp at q0 q2 q4 r0 r1 r2 r3;gi_wp2;exact hw'
  iterate 2
   apply Exists.intro;refine ⟨rfl,?_⟩;refine det_pure rfl rfl (by decide) ?_;apply Exists.intro;refine ⟨fun T w' hw' K Q hK => ?_,?_⟩
   ·gi_wp2;exact hw'
  apply Exists.intro;refine ⟨rfl,?_⟩
  iterate 5
   refine det_skip_undef rfl rfl (by decide) (fun w f hf => by simp [Oper.about] at hf) rfl ?_
  refine det_skip_undef rfl rfl (by decide) (fun w f hf => by
   simp [Oper.about,resolve,Deferred.ofValue,Target.leads,Act.eval,go_sem] at hf;subst hf;rfl) rfl ?_
  refine det_skip_undef rfl rfl (by decide) (fun w f hf => by simp [Oper.about] at hf) rfl ?_
  iterate 2
   refine det_pure rfl rfl (by decide) ?_;apply Exists.intro;refine ⟨fun T w' hw' K Q hK => ?_,?_⟩
   ·gi_wp2;exact hw'
   apply Exists.intro;refine ⟨rfl,?_⟩
  intro w2 hw2;gi_wp2;go_ret;exact ⟨rfl,HB.trans (hw2.mono HB.size)⟩
 ·obtain rfl:=v7 rfl;gi_enter Tryz.func87,Tryz.ntmps87
  gi_wp2_with (first
   | (gi_at_call 76;refine (between_in _ _ _ _).mono ?_;rintro e w3 ⟨rfl,rfl⟩)
   | (gi_at_call 75;refine (isDay_in _ _).mono ?_;rintro e w3 ⟨rfl,rfl⟩)
   | (gi_at_call 59;refine (index59_in _ _ _ _ (by omega) _).mono ?_;rintro e w3 ⟨rfl,rfl⟩)
   | (gi_at_call 44;refine (index44_in _ _ _ _ (by omega) _).mono ?_;rintro e w3 ⟨rfl,rfl⟩))
  go_ret;exact ⟨rfl,(Below.refl _ w).alloc (Nat.le_refl _) _⟩
 ·have hcc:cc < b.cs.length:=v8 (by decide);have v9:(cc:Int) ≤ b.cs.length - 1:=by omega
  obtain rfl:=vm rfl;have hX:=Blk.new w #[.int .i64 (2:Nat),.int .i64 dy,.int .i64 (b.coin cc:Nat),.int .i64 am,.int .i64 cc] 56;have HB:Below w.heap.size w (w.alloc (.cells #[.int .i64 (2:Nat),.int .i64 dy,.int .i64 (b.coin cc:Nat),.int .i64 am,.int .i64 cc] 56)):=(Below.refl _ w).alloc (Nat.le_refl _) _;have hBW:=hB.below HB;have hbkW:=hbk.below (HB.mono hbk.hN);gi_enter Tryz.func87,Tryz.ntmps87
  gi_wp2_with (first
   | (gi_at_call 76;refine (between_in _ _ _ _).mono ?_;rintro e w3 ⟨rfl,rfl⟩)
   | (gi_at_call 75;refine (isDay_in _ _).mono ?_;rintro e w3 ⟨rfl,rfl⟩)
   | (gi_at_call 59;refine (index59_in _ _ _ _ (by omega) _).mono ?_;rintro e w3 ⟨rfl,rfl⟩)
   | (gi_at_call 44;refine (index44_in _ _ _ _ (by omega) _).mono ?_;rintro e w3 ⟨rfl,rfl⟩))
  generalize w.alloc _ = W at *;clear b0 b2;refine wpIn_region_reads (fun w' => Below W.heap.size W w') rfl mixed (by kernel_rfl) (fun d => ⟨rfl,rfl,rfl,Nat.le_refl _,fun _ _ => rfl⟩) ?_;simp only [List.size_toArray,List.length_cons,List.length_nil,Nat.reduceAdd,Nat.zero_add,List.range,List.range.loop];refine det_pure rfl rfl (by decide) ?_;apply Exists.intro;refine ⟨fun T w' hw' K Q hK => ?_,?_⟩
  ·gi_wp2;exact hw'
  apply Exists.intro;refine ⟨rfl,?_⟩;refine det_pre rfl rfl (by kernel_rfl) (.inr rfl) ?_;apply Exists.intro;refine ⟨fun w' hw' K Q hK => ?_,?_⟩
  ·have q:=hX.below hw';have q0:=q.cell 0;have q2:=q.cell 2;have q4:=q.cell 4;have rB:=hBW.below hw';have r0:=rB.cell 0;have r1:=rB.cell 1;have r2:=rB.cell 2;have r3:=rB.cell 3;simp at q0 q2 q4 r0 r1 r2 r3;gi_wp2;exact hw'
  iterate 3
   apply Exists.intro;refine ⟨rfl,?_⟩;refine det_pure rfl rfl (by decide) ?_;apply Exists.intro;refine ⟨fun T w' hw' K Q hK => ?_,?_⟩
   ·gi_wp2;exact hw'
  iterate 2
   apply Exists.intro;refine ⟨rfl,?_⟩;refine det_pre rfl rfl (by kernel_rfl) (.inr rfl) ?_;apply Exists.intro;refine ⟨fun w' hw' K Q hK => ?_,?_⟩
   ·have q:=hX.below hw';have q0:=q.cell 0;have q2:=q.cell 2;have q4:=q.cell 4;have rB:=hBW.below hw';have r0:=rB.cell 0;have r1:=rB.cell 1;have r2:=rB.cell 2;have r3:=rB.cell 3;simp at q0 q2 q4 r0 r1 r2 r3;gi_wp2;exact hw'
  apply Exists.intro;refine ⟨rfl,?_⟩;refine det_pure rfl rfl (by decide) ?_;apply Exists.intro;refine ⟨fun T w' hw' K Q hK => ?_,?_⟩
  ·gi_wp2;exact hw'
  apply Exists.intro;refine ⟨rfl,?_⟩;refine det_pre rfl rfl (by kernel_rfl) (.inr rfl) ?_;apply Exists.intro;refine ⟨fun w' hw' K Q hK => ?_,?_⟩
  ·have q:=hX.below hw';have q0:=q.cell 0;have q2:=q.cell 2;have q4:=q.cell 4;have rB:=hBW.below hw';have r0:=rB.cell 0;have r1:=rB.cell 1;have r2:=rB.cell 2;have r3:=rB.cell 3;simp at q0 q2 q4 r0 r1 r2 r3;gi_wp2;exact hw'
  apply Exists.intro;refine ⟨rfl,?_⟩;refine det_pre rfl rfl (by kernel_rfl) (.inr rfl) ?_;apply Exists.intro;refine ⟨fun w' hw' K Q hK => ?_,?_⟩
  ·have q:=hX.below hw';have q0:=q.cell 0;have q2:=q.cell 2;have q4:=q.cell 4;have rB:=hBW.below hw';have r0:=rB.cell 0;have r1:=rB.cell 1;have r2:=rB.cell 2;have r3:=rB.cell 3;simp at q0 q2 q4 r0 r1 r2 r3
   gi_wp2_with (gi_at_call 88;refine (coin_in (hbkW.below (hw'.mono hbkW.hN)) hf.v hcc).mono ?_;rintro e w'' ⟨rfl,hb⟩)
   exact hw'.trans (hb.mono hw'.size)
  iterate 3
   apply Exists.intro;refine ⟨rfl,?_⟩;refine det_pure rfl rfl (by decide) ?_;apply Exists.intro;refine ⟨fun T w' hw' K Q hK => ?_,?_⟩
   ·gi_wp2;exact hw'
  apply Exists.intro;refine ⟨rfl,?_⟩;intro w2 hw2;gi_wp2;go_ret;exact ⟨rfl,HB.trans (hw2.mono HB.size)⟩
set_option maxHeartbeats 4000000 in
theorem eachPay_in {N:Nat} {l:Lay} {b:Book} {w:World} (hbk:BkAt N l b w) (hf:Full b) {B1:Nat} (hB:Blk w B1 77 #[.slice l.cb b.coins.length l.cc,.slice l.tb b.ts.length l.tc,.slice l.kb b.cs.length l.kc,.slice l.pb b.ps.length l.pc]) :
  CallsIn Fz 0 Tryz.prog 86 #[.slice l.pb b.ps.length l.pc,.int .i64 10,.func (.func 87) #[] #[.pointer (some ⟨B1,0,none⟩)]] w fun e w' => e = .returned (.int .i64 0) ∧ Below w.heap.size w w':=by
 have hnp:=hf.v.np;have hNw:=hbk.hN;gi_enter Tryz.func86,Tryz.ntmps86
 gi_wp2;gi_loopw [16] (fun i wr => ∃ k:Nat,k ≤ b.ps.length ∧ i = .int .i64 k ∧ Below w.heap.size w wr) (fun i _ => b.ps.length - (intOf i).toNat)
 case atStart => exact ⟨0,Nat.zero_le _,rfl,Below.refl _ _⟩
 case round =>
  obtain ⟨k,hk,rfl,hb⟩:=hrel;by_cases hlt:k < b.ps.length
  ·have hbr:=hbk.below (hb.mono hNw);have hBr:=hB.below hb;obtain ⟨cb,co,e1,e2,e3⟩:=hbr.ps k b.ps[k].row (by simp [hlt]);have hmem:=List.getElem_mem hlt;have hpw:cb < wr.heap.size:=Nat.lt_of_lt_of_le e2 hbr.hN;rw [e1];generalize b.ps[k] = x at *;obtain ⟨kd,dy,kc,am,cc⟩:=x;have c0:=e3 0 _ rfl;have c1:=e3 1 _ rfl;have c2:=e3 2 _ rfl;have c3:=e3 3 _ rfl;have c4:=e3 4 _ rfl;simp only [Nat.add_zero] at c0;simp only at *;have hb1:Below wr.heap.size wr (wr.alloc (.cells #[.int .i64 kd,.int .i64 dy,.int .i64 kc,.int .i64 am,.int .i64 cc] 56)):=(Below.refl _ wr).alloc (Nat.le_refl _) _;have hcall:=pay1_in (hbr.below (hb1.mono hbr.hN)) hf hmem (hBr.below hb1)
   gi_wp2_with (gi_at_call 87;refine hcall.mono ?_;rintro e w2 ⟨rfl,hg2⟩)
   go_roundw
   case rel => exact ⟨k + 1,by omega,by go_num,(hb.trans (hb1.mono hb.size)).trans (hg2.mono (Nat.le_trans hb.size hb1.size))⟩
   case measure => simp [intOf];omega
  ·obtain rfl:k = b.ps.length:=by omega
   gi_wp2;go_ret;exact ⟨rfl,hb⟩
end Go.Proofs.YtnkejaohnhpbpaaGreatDoor
end
section
namespace Go.Proofs.YtnkejaohnhpbpaaGreatDoor
open Go Go.RowKit Lift
abbrev Lay.arr (l:Lay) (b:Book):Array Value:=#[.slice l.cb b.coins.length l.cc,.slice l.tb b.ts.length l.tc,.slice l.kb b.cs.length l.kc,.slice l.pb b.ps.length l.pc]
theorem BkAt.top {N:Nat} {l:Lay} {b:Book} {w:World} (h:BkAt N l b w):BkAt w.heap.size l b w:=by
 have up:∀ {base:Option Addr} {size:Nat} {rows:List (List Value)},RowsAt N base size rows w → RowsAt w.heap.size base size rows w:=fun h' i r hr => by
  obtain ⟨b',o,h1,h2,h3⟩:=h' i r hr;exact ⟨b',o,h1,Nat.lt_of_lt_of_le h2 h.hN,h3⟩
 exact ⟨Nat.le_refl _,up h.cs,up h.ts,up h.ks,up h.ps⟩
theorem coins_in {N:Nat} {l:Lay} {b:Book} {w:World} (hbk:BkAt N l b w) (hf:Full b) :
  CallsIn Fz 0 Tryz.prog 49 #[l.val b] w fun e w' => e = .returned (.int .i64 0) ∧ Below w.heap.size w w':=by
 have hb1:Below w.heap.size w (w.alloc (.cells (l.arr b) 77)):=(Below.refl _ w).alloc (Nat.le_refl _) _;have hb2:Below w.heap.size w ((w.alloc (.cells (l.arr b) 77)).alloc (.map #[] 0)):=hb1.alloc (by simp) _;have hM:=SeenAt.made (w.alloc (.cells (l.arr b) 77));have hcall:=eachCoin_in ((hbk.top).below hb2) hf (M:=w.heap.size + 1) (by omega) (by rw [World.size_alloc] at hM;exact hM);have hmm:=@run_makeMap Tryz.prog;unfold Lay.val;gi_enter Tryz.func49,Tryz.ntmps49
 gi_wp2_with (gi_at_call 79;refine hcall.mono ?_;rintro e w3 ⟨rfl,hg⟩)
 go_ret;exact ⟨rfl,hb2.trans (below_gb hg (by omega) (by simp;omega))⟩
theorem tariffs_in {N:Nat} {l:Lay} {b:Book} {w:World} (hbk:BkAt N l b w) (hf:Full b) :
  CallsIn Fz 0 Tryz.prog 50 #[l.val b] w fun e w' => e = .returned (.int .i64 0) ∧ Below w.heap.size w w':=by
 have hb1:Below w.heap.size w (w.alloc (.cells (l.arr b) 77)):=(Below.refl _ w).alloc (Nat.le_refl _) _;have hb2:Below w.heap.size w ((w.alloc (.cells (l.arr b) 77)).alloc (.map #[] 0)):=hb1.alloc (by simp) _;have hb3:Below w.heap.size w (((w.alloc (.cells (l.arr b) 77)).alloc (.map #[] 0)).alloc (.cells #[.map (some (w.heap.size + 1))] 126)):=hb2.alloc (by simp;omega) _;have hM:=SeenAt.made (w.alloc (.cells (l.arr b) 77));rw [World.size_alloc] at hM;have hM2:=hM.same ((Below.refl _ _).alloc (o:=.cells #[.map (some (w.heap.size + 1))] 126) (Nat.le_refl _));have hS:=Blk.new ((w.alloc (.cells (l.arr b) 77)).alloc (.map #[] 0)) #[.map (some (w.heap.size + 1))] 126;rw [World.size_alloc,World.size_alloc] at hS;have hB:=((Blk.new w (l.arr b) 77).below ((Below.refl _ _).alloc (o:=.map #[] 0) (Nat.le_refl _))).below ((Below.refl _ _).alloc (o:=.cells #[.map (some (w.heap.size + 1))] 126) (Nat.le_refl _));have hcall:=eachTariff_in ((hbk.top).below hb3) hf (M:=w.heap.size + 1) (by omega) hM2 hS hB;have hmm:=@run_makeMap Tryz.prog;unfold Lay.val;gi_enter Tryz.func50,Tryz.ntmps50
 gi_wp2_with (gi_at_call 81;refine hcall.mono ?_;rintro e w3 ⟨rfl,hg⟩)
 go_ret;exact ⟨rfl,hb3.trans (below_gb hg (by omega) (by simp;omega))⟩
theorem cases_in {N:Nat} {l:Lay} {b:Book} {w:World} (hbk:BkAt N l b w) (hf:Full b) :
  CallsIn Fz 0 Tryz.prog 51 #[l.val b] w fun e w' => e = .returned (.int .i64 0) ∧ Below w.heap.size w w':=by
 have hb1:Below w.heap.size w (w.alloc (.cells (l.arr b) 77)):=(Below.refl _ w).alloc (Nat.le_refl _) _;have hb2:Below w.heap.size w ((w.alloc (.cells (l.arr b) 77)).alloc (.map #[] 0)):=hb1.alloc (by simp) _;have hb3:Below w.heap.size w (((w.alloc (.cells (l.arr b) 77)).alloc (.map #[] 0)).alloc (.cells #[.map (some (w.heap.size + 1))] 126)):=hb2.alloc (by simp;omega) _;have hM:=SeenAt.made (w.alloc (.cells (l.arr b) 77));rw [World.size_alloc] at hM;have hM2:=hM.same ((Below.refl _ _).alloc (o:=.cells #[.map (some (w.heap.size + 1))] 126) (Nat.le_refl _));have hS:=Blk.new ((w.alloc (.cells (l.arr b) 77)).alloc (.map #[] 0)) #[.map (some (w.heap.size + 1))] 126;rw [World.size_alloc,World.size_alloc] at hS;have hB:=((Blk.new w (l.arr b) 77).below ((Below.refl _ _).alloc (o:=.map #[] 0) (Nat.le_refl _))).below ((Below.refl _ _).alloc (o:=.cells #[.map (some (w.heap.size + 1))] 126) (Nat.le_refl _));have hcall:=eachCase_in ((hbk.top).below hb3) hf (M:=w.heap.size + 1) (by omega) hM2 hS hB;have hmm:=@run_makeMap Tryz.prog;unfold Lay.val;gi_enter Tryz.func51,Tryz.ntmps51
 gi_wp2_with (gi_at_call 83;refine hcall.mono ?_;rintro e w3 ⟨rfl,hg⟩)
 go_ret;exact ⟨rfl,hb3.trans (below_gb hg (by omega) (by simp;omega))⟩
theorem pays_in {N:Nat} {l:Lay} {b:Book} {w:World} (hbk:BkAt N l b w) (hf:Full b) :
  CallsIn Fz 0 Tryz.prog 52 #[l.val b] w fun e w' => e = .returned (.int .i64 0) ∧ Below w.heap.size w w':=by
 have hb1:Below w.heap.size w (w.alloc (.cells (l.arr b) 77)):=(Below.refl _ w).alloc (Nat.le_refl _) _;have hcall:=eachPay_in ((hbk.top).below hb1) hf (Blk.new w (l.arr b) 77);unfold Lay.val;gi_enter Tryz.func52,Tryz.ntmps52
 gi_wp2_with (gi_at_call 86;refine hcall.mono ?_;rintro e w3 ⟨rfl,hg⟩)
 go_ret;exact ⟨rfl,hb1.trans (hg.mono (by simp))⟩
theorem idx870 (a b c d:Value) (w:World):(Instr.index 87 (.agg #[a,b,c,d]) (.int .i64 0)).run Tryz.prog w = .ok a w:=by kernel_rfl
theorem idx871 (a b c d:Value) (w:World):(Instr.index 87 (.agg #[a,b,c,d]) (.int .i64 1)).run Tryz.prog w = .ok b w:=by kernel_rfl
theorem idx872 (a b c d:Value) (w:World):(Instr.index 87 (.agg #[a,b,c,d]) (.int .i64 2)).run Tryz.prog w = .ok c w:=by kernel_rfl
theorem idx873 (a b c d:Value) (w:World):(Instr.index 87 (.agg #[a,b,c,d]) (.int .i64 3)).run Tryz.prog w = .ok d w:=by kernel_rfl
set_option maxHeartbeats 4000000 in
theorem check_in {N:Nat} {l:Lay} {b:Book} {w:World} (hbk:BkAt N l b w) (hf:Full b) :
  CallsIn Fz 0 Tryz.prog 20 #[l.val b] w fun e w' => e = .returned (.int .i64 0) ∧ Below w.heap.size w w':=by
 have k0:∀ {N w},BkAt N l b w → _:=fun {N w} h => coins_in (N:=N) (w:=w) h hf;have k1:∀ {N w},BkAt N l b w → _:=fun {N w} h => tariffs_in (N:=N) (w:=w) h hf;have k2:∀ {N w},BkAt N l b w → _:=fun {N w} h => cases_in (N:=N) (w:=w) h hf;have k3:∀ {N w},BkAt N l b w → _:=fun {N w} h => pays_in (N:=N) (w:=w) h hf;unfold Lay.val at *;have i0:=idx870;have i1:=idx871;have i2:=idx872;have i3:=idx873;have hbt:=hbk.top;gi_enter Tryz.func20,Tryz.ntmps20
 gi_wp2;gi_loopw [18] (fun i wr => ∃ k:Nat,k ≤ 4 ∧ i = .int .i64 k ∧ Below w.heap.size w wr) (fun i _ => 4 - (intOf i).toNat)
 case atStart => exact ⟨0,Nat.zero_le _,rfl,((Below.refl _ w).alloc (Nat.le_refl _) _).alloc (by simp) _⟩
 case round =>
  obtain ⟨k,hk,rfl,hb⟩:=hrel;have hbr:=hbt.below hb;have hsz:=hb.size;rcases (show k = 0 ∨ k = 1 ∨ k = 2 ∨ k = 3 ∨ k = 4 by omega) with rfl | rfl | rfl | rfl | rfl
  ·rw [show ((0:Nat):Int) = 0 from rfl]
   gi_wp2_with (gi_at_call 49;refine (k0 hbr).mono ?_;rintro e w3 ⟨rfl,hg⟩)
   go_roundw
   case rel => exact ⟨1,by omega,by go_num,hb.trans (hg.mono hsz)⟩
   case measure => simp [intOf]
  ·rw [show ((1:Nat):Int) = 1 from rfl]
   gi_wp2_with (gi_at_call 50;refine (k1 hbr).mono ?_;rintro e w3 ⟨rfl,hg⟩)
   go_roundw
   case rel => exact ⟨2,by omega,by go_num,hb.trans (hg.mono hsz)⟩
   case measure => simp [intOf]
  ·rw [show ((2:Nat):Int) = 2 from rfl]
   gi_wp2_with (gi_at_call 51;refine (k2 hbr).mono ?_;rintro e w3 ⟨rfl,hg⟩)
   go_roundw
   case rel => exact ⟨3,by omega,by go_num,hb.trans (hg.mono hsz)⟩
   case measure => simp [intOf]
  ·rw [show ((3:Nat):Int) = 3 from rfl]
   gi_wp2_with (gi_at_call 52;refine (k3 hbr).mono ?_;rintro e w3 ⟨rfl,hg⟩)
   go_roundw
   case rel => exact ⟨4,by omega,by go_num,hb.trans (hg.mono hsz)⟩
   case measure => simp [intOf]
  ·gi_wp2;go_ret;exact ⟨rfl,hb⟩
end Go.Proofs.YtnkejaohnhpbpaaGreatDoor
end
section
namespace Go.Proofs.YtnkejaohnhpbpaaGreatDoor
open Go Go.RowKit Lift
theorem load77 {w:World} {B:Nat} {a b c d:Value} (h:Blk w B 77 #[a,b,c,d]):(loadVar 77 ⟨B,0,none⟩).run Tryz.prog w = .ok (.agg #[a,b,c,d]) w:=by
 have c0:=h.cell 0;have c1:=h.cell 1;have c2:=h.cell 2;have c3:=h.cell 3;simp at c0 c1 c2 c3;have hs:=Tryz.sizeOf77;have ha:=Tryz.isAgg77;simp [loadVar,go_sem,c0,c1,c2,c3,hs,ha,loadCells,loadCellsFrom,Addr.add]
set_option maxHeartbeats 4000000 in
theorem asked_in {N:Nat} {l:Lay} {b:Book} {w:World} (hbk:BkAt N l b w) (hf:Full b) {day:Int} (h0:0 ≤ day) (h1:day ≤ 9999) :
  CallsIn Fz 0 Tryz.prog 43 #[l.val b,.bool true,.int .i64 day] w fun e w' => e = .returned (.tuple #[l.val b,.int .i64 0]) ∧ Below w.heap.size w w':=by
 have hb1:Below w.heap.size w (w.alloc (.cells (l.arr b) 27)):=(Below.refl _ w).alloc (Nat.le_refl _) _;have hb2:Below w.heap.size w ((w.alloc (.cells (l.arr b) 27)).alloc (.cells #[.slice none 0 0,.slice none 0 0,.slice none 0 0,.slice none 0 0] 77)):=hb1.alloc (by simp) _;have hA:=(Blk.new w (l.arr b) 27).below ((Below.refl _ _).alloc (o:=.cells #[.slice none 0 0,.slice none 0 0,.slice none 0 0,.slice none 0 0] 77) (Nat.le_refl _));have hT:=Blk.new (w.alloc (.cells (l.arr b) 27)) #[.slice none 0 0,.slice none 0 0,.slice none 0 0,.slice none 0 0] 77;rw [World.size_alloc] at hT;have hc:=check_in (hbk.top.below hb2) hf;unfold Lay.val at *;gi_enter Tryz.func43,Tryz.ntmps43
 gi_wp2_with (first
  | (gi_at_call 20;refine hc.mono ?_;rintro e w3 ⟨rfl,hb3⟩;have hA3:=hA.below hb3;have hT3:=hT.below hb3;have a0:=hA3.cell 0;have a1:=hA3.cell 1;have a2:=hA3.cell 2;have a3:=hA3.cell 3;have t0:=hT3.cell 0;have t1:=hT3.cell 1;have t2:=hT3.cell 2;have t3:=hT3.cell 3;have f0:=hT3.frozen 0;have f1:=hT3.frozen 1;have f2:=hT3.frozen 2;have f3:=hT3.frozen 3;simp at a0 a1 a2 a3 t0 t1 t2 t3)
  | (gi_at_call 75;refine (isDay_in _ _).mono ?_;rintro e w4 ⟨rfl,rfl⟩))
 have hF:=(((hT3.put 0 (.slice l.cb b.coins.length l.cc)).put 1 (.slice l.tb b.ts.length l.tc)).put 2 (.slice l.kb b.cs.length l.kc)).put 3 (.slice l.pb b.ps.length l.pc);simp only [List.setIfInBounds_toArray,List.set_cons_zero,List.set_cons_succ] at hF;have hB4:=(hb2.trans (hb3.mono (by simp;omega)))
 (try simp only [Exit.inBlock,Exit.then])
 refine bodyPost_ret (v:=.tuple #[.agg (l.arr b),.int .i64 0]) ?_ rfl ⟨rfl,(((hB4.setCell (p:=⟨w.heap.size + 1,0,none⟩) (by simp) _).setCell (p:=⟨w.heap.size + 1,1,none⟩) (by simp) _).setCell (p:=⟨w.heap.size + 1,2,none⟩) (by simp) _).setCell (p:=⟨w.heap.size + 1,3,none⟩) (by simp) _⟩;rw [results_cell_tmp rfl];simp [asAddr,Result.andThen,load77 hF,Lay.arr]
end Go.Proofs.YtnkejaohnhpbpaaGreatDoor
end
section
namespace Go.Proofs.YtnkejaohnhpbpaaGreatDoor
open Go Go.RowKit Lift
def zero77:Array Value:=#[.slice none 0 0,.slice none 0 0,.slice none 0 0,.slice none 0 0]
def WB (w0:World) (ka ks:Nat) (cs:Array Value):Wg:=fun D x w => Below w0.heap.size w0 w ∧ (D ka = true → ∃ B,x = .pointer (some ⟨B,0,none⟩) ∧ w0.heap.size ≤ B ∧ Blk w B 77 (if D ks = true then cs else zero77))
section
variable {w0 w w':World} {ka ks i:Nat} {cs:Array Value} {D:Nat → Bool} {x:Value} {ops:Array Oper}
theorem WB.step (h:WB w0 ka ks cs D x w) (hi:i ≠ ka) (hs:i ≠ ks) (hb:Below w.heap.size w w'):WB w0 ka ks cs (alsoG D i) x w':=by
 have e1:alsoG D i ka = D ka:=by simp [alsoG,Ne.symm hi]
 have e2:alsoG D i ks = D ks:=by simp [alsoG,Ne.symm hs]
 refine ⟨h.1.trans (hb.mono h.1.size),fun hd => ?_⟩;rw [e1] at hd;obtain ⟨B,h1,h2,h3⟩:=h.2 hd;rw [e2];exact ⟨B,h1,h2,h3.below hb⟩
theorem WB.make (hm:mayG ops D ka) (hb:bindsOn ops ks ka = true) (h:WB w0 ka ks cs D x w):WB w0 ka ks cs (alsoG D ka) (.pointer (some ⟨w.heap.size,0,none⟩)) (w.alloc (.cells zero77 77)):=by
 refine ⟨h.1.alloc h.1.size _,fun _ => ⟨_,rfl,h.1.size,?_⟩⟩;have e:alsoG D ka ks = false:=by
  have h1:=hm.2.2 ks hb;unfold alsoG;rw [h1,Bool.false_or];by_cases e:ks = ka
  ·subst e;have:=hm.2.1 ks hb;rw [h1] at this;cases this
  ·simp [e]
 rw [e];exact Blk.new w zero77 77
theorem WB.store (hm:mayG ops D ks) (hb:bindsOn ops ks ka = true) (h:WB w0 ka ks cs D x w):∃ B,x = .pointer (some ⟨B,0,none⟩) ∧ w0.heap.size ≤ B ∧ Blk w B 77 zero77 ∧ ∀ w',Blk w' B 77 cs → Below w0.heap.size w0 w' → WB w0 ka ks cs (alsoG D ks) x w':=by
 obtain ⟨B,h1,h2,h3⟩:=h.2 (hm.2.1 ka hb);have e:D ks = false:=hm.1;rw [e] at h3;refine ⟨B,h1,h2,h3,fun w' k1 k2 => ⟨k2,fun _ => ⟨B,h1,h2,?_⟩⟩⟩;have:alsoG D ks ks = true:=by simp [alsoG]
 rw [this];exact k1
end
theorem alloc77_wp {d:Tmp} {pos:String} {after:Array Edge} {ty:TypeId} (a:Act) (w:World) (K:Act → World → Prop) (Q:Exit → Act → World → Prop) (hK:K (a.put (some d) (.pointer (some ⟨w.heap.size,0,none⟩))) (w.alloc (.cells zero77 77))) :
  Oper.wpIn Fz 0 Tryz.prog { dst:=some d,op:=.alloc 77,type:=ty,pos,after,guard:=none } a w K Q:=by
 unfold zero77 at hK;gi_wp2;exact hK
set_option maxHeartbeats 8000000 in
theorem Fee_in {N:Nat} {l:Lay} {b:Book} {w:World} (hbk:BkAt N l b w) (hf:Full b) {c:Nat} (hc:c < b.cs.length) {day:Int} (h0:0 ≤ day) (h1:day ≤ 9999) :
  CallsIn Fz 0 Tryz.prog 18 #[l.val b,.int .i64 c,.int .i64 day] w fun e w' => e = .returned (.tuple #[.int .i64 (b.fee c day).1,.bool (b.fee c day).2,.int .i64 0]) ∧ Below w.heap.size w w':=by
 have hnk:=hf.v.nk;have c1:(c:Int) ≤ b.cs.length - 1:=by omega
 have hb1:Below w.heap.size w (w.alloc (.cells (l.arr b) 27)):=(Below.refl _ w).alloc (Nat.le_refl _) _;have hA1:=Blk.new w (l.arr b) 27;have hbk1:=hbk.top.below hb1;have hfee:∀ w',Below w.heap.size w w' → _:=fun w' h => fee_in (hbk.top.below h) hf.v hc day;have hasked:=fun w' (h:Below w.heap.size w w') => asked_in (hbk.top.below h) hf h0 h1;unfold Lay.val at *;gi_enter Tryz.func18,Tryz.ntmps18
 gi_wp2;generalize w.alloc _ = W at *;refine wpIn_region_ghost rfl mixed (by kernel_rfl) (WB W 10 11 (l.arr b)) 9 (x₀:=undef) rfl ⟨(show Below W.heap.size W { W with drawn:=W.drawn + 1 } from ⟨rfl,rfl,rfl,Nat.le_refl _,fun _ _ => rfl⟩),fun h => by cases h⟩ ?_;simp only [List.size_toArray,List.length_cons,List.length_nil,Nat.reduceAdd,Nat.zero_add,List.range,List.range.loop]
 iterate 2
  refine detG_at rfl (fun _ => rfl) (by decide) rfl ?_;apply Exists.intro;refine ⟨fun D x w' hm hW K Q hK => ?_,?_⟩
  ·have q:=hA1.below hW.1;have q0:=q.cell 0;have q1:=q.cell 1;have q2:=q.cell 2;have q3:=q.cell 3;simp at q0 q1 q2 q3;simp only [Lift.Act.setg,List.setIfInBounds_toArray,List.set_cons_zero,List.set_cons_succ];gi_wp2;exact hW.step (by decide) (by decide) (Below.refl _ _)
  apply Exists.intro;refine ⟨fun x => rfl,?_⟩;refine detG_at rfl (fun _ => rfl) (by decide) rfl ?_;apply Exists.intro;refine ⟨fun D x w' hm hW K Q hK => ?_,?_⟩
  ·simp only [Lift.Act.setg,List.setIfInBounds_toArray,List.set_cons_zero,List.set_cons_succ];gi_wp2;exact hW.step (by decide) (by decide) (Below.refl _ _)
  apply Exists.intro;refine ⟨fun x => rfl,?_⟩
 refine detG_at rfl (fun _ => rfl) (by decide) rfl ?_;apply Exists.intro;refine ⟨fun D x w' hm hW K Q hK => ?_,?_⟩
 ·simp only [Lift.Act.setg,List.setIfInBounds_toArray,List.set_cons_zero,List.set_cons_succ]
  gi_wp2_with (gi_at_call 44;refine (index44_in _ _ _ _ (by omega) _).mono ?_;rintro e w3 ⟨rfl,rfl⟩)
  exact hW.step (by decide) (by decide) (Below.refl _ _)
 apply Exists.intro;refine ⟨fun x => rfl,?_⟩;refine detG_at rfl (fun _ => rfl) (by decide) rfl ?_;apply Exists.intro;refine ⟨fun D x w' hm hW K Q hK => ?_,?_⟩
 ·simp only [Lift.Act.setg,List.setIfInBounds_toArray,List.set_cons_zero,List.set_cons_succ];gi_wp2;exact hW.step (by decide) (by decide) (Below.refl _ _)
 apply Exists.intro;refine ⟨fun x => rfl,?_⟩;refine detG_at rfl (fun _ => rfl) (by decide) rfl ?_;apply Exists.intro;refine ⟨fun D x w' hm hW K Q hK => ?_,?_⟩
 ·simp only [Lift.Act.setg,List.setIfInBounds_toArray,List.set_cons_zero,List.set_cons_succ]
  gi_wp2_with (gi_at_call 43;refine (hasked _ (hb1.trans (hW.1.mono hb1.size))).mono ?_;rintro e w3 ⟨rfl,hb⟩)
  exact hW.step (by decide) (by decide) hb
 iterate 3
  apply Exists.intro;refine ⟨fun x => rfl,?_⟩;refine detG_at rfl (fun _ => rfl) (by decide) rfl ?_;apply Exists.intro;refine ⟨fun D x w' hm hW K Q hK => ?_,?_⟩
  ·simp only [Lift.Act.setg,List.setIfInBounds_toArray,List.set_cons_zero,List.set_cons_succ];gi_wp2;exact hW.step (by decide) (by decide) (Below.refl _ _)
 apply Exists.intro;refine ⟨fun x => rfl,?_⟩;refine detG_mk rfl (fun _ => rfl) rfl rfl (fun D x w' hm hW K Q hK => alloc77_wp _ _ _ _ (hK _ _ (WB.make hm (by kernel_rfl) hW))) ?_;refine detG_none rfl (fun _ => rfl) rfl (fun D x w' hm hW K Q hK => ?_) ?_
 ·obtain ⟨B,rfl,hB0,hBz,hBk⟩:=WB.store hm (by kernel_rfl) hW;have z0:=hBz.cell 0;have z1:=hBz.cell 1;have z2:=hBz.cell 2;have z3:=hBz.cell 3;have y0:=hBz.frozen 0;have y1:=hBz.frozen 1;have y2:=hBz.frozen 2;have y3:=hBz.frozen 3;simp [zero77] at z0 z1 z2 z3;simp only [Lift.Act.setg,List.setIfInBounds_toArray,List.set_cons_zero,List.set_cons_succ] at hK ⊢;gi_wp2;refine hBk _ ?_ ?_
  ·have:=(((hBz.put 0 (.slice l.cb b.coins.length l.cc)).put 1 (.slice l.tb b.ts.length l.tc)).put 2 (.slice l.kb b.cs.length l.kc)).put 3 (.slice l.pb b.ps.length l.pc);simpa only [zero77,List.setIfInBounds_toArray,List.set_cons_zero,List.set_cons_succ] using this
  ·exact (((hW.1.setCell (p:=⟨B,0,none⟩) hB0 _).setCell (p:=⟨B,1,none⟩) hB0 _).setCell (p:=⟨B,2,none⟩) hB0 _).setCell (p:=⟨B,3,none⟩) hB0 _
 refine detG_at rfl (fun _ => rfl) (by decide) rfl ?_;apply Exists.intro;refine ⟨fun D x w' hm hW K Q hK => ?_,?_⟩
 ·simp only [Lift.Act.setg,List.setIfInBounds_toArray,List.set_cons_zero,List.set_cons_succ];gi_wp2;exact hW.step (by decide) (by decide) (Below.refl _ _)
 apply Exists.intro;refine ⟨fun x => rfl,?_⟩;rintro x w2 ⟨hb2,hx⟩;obtain ⟨B,rfl,hB0,hB⟩:=hx rfl;have hB:Blk w2 B 77 (l.arr b):=hB;have g0:=hB.cell 0;have g1:=hB.cell 1;have g2:=hB.cell 2;have g3:=hB.cell 3;simp at g0 g1 g2 g3;have HB:=hb1.trans (hb2.mono hb1.size);simp only [Lift.Act.setg,List.setIfInBounds_toArray,List.set_cons_zero,List.set_cons_succ]
 gi_wp2_with (gi_at_call 45;refine (hfee _ HB).mono ?_;rintro e w3 ⟨rfl,hb3⟩)
 (try simp only [Exit.inBlock,Exit.then])
 refine bodyPost_ret (results_tmp3 rfl _ _ _) rfl ?_;exact ⟨rfl,HB.trans (hb3.mono HB.size)⟩
end Go.Proofs.YtnkejaohnhpbpaaGreatDoor
end
