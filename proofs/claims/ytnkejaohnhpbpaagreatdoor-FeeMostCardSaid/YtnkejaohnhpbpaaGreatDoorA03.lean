/- The program's functions that the laws' own goroutine enters: their texts are sequential. -/
import Derived.Test.YtnkejaohnhpbpaaGreatDoorProg
import Derived.KernelRfl
import Derived.WalkKit
import Derived.WalkSpells
import Derived.OwnWalkIn
import Derived.TacticsInMore
import Derived.RegionIn
import Derived.Test.YtnkejaohnhpbpaaGreatDoorA02
set_option linter.all false
section
namespace Go.Proofs.YtnkejaohnhpbpaaGreatDoor
open Go Go.Conc
@[simp] def inside (f:FuncId):Bool:=3 ≤ f && f < 183 && ![60,96,97,98,99,115,116,117,118,119,120,123,126,127,128,129,131,132,144,145,146,147,148,171].contains f || [184,185,203,206,207].contains f
def sound (P:Program) (f:FuncId):Bool:=match P.funcs[f]? with
 | some fn => (match fn.body with | some c => Lift.okCode P c | none => false) && !(fn.name == "runtime.NumGoroutine")
 | none => false
theorem sound_all:((List.range 208).all fun f => !inside f || sound Tryz.prog f) = true:=by kernel_rfl
theorem no_ready:(Tryz.prog.funcs.all fun f => match f.body with | some c => (readies c).isEmpty | none => true) = true:=by kernel_rfl
theorem ahead_is:Tryz.prog.follows .staticDataAhead = true:=by kernel_rfl
@[simp] def Inside (f:FuncId):Prop:=inside f = true
theorem fit:Lift.Fit Tryz.prog Inside:=by
 refine ⟨fun f hf => ?_,ahead_is,fun g => ?_⟩
 ·have hlt:f < 208:=by
   unfold Inside inside at hf;rw [Bool.or_eq_true,Bool.and_eq_true,Bool.and_eq_true] at hf;rcases hf with ⟨⟨_,h⟩,_⟩ | h
   ·exact Nat.lt_of_lt_of_le (of_decide_eq_true h) (by decide)
   ·simp at h;rcases h with rfl | rfl | rfl | rfl | rfl <;> decide
  have:=List.all_eq_true.1 sound_all f (List.mem_range.2 hlt);rw [show inside f = true from hf] at this;simp only [Bool.not_true,Bool.false_or] at this;unfold sound at this;split at this
  ·rename_i fn hfn;simp only [Bool.and_eq_true,Bool.not_eq_true'] at this;obtain ⟨h1,h2⟩:=this;split at h1
   ·rename_i c hc;exact ⟨fn,c,hfn,hc,h1,h2⟩
   ·cases h1
  ·cases this
 ·unfold Program.stepOf;rw [Array.findIdx?_eq_none_iff];intro f hf;have:=(Array.all_eq_true_iff_forall_mem.1 no_ready) f hf;cases hb:f.body with
  | none => simp
  | some c =>
   rw [hb] at this;simp only [List.isEmpty_iff] at this;simp [this]
end Go.Proofs.YtnkejaohnhpbpaaGreatDoor
end
section
namespace Go.Proofs.YtnkejaohnhpbpaaGreatDoor
open Go Go.RowKit
abbrev Fz:Fence:={ fn:=Inside,depth:=none,alive:=true }
theorem between_in (a b c:Int) (w:World):CallsIn Fz 0 Tryz.prog 76 #[.int .i64 a,.int .i64 b,.int .i64 c] w fun e w' => e = .returned (.bool (decide (b ≤ a) && decide (a ≤ c))) ∧ w' = w:=by
 gi_enter Tryz.func76,Tryz.ntmps76
 gi_wp2
 ·go_ret;rename_i h;simp [h]
 ·go_ret;rename_i h;have:¬ b ≤ a:=by omega
  simp [this]
end Go.Proofs.YtnkejaohnhpbpaaGreatDoor
end
