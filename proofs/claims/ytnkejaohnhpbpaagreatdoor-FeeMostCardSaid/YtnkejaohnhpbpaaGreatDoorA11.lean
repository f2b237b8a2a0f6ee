/- What the sort and Compact make of the days. -/
import Derived.Lib.SlicesCompact
import Derived.Test.YtnkejaohnhpbpaaGreatDoorA09
set_option linter.all false
section
namespace Go.Proofs.YtnkejaohnhpbpaaGreatDoor
open Go Go.RowKit
theorem compactUpTo_sorted (d:Array Int) (n:Nat) (hs:∀ i j,i ≤ j → j < n → d[i]! ≤ d[j]!):∀ m,m ≤ n → (Lib.compactUpTo d m).Pairwise (· < ·) ∧ ∀ y,y ∈ Lib.compactUpTo d m ↔ ∃ j,j < m ∧ d[j]! = y
 | 0,_ => by simp [Lib.compactUpTo]
 | m + 1,hm => by
  obtain ⟨h1,h2⟩:=compactUpTo_sorted d n hs m (by omega);rw [Lib.compactUpTo_succ];by_cases hk:Lib.keeps d m = true
  ·rw [if_pos hk];have hk':m = 0 ∨ d[m]! ≠ d[m - 1]!:=by simpa [Lib.keeps] using hk
   refine ⟨List.pairwise_append.2 ⟨h1,by simp,fun a ha c hc => ?_⟩,fun y => ?_⟩
   ·rw [List.mem_singleton] at hc;subst hc;obtain ⟨j,hj,rfl⟩:=(h2 a).1 ha;rcases hk' with h0 | h0
    ·omega
    ·have a1:=hs j (m - 1) (by omega) (by omega);have a2:=hs (m - 1) m (by omega) (by omega);omega
   ·rw [List.mem_append,h2,List.mem_singleton];constructor
    ·rintro (⟨j,hj,e⟩ | e)
     ·exact ⟨j,by omega,e⟩
     ·exact ⟨m,by omega,e.symm⟩
    ·rintro ⟨j,hj,e⟩;by_cases hjm:j = m
     ·subst hjm;exact .inr e.symm
     ·exact .inl ⟨j,by omega,e⟩
  ·rw [if_neg hk,List.append_nil];have hk':¬ (m = 0 ∨ d[m]! ≠ d[m - 1]!):=by simpa [Lib.keeps] using hk
   refine ⟨h1,fun y => ?_⟩;rw [h2];constructor
   ·rintro ⟨j,hj,e⟩;exact ⟨j,by omega,e⟩
   ·rintro ⟨j,hj,e⟩;by_cases hjm:j = m
    ·subst hjm;refine ⟨j - 1,by omega,?_⟩;rw [← e];exact (Classical.not_not.1 fun h => hk' (.inr h)).symm
    ·exact ⟨j,by omega,e⟩
theorem evdays_compact (b:Book):Lib.compact (b.dayList.mergeSort fun x y => decide (x ≤ y)) = b.evdays:=by
 have hsorted:(b.dayList.mergeSort fun x y => decide (x ≤ y)).Pairwise (fun x y => decide (x ≤ y) = true):=
  List.pairwise_mergeSort (fun a b c h1 h2 => by simp at *;omega) (fun a b => by simp;omega) _
 have hperm:=List.mergeSort_perm b.dayList (fun x y => decide (x ≤ y));generalize (b.dayList.mergeSort fun x y => decide (x ≤ y)) = zs at *;have hget:∀ j,j < zs.length → zs.toArray[j]! = zs.getD j 0:=fun j hj => by simp [hj]
 obtain ⟨h1,h2⟩:=compactUpTo_sorted zs.toArray zs.length (fun i j hij hj => by
  by_cases e:i = j
  ·subst e;exact Int.le_refl _
  ·rw [hget i (by omega),hget j hj];have:=List.pairwise_iff_getElem.1 hsorted i j (by omega) hj (by omega);simpa [show i < zs.length by omega,hj] using this) zs.length (Nat.le_refl _)
 refine sorted_ext h1 b.evdays_sorted fun y => ?_
 show y ∈ Lib.compactUpTo zs.toArray zs.length ↔ _
 rw [h2,b.mem_evdays,← hperm.mem_iff];constructor
 ·rintro ⟨j,hj,rfl⟩;rw [hget j hj];simp [hj]
 ·intro hy;obtain ⟨j,hj,e⟩:=List.mem_iff_getElem.1 hy;exact ⟨j,hj,by rw [hget j hj];simp [hj,e]⟩
theorem filter_take {l:List Int} (h:l.Pairwise (· < ·)) (n:Int) (k:Nat) (hk:k ≤ l.length) (hle:∀ j (hj:j < k),l[j]'(by omega) ≤ n) (hgt:∀ (hk':k < l.length),n < l[k]):l.filter (fun d => decide (d ≤ n)) = l.take k:=by
 rw [← List.take_append_drop k l];have e1:(l.take k).filter (fun d => decide (d ≤ n)) = l.take k:=List.filter_eq_self.2 fun a ha => by
  obtain ⟨j,hj,rfl⟩:=List.mem_iff_getElem.1 ha;rw [List.length_take] at hj;simp only [List.getElem_take,decide_eq_true_eq];exact hle j (by omega)
 have e2:(l.drop k).filter (fun d => decide (d ≤ n)) = []:=List.filter_eq_nil_iff.2 fun a ha => by
  obtain ⟨j,hj,rfl⟩:=List.mem_iff_getElem.1 ha;rw [List.length_drop] at hj;have hg:=hgt (by omega);simp only [List.getElem_drop,decide_eq_true_eq];by_cases e:j = 0
  ·subst e;simp only [Nat.add_zero];omega
  ·have:=List.pairwise_iff_getElem.1 h k (k + j) (by omega) (by omega) (by omega);omega
 rw [List.filter_append,e1,e2,List.append_nil,List.take_append_drop]
end Go.Proofs.YtnkejaohnhpbpaaGreatDoor
end
section
namespace Go.Proofs.YtnkejaohnhpbpaaGreatDoor
open Go Go.RowKit
def clapse (b:Book) (d:Int) (c:Nat) (x:Std):Std:=if (b.fee c d).2 = false ∧ x.state = 0 then ⟨2,0,x.day,x.fee⟩ else x
def ckeep (b:Book) (d:Int) (c:Nat) (x:Std):Std:=if x.state = 0 ∧ (b.fee c d).2 = true ∧ (b.fee c d).1 ≤ x.held then ⟨1,0,d,(b.fee c d).1⟩ else x
def cadd (am:Int) (x:Std):Std:={ x with held:=wrap64 (x.held + am) }
theorem iter_cases (f:Nat → St → St) (g:Nat → Std → Std) (hf:∀ c s j,(f c s).cases j = if j = c then g c (s.cases c) else s.cases j):∀ k s j,(iter f k s).cases j = if j < k then g j (s.cases j) else s.cases j
 | 0,s,j => by simp [iter]
 | k + 1,s,j => by
  have ih:=iter_cases f g hf k s;rw [iter,hf,ih,ih];by_cases h:j = k
  ·subst h;simp
  ·by_cases h2:j < k
   ·rw [if_neg h,if_pos h2,if_pos (by omega)]
   ·rw [if_neg h,if_neg h2,if_neg (by omega)]
theorem lapse1_cases (b:Book) (d:Int) (c:Nat) (s:St) (j:Nat):(St.lapse1 b d c s).cases j = if j = c then clapse b d c (s.cases c) else s.cases j:=by
 unfold St.lapse1 clapse;by_cases h:(b.fee c d).2 = false ∧ (s.cases c).state = 0
 ·rw [if_pos h,if_pos h];by_cases e:j = c <;> simp [St.setState,St.give,upd,e]
 ·rw [if_neg h,if_neg h];by_cases e:j = c <;> simp [e]
theorem keep1_cases (b:Book) (d:Int) (c:Nat) (s:St) (j:Nat):(St.keep1 b d c s).cases j = if j = c then ckeep b d c (s.cases c) else s.cases j:=by
 unfold St.keep1 ckeep;by_cases h:(s.cases c).state = 0 ∧ (b.fee c d).2 = true ∧ (b.fee c d).1 ≤ (s.cases c).held
 ·rw [if_pos h,if_pos h];by_cases e:j = c <;> simp [St.keepAt,St.kept,St.setHeld,St.addTkn,St.give,upd,e]
 ·rw [if_neg h,if_neg h];by_cases e:j = c <;> simp [e]
theorem lapse_cases (b:Book) (d:Int) (s:St) (j:Nat):(s.lapse b d).cases j = if j < b.cs.length then clapse b d j (s.cases j) else s.cases j:=iter_cases _ (clapse b d) (lapse1_cases b d) _ _ _
theorem keep_cases (b:Book) (d:Int) (s:St) (j:Nat):(s.keep b d).cases j = if j < b.cs.length then ckeep b d j (s.cases j) else s.cases j:=iter_cases _ (ckeep b d) (keep1_cases b d) _ _ _
theorem fund_cases (b:Book) (i:Nat) (s:St):(s.fund b i).cases = s.cases:=rfl
theorem addHeld_cases (s:St) (c:Nat) (x:Int) (j:Nat):(s.addHeld c x).cases j = if j = c then cadd x (s.cases c) else s.cases j:=by
 by_cases e:j = c <;> simp [St.addHeld,St.setHeld,cadd,upd,e]
theorem inn_cases (b:Book) (i:Nat) (s:St) (j:Nat):(s.inn b i).cases j = if j = (b.payAt i).cas ∧ (s.cases (b.payAt i).cas).state = 0 ∧ (b.payAt i).coin = b.coin (b.payAt i).cas then cadd (b.payAt i).amount (s.cases j) else s.cases j:=by
 unfold St.inn;split
 ·rename_i h;rw [addHeld_cases]
  show (if j = _ then cadd _ (s.cases _) else s.cases j) = _
  by_cases e:j = (b.payAt i).cas
  ·rw [if_pos e,if_pos ⟨e,h⟩,e]
  ·rw [if_neg e,if_neg (fun h => e h.1)]
 ·rename_i h;rw [fund_cases,if_neg (fun h' => h h'.2)]
theorem mv_cases (b:Book) (i:Nat) (s:St):(∀ j,(s.mv b i).cases j = s.cases j) ∨ ((s.cases (b.payAt i).cas).state = 0 ∧ ∀ j,(s.mv b i).cases j = if j < b.cs.length then ckeep b (b.payAt i).day j (if j = (b.payAt i).cas then cadd (b.payAt i).amount (s.cases j) else s.cases j) else (if j = (b.payAt i).cas then cadd (b.payAt i).amount (s.cases j) else s.cases j)):=by
 unfold St.mv;by_cases h:St.mvOk b i s
 ·rw [if_pos h];refine .inr ⟨h.2.1,fun j => ?_⟩;rw [keep_cases,addHeld_cases];have:∀ k,(s.subAcc (b.payAt i).coin (b.payAt i).amount).cases k = s.cases k:=fun _ => rfl;rw [this,this];by_cases e:j = (b.payAt i).cas
  ·rw [← e]
  ·rw [if_neg e,if_neg e]
 ·rw [if_neg h];exact .inl fun _ => rfl
theorem fee_due (b:Book) (c:Nat) (d:Int) (hv:0 ≤ (b.casAt c).grace):(b.fee c d).2 = decide (d ≤ (b.casAt c).due + (b.casAt c).grace):=by
 unfold Book.fee feeRaw;by_cases h1:d ≤ (b.casAt c).due
 ·have:d ≤ (b.casAt c).due + (b.casAt c).grace:=by omega
  simp [h1,this]
 ·by_cases h2:d ≤ (b.casAt c).due + (b.casAt c).grace <;> simp [h1,h2]
theorem Valid.cas {b:Book} (hv:Valid b) {c:Nat} (hc:c < b.cs.length):b.casAt c ∈ b.cs:=by
 have e1:b.cs[c]? = some (b.casAt c):=by simp [Book.casAt,hc]
 exact List.mem_of_getElem? e1
theorem Valid.tar {b:Book} (hv:Valid b) {c:Nat} (hc:c < b.cs.length):b.tarOf c ∈ b.ts:=by
 have hl:=(hv.k _ (hv.cas hc)).1;have e2:b.ts[(b.casAt c).tar]? = some (b.tarOf c):=by
  have:b.tarOf c = b.ts.getD (b.casAt c).tar ⟨⟨#[]⟩,0,0,0,0⟩:=rfl;rw [this];simp [hl]
 exact List.mem_of_getElem? e2
theorem Valid.pay {b:Book} (hv:Valid b) {i:Nat} (hi:i < b.ps.length):b.payAt i ∈ b.ps:=by
 have e1:b.ps[i]? = some (b.payAt i):=by simp [Book.payAt,hi]
 exact List.mem_of_getElem? e1
section
variable {b:Book} (hv:Valid b) {c:Nat} (hc:c < b.cs.length)
include hv hc
theorem Valid.baseFee:0 ≤ (b.tarOf c).base + (b.tarOf c).each * max 0 ((b.casAt c).classes - (b.tarOf c).free) ∧ (b.tarOf c).base + (b.tarOf c).each * max 0 ((b.casAt c).classes - (b.tarOf c).free) ≤ 460000:=by
 have h1:=hv.k _ (hv.cas hc);have h2:=hv.t _ (hv.tar hc);have hm0:0 ≤ max 0 ((b.casAt c).classes - (b.tarOf c).free):=by omega
 have hm1:max 0 ((b.casAt c).classes - (b.tarOf c).free) ≤ 45:=by omega
 have:=Int.mul_nonneg h2.2.2.2.1 hm0;have:(b.tarOf c).each * max 0 ((b.casAt c).classes - (b.tarOf c).free) ≤ 10000 * 45:=Int.mul_le_mul h2.2.2.2.2.1 hm1 hm0 (by omega);omega
theorem Valid.due (d:Int):(b.fee c d).2 = decide (d ≤ (b.casAt c).due + (b.casAt c).grace):=fee_due b c d (hv.k _ (hv.cas hc)).2.2.2.2.2.1
theorem Valid.fee_le (d:Int):0 ≤ (b.fee c d).1 ∧ (b.fee c d).1 ≤ 470000:=by
 have h:=hv.baseFee hc;have h1:=hv.k _ (hv.cas hc);unfold Book.fee feeRaw;generalize (b.tarOf c).base + (b.tarOf c).each * max 0 ((b.casAt c).classes - (b.tarOf c).free) = n at *;split
 ·simp only;omega
 ·split <;> simp only <;> omega
theorem Valid.fee_mono {d e:Int} (hde:d ≤ e) (hdue:(b.fee c e).2 = true):(b.fee c d).1 ≤ (b.fee c e).1 ∧ (b.fee c d).2 = true:=by
 have h:=hv.baseFee hc;have h1:=hv.k _ (hv.cas hc);rw [hv.due hc,decide_eq_true_eq] at hdue;rw [hv.due hc,decide_eq_true_eq];refine ⟨?_,by omega⟩;unfold Book.fee feeRaw;generalize (b.tarOf c).base + (b.tarOf c).each * max 0 ((b.casAt c).classes - (b.tarOf c).free) = n at *;by_cases h2:d ≤ (b.casAt c).due
 ·by_cases h3:e ≤ (b.casAt c).due
  ·simp [h2,h3]
  ·simp [h2,h3,hdue];omega
 ·have h3:¬ e ≤ (b.casAt c).due:=by omega
  have h4:d ≤ (b.casAt c).due + (b.casAt c).grace:=by omega
  simp [h2,h3,h4,hdue]
theorem Valid.end_ev:(b.casAt c).due + (b.casAt c).grace + 1 ∈ b.evdays:=by
 rw [b.mem_evdays];unfold Book.dayList;exact List.mem_cons_of_mem _ (List.mem_append_right _ (List.mem_map.2 ⟨_,hv.cas hc,rfl⟩))
end
def Mid (b:Book) (c:Nat) (d m:Int) (x:Std):Prop:=
 (x.state = 0 ∧ x.day = 0 ∧ x.fee = 0 ∧ 0 ≤ x.held ∧ x.held ≤ m ∧ (b.fee c d).2 = true) ∨
 (x.state = 1 ∧ x.held = 0 ∧ 0 ≤ x.day ∧ x.day ≤ d ∧ b.fee c x.day = (x.fee,true)) ∨
 (x.state = 2 ∧ x.held = 0 ∧ x.day = 0 ∧ x.fee = 0 ∧ (b.fee c d).2 = false)
def Aft (b:Book) (c:Nat) (d:Int) (x:Std):Prop:=
 (x.state = 0 ∧ x.day = 0 ∧ x.fee = 0 ∧ 0 ≤ x.held ∧ x.held < (b.fee c d).1 ∧ (b.fee c d).2 = true) ∨
 (x.state = 1 ∧ x.held = 0 ∧ 0 ≤ x.day ∧ x.day ≤ d ∧ b.fee c x.day = (x.fee,true)) ∨
 (x.state = 2 ∧ x.held = 0 ∧ x.day = 0 ∧ x.fee = 0 ∧ (b.fee c d).2 = false)
def Fore (b:Book) (c:Nat) (d:Int) (x:Std):Prop:=
 (x.state = 0 ∧ x.day = 0 ∧ x.fee = 0 ∧ 0 ≤ x.held ∧ x.held ≤ 470000) ∨
 (x.state = 1 ∧ x.held = 0 ∧ 0 ≤ x.day ∧ x.day ≤ d ∧ b.fee c x.day = (x.fee,true)) ∨
 (x.state = 2 ∧ x.held = 0 ∧ x.day = 0 ∧ x.fee = 0 ∧ (b.fee c d).2 = false)
section
variable {b:Book} {c:Nat} {d m:Int} {x:Std}
theorem Fore.lapse (h:Fore b c d x):Mid b c d 470000 (clapse b d c x):=by
 unfold clapse;rcases h with ⟨h1,h2,h3,h4,h5⟩ | h | ⟨h1,h2,h3,h4,h5⟩
 ·cases hd:(b.fee c d).2 with
  | false => rw [if_pos ⟨rfl,h1⟩];exact .inr (.inr ⟨rfl,rfl,h2,h3,hd⟩)
  | true => rw [if_neg (by simp)];exact .inl ⟨h1,h2,h3,h4,h5,hd⟩
 ·rw [if_neg (by have:=h.1;omega)];exact .inr (.inl h)
 ·rw [if_neg (by omega)];exact .inr (.inr ⟨h1,h2,h3,h4,h5⟩)
theorem Mid.keep (h:Mid b c d m x) (hd:0 ≤ d):Aft b c d (ckeep b d c x):=by
 unfold ckeep;rcases h with ⟨h1,h2,h3,h4,h5,h6⟩ | h | h
 ·by_cases hf:(b.fee c d).1 ≤ x.held
  ·rw [if_pos ⟨h1,h6,hf⟩];refine .inr (.inl ⟨rfl,rfl,hd,Int.le_refl _,?_⟩)
   show b.fee c d = ((b.fee c d).1,true)
   rw [← h6]
  ·rw [if_neg (fun h => hf h.2.2)];exact .inl ⟨h1,h2,h3,h4,by omega,h6⟩
 ·rw [if_neg (by have:=h.1;omega)];exact .inr (.inl h)
 ·rw [if_neg (by have:=h.1;omega)];exact .inr (.inr h)
theorem Mid.mono {m':Int} (h:Mid b c d m x) (hm:m ≤ m'):Mid b c d m' x:=by
 rcases h with ⟨h1,h2,h3,h4,h5,h6⟩ | h | h
 ·exact .inl ⟨h1,h2,h3,h4,by omega,h6⟩
 ·exact .inr (.inl h)
 ·exact .inr (.inr h)
theorem Mid.add {am:Int} (h:Mid b c d m x) (hs:x.state = 0) (h0:0 ≤ am) (h1:am ≤ 10000) (hm:m ≤ 1000000):Mid b c d (m + 10000) (cadd am x):=by
 rcases h with ⟨h1,h2,h3,h4,h5,h6⟩ | h | h
 ·have:wrap64 (x.held + am) = x.held + am:=by unfold wrap64;omega
  refine .inl ⟨h1,h2,h3,?_,?_,h6⟩
  ·show 0 ≤ wrap64 (x.held + am);omega
  ·show wrap64 (x.held + am) ≤ _;omega
 ·have:=h.1;omega
 ·have:=h.1;omega
theorem Aft.mid (h:Aft b c d x) (hv:Valid b) (hc:c < b.cs.length):Mid b c d 470000 x:=by
 have:=hv.fee_le hc d;rcases h with ⟨h1,h2,h3,h4,h5,h6⟩ | h | h
 ·exact .inl ⟨h1,h2,h3,h4,by omega,h6⟩
 ·exact .inr (.inl h)
 ·exact .inr (.inr h)
theorem Aft.fore {e:Int} (h:Aft b c e x) (hv:Valid b) (hc:c < b.cs.length) (hed:e ≤ d):Fore b c d x:=by
 have:=hv.fee_le hc e;rcases h with ⟨h1,h2,h3,h4,h5,h6⟩ | ⟨h1,h2,h3,h4,h5⟩ | ⟨h1,h2,h3,h4,h5⟩
 ·exact .inl ⟨h1,h2,h3,h4,by omega⟩
 ·exact .inr (.inl ⟨h1,h2,h3,by omega,h5⟩)
 ·refine .inr (.inr ⟨h1,h2,h3,h4,?_⟩);rw [hv.due hc,decide_eq_false_iff_not] at h5 ⊢;omega
theorem Aft.next (h:Aft b c d x) (hv:Valid b) (hc:c < b.cs.length) (hn:d + 1 ∉ b.evdays):Aft b c (d + 1) x:=by
 have hne:d ≠ (b.casAt c).due + (b.casAt c).grace:=fun e => hn (by rw [e];exact hv.end_ev hc);rcases h with ⟨h1,h2,h3,h4,h5,h6⟩ | ⟨h1,h2,h3,h4,h5⟩ | ⟨h1,h2,h3,h4,h5⟩
 ·have h6':=h6;rw [hv.due hc,decide_eq_true_eq] at h6;have hd1:(b.fee c (d + 1)).2 = true:=by rw [hv.due hc,decide_eq_true_eq];omega
  have:=(hv.fee_mono hc (show d ≤ d + 1 by omega) hd1).1;exact .inl ⟨h1,h2,h3,h4,by omega,hd1⟩
 ·exact .inr (.inl ⟨h1,h2,h3,by omega,h5⟩)
 ·refine .inr (.inr ⟨h1,h2,h3,h4,?_⟩);rw [hv.due hc,decide_eq_false_iff_not] at h5 ⊢;omega
end
def Later (d:Int) (x y:Std):Prop:=(x.state ≠ 0 → y = x) ∧ (x.state = 0 → y.state = 1 → d ≤ y.day)
theorem Later.refl {d:Int} {x:Std}:Later d x x:=⟨fun _ => rfl,fun h h' => by omega⟩
theorem Later.trans {d:Int} {x y z:Std} (h:Later d x y) (h':Later d y z):Later d x z:=by
 refine ⟨fun hx => ?_,fun hx hz => ?_⟩
 ·have:=h.1 hx;subst this;exact h'.1 hx
 ·by_cases hy:y.state = 0
  ·exact h'.2 hy hz
  ·have:=h'.1 hy;subst this;exact h.2 hx hz
theorem Later.mono {d d':Int} {x y:Std} (h:Later d x y) (hd:d' ≤ d):Later d' x y:=⟨h.1,fun a b => by have:=h.2 a b;omega⟩
theorem later_clapse (b:Book) (d:Int) (c:Nat) (x:Std):Later d x (clapse b d c x):=by
 unfold clapse;split
 ·rename_i h;exact ⟨fun hn => absurd h.2 hn,fun _ h1 => by simp at h1⟩
 ·exact .refl
theorem later_ckeep (b:Book) (d:Int) (c:Nat) (x:Std):Later d x (ckeep b d c x):=by
 unfold ckeep;split
 ·rename_i h;exact ⟨fun hn => absurd h.1 hn,fun _ _ => Int.le_refl _⟩
 ·exact .refl
theorem later_cadd (d am:Int) (x:Std) (h:x.state = 0):Later d x (cadd am x):=⟨fun hn => absurd h hn,fun _ h1 => by simp [cadd,h] at h1⟩
section
variable {b:Book} {d:Int} {s:St}
theorem ins1_step (hv:Valid b) {c:Nat} {m:Int} (hm:m ≤ 1000000) {i:Nat} (hi:i < b.ps.length) (h:Mid b c d m (s.cases c)):Mid b c d (m + 10000) ((St.ins1 b d i s).cases c) ∧ Later d (s.cases c) ((St.ins1 b d i s).cases c):=by
 have hp:=hv.p _ (hv.pay hi);have same:Mid b c d (m + 10000) (s.cases c) ∧ Later d (s.cases c) (s.cases c):=⟨h.mono (by omega),.refl⟩
 unfold St.ins1;split
 ·split
  ·rw [fund_cases];exact same
  ·rw [inn_cases];split
   ·rename_i h3;have hst:(s.cases c).state = 0:=by rw [h3.1];exact h3.2.1
    exact ⟨h.add hst (by omega) hp.2.2.2.2.2.1 hm,later_cadd _ _ _ hst⟩
   ·exact same
 ·exact same
theorem ins_iter (hv:Valid b) {c:Nat} {m:Int} (hm:m ≤ 500000) (h:Mid b c d m (s.cases c)):∀ k,k ≤ b.ps.length → Mid b c d (m + 10000 * k) ((iter (St.ins1 b d) k s).cases c) ∧ Later d (s.cases c) ((iter (St.ins1 b d) k s).cases c)
 | 0,_ => ⟨by simpa [iter] using h,.refl⟩
 | k + 1,hk => by
  obtain ⟨h1,h2⟩:=ins_iter hv hm h k (by omega);have hn:=hv.np;obtain ⟨h3,h4⟩:=ins1_step hv (by omega) (show k < b.ps.length by omega) h1;exact ⟨h3.mono (by omega),h2.trans h4⟩
theorem mvs1_step (hv:Valid b) (hd:0 ≤ d) {i:Nat} (hi:i < b.ps.length) (h:∀ c,c < b.cs.length → Aft b c d (s.cases c)) (c:Nat) (hc:c < b.cs.length):Aft b c d ((St.mvs1 b d i s).cases c) ∧ Later d (s.cases c) ((St.mvs1 b d i s).cases c):=by
 have hp:=hv.p _ (hv.pay hi);unfold St.mvs1;split
 ·rename_i hday;rcases mv_cases b i s with e | ⟨hst,e⟩
  ·rw [e];exact ⟨h c hc,.refl⟩
  ·rw [e,if_pos hc,hday.1];have hm:=(h c hc).mid hv hc;split
   ·rename_i h3;have hst:(s.cases c).state = 0:=by rw [h3];exact hst
    have:=hm.add hst (by omega) hp.2.2.2.2.2.1 (by omega);exact ⟨this.keep hd,(later_cadd d (b.payAt i).amount _ hst).trans (later_ckeep b d c _)⟩
   ·exact ⟨hm.keep hd,later_ckeep b d c _⟩
 ·exact ⟨h c hc,.refl⟩
theorem mvs_iter (hv:Valid b) (hd:0 ≤ d) (h:∀ c,c < b.cs.length → Aft b c d (s.cases c)):∀ k,k ≤ b.ps.length → ∀ c,c < b.cs.length → Aft b c d ((iter (St.mvs1 b d) k s).cases c) ∧ Later d (s.cases c) ((iter (St.mvs1 b d) k s).cases c)
 | 0,_,c,hc => ⟨h c hc,.refl⟩
 | k + 1,hk,c,hc => by
  have ih:=mvs_iter hv hd h k (by omega);obtain ⟨h3,h4⟩:=mvs1_step hv hd (show k < b.ps.length by omega) (fun c hc => (ih c hc).1) c hc;exact ⟨h3,(ih c hc).2.trans h4⟩
theorem day1_step (hv:Valid b) (hd:0 ≤ d) (h:∀ c,c < b.cs.length → Fore b c d (s.cases c)) (c:Nat) (hc:c < b.cs.length):Aft b c d ((St.day1 b s d).cases c) ∧ Later d (s.cases c) ((St.day1 b s d).cases c):=by
 have k1:∀ c,c < b.cs.length → Mid b c d 470000 ((s.lapse b d).cases c) ∧ Later d (s.cases c) ((s.lapse b d).cases c):=fun c hc => by
  rw [lapse_cases,if_pos hc];exact ⟨(h c hc).lapse,later_clapse _ _ _ _⟩
 have k2:∀ c,c < b.cs.length → Aft b c d ((((s.lapse b d).ins b d).keep b d).cases c) ∧ Later d (s.cases c) ((((s.lapse b d).ins b d).keep b d).cases c):=fun c hc => by
  obtain ⟨h1,h2⟩:=ins_iter hv (by omega) (k1 c hc).1 b.ps.length (Nat.le_refl _);rw [keep_cases,if_pos hc];exact ⟨h1.keep hd,((k1 c hc).2.trans h2).trans (later_ckeep _ _ _ _)⟩
 obtain ⟨h3,h4⟩:=mvs_iter hv hd (fun c hc => (k2 c hc).1) b.ps.length (Nat.le_refl _) c hc;exact ⟨h3,(k2 c hc).2.trans h4⟩
end
theorem after_aft {b:Book} (hv:Valid b):∀ (n:Nat) (c:Nat),c < b.cs.length → Aft b c n ((b.after n).cases c)
 | 0,c,hc => by
  have e:=b.after_succ (-1);rw [show (-1:Int) + 1 = 0 from rfl,if_pos b.zero_ev,hv.after_zero] at e
  show Aft b c 0 ((b.after 0).cases c)
  rw [e];exact (day1_step hv (Int.le_refl _) (fun c _ => .inl ⟨rfl,rfl,rfl,Int.le_refl _,by show (0:Int) ≤ 470000;decide⟩) c hc).1
 | n + 1,c,hc => by
  have e:=b.after_succ n;have e2:((n + 1:Nat):Int) = (n:Int) + 1:=by omega
  rw [e2,e];split
  ·exact (day1_step hv (by omega) (fun c hc => (after_aft hv n c hc).fore hv hc (by omega)) c hc).1
  ·rename_i h;exact (after_aft hv n c hc).next hv hc h
structure DaysAre (b:Book) (c:Nat) (n:Nat) (x y:Std):Prop where
 gone:x.state ≠ 1 → x.day = 0 ∧ x.fee = 0
 held0:x.state = 1 → x.held = 0
 opn:y.state = 0 → (b.fee c n).2 = true ∧ y.held < (b.fee c n).1 ∧ 0 ≤ y.held
 shut:y.state ≠ 0 → y.held = 0
 never:x.state ≠ 1 → ((y.state = 0 ↔ (b.fee c n).2 = true) ∧ (y.state = 2 ↔ (b.fee c n).2 = false))
 day:x.state = 1 → 0 ≤ x.day ∧ x.day ≤ 9999 ∧ (y.state = 1 ↔ x.day ≤ n) ∧ (n < x.day → y.state = 0) ∧ b.fee c x.day = (x.fee,true)
 same:y.state = 1 → y = x
 ys:y.state = 0 ∨ y.state = 1 ∨ y.state = 2
end Go.Proofs.YtnkejaohnhpbpaaGreatDoor
end
section
namespace Go.Proofs.YtnkejaohnhpbpaaGreatDoor
open Go Go.RowKit
def exBook:Book where
 coins:=[⟨#[101,117,114]⟩,⟨#[99,104,102]⟩]
 ts:=[⟨⟨#[102,105,108,101]⟩,0,100,30,1⟩,⟨⟨#[107,101,101,112]⟩,1,50,0,0⟩]
 cs:=[⟨⟨#[97]⟩,0,3,10,5,20⟩,⟨⟨#[98]⟩,1,1,8,0,0⟩,⟨⟨#[99]⟩,0,1,20,0,0⟩]
 ps:=[⟨0,4,0,150,0⟩,⟨1,6,1,30,0⟩,⟨0,7,0,40,1⟩,⟨2,9,0,30,0⟩,⟨2,12,0,30,0⟩,⟨0,12,0,5,0⟩]
theorem ex_valid:Valid exBook where
 nc:=by decide
 nt:=by decide
 nk:=by decide
 np:=by decide
 t:=by
  intro t ht;simp only [exBook,List.mem_cons,List.not_mem_nil,or_false] at ht;rcases ht with rfl | rfl <;> simp [exBook]
 k:=by
  intro t ht;simp only [exBook,List.mem_cons,List.not_mem_nil,or_false] at ht;rcases ht with rfl | rfl | rfl <;> simp [exBook]
 p:=by
  intro t ht;simp only [exBook,List.mem_cons,List.not_mem_nil,or_false] at ht;rcases ht with rfl | rfl | rfl | rfl | rfl | rfl <;> simp [exBook]
theorem ex_fee11:exBook.fee 0 11 = (180,true):=by decide +kernel
theorem ex_fee16:exBook.fee 0 16 = (0,false):=by decide +kernel
def Std.four (x:Std):Int × Int × Int × Int:=(x.state,x.held,x.day,x.fee)
theorem ex_state8:((exBook.after 8).cases 0).four = (0,150,0,0):=by decide +kernel
theorem ex_state9:((exBook.after 9).cases 1).state = 2:=by decide +kernel
theorem ex_kept:((exBook.after 9999).cases 0).four = (1,0,9,160):=by decide +kernel
theorem ex_acc8:((exBook.after 8).acc 0,(exBook.after 8).tkn 0,(exBook.after 8).pd 0) = (40,0,190):=by decide +kernel
theorem ex_acc12:((exBook.after 12).acc 0,(exBook.after 12).tkn 0,(exBook.after 12).pd 0) = (35,160,195):=by decide +kernel
theorem ex_voids:(exBook.after 9999).voids = [4]:=by decide +kernel
end Go.Proofs.YtnkejaohnhpbpaaGreatDoor
end
