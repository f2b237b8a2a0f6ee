/- What the layer answers at the example's book, in plain words. -/
import Derived.Test.YtnkejaohnhpbpaaGreatDoorA24
import Derived.Test.YtnkejaohnhpbpaaGreatDoorA25
import Derived.Test.YtnkejaohnhpbpaaGreatDoorA38
set_option linter.all false
section
namespace Go.Proofs.YtnkejaohnhpbpaaGreatDoor
open Go Go.RowKit Go.Sort
theorem ex_lacks50:exBook.lacks (exBook.after 5) 0 5 3 = [(0,10),(2,100)]:=by decide +kernel
theorem ex_lacks51:exBook.lacks (exBook.after 5) 1 5 3 = [(1,50)]:=by decide +kernel
theorem ex_lacks80:exBook.lacks (exBook.after 8) 0 8 3 = [(0,10),(2,100)]:=by decide +kernel
theorem ex_lacks81:exBook.lacks (exBook.after 8) 1 8 3 = [(1,50)]:=by decide +kernel
theorem ex_acc5:((exBook.after 5).acc 0,(exBook.after 5).acc 1) = (0,0):=by decide +kernel
theorem ex_acc8':((exBook.after 8).acc 0,(exBook.after 8).acc 1) = (40,30):=by decide +kernel
theorem sortL_one (x:Int × Int):sortL [x] = [x]:=by
 unfold sortL Sort.insertionSort;rw [insOuter,if_neg (by simp)]
theorem sortL_two:sortL [(0,10),(2,100)] = [(0,10),(2,100)]:=by
 unfold sortL Sort.insertionSort;rw [insOuter,if_pos (by simp),insOuter,if_neg (by simp)];decide +kernel
theorem sortI_two:sortI [0,1] = [0,1]:=by
 unfold sortI Sort.insertionSort;rw [insOuter,if_pos (by simp),insOuter,if_neg (by simp)];decide +kernel
theorem sortI_one (x:Int):sortI [x] = [x]:=by
 unfold sortI Sort.insertionSort;rw [insOuter,if_neg (by simp)]
theorem sortI_nil:sortI [] = []:=by
 unfold sortI Sort.insertionSort;rw [insOuter,if_neg (by simp)]
theorem sortI_021:sortI [0,2,1] = [0,1,2]:=by
 unfold sortI Sort.insertionSort;rw [insOuter,if_pos (by simp),insOuter,if_pos (by simp),insOuter,if_neg (by simp)];decide +kernel
theorem ex_short50:exBook.short (exBook.after 5) 5 0 = [(0,10),(2,100)]:=by
 unfold Book.short;rw [show exBook.cs.length = 3 from rfl,ex_lacks50,sortL_two]
theorem ex_short51:exBook.short (exBook.after 5) 5 1 = [(1,50)]:=by
 unfold Book.short;rw [show exBook.cs.length = 3 from rfl,ex_lacks51,sortL_one]
theorem ex_short80:exBook.short (exBook.after 8) 8 0 = [(0,10),(2,100)]:=by
 unfold Book.short;rw [show exBook.cs.length = 3 from rfl,ex_lacks80,sortL_two]
theorem ex_short81:exBook.short (exBook.after 8) 8 1 = [(1,50)]:=by
 unfold Book.short;rw [show exBook.cs.length = 3 from rfl,ex_lacks81,sortL_one]
theorem took_first {x:Int × Int} {L:List (Int × Int)} {left:Int} {k:Nat} (h:Took (x :: L) left k) (hx:left < x.2):k = 0:=by
 rcases k with _ | k
 ·rfl
 ·have:=h.had 0 (by omega);simp [lefts] at this;omega
theorem took_second {x y:Int × Int} {left:Int} {k:Nat} (h:Took [x,y] left k) (hx:x.2 ≤ left) (hy:wrap64 (left - x.2) < y.2):k = 1:=by
 have hle:=h.le;simp at hle;rcases (show k = 0 ∨ k = 1 ∨ k = 2 by omega) with rfl | rfl | rfl
 ·have:=h.not (by simp);simp [lefts] at this;omega
 ·rfl
 ·have:=h.had 1 (by omega);simp [lefts] at this;omega
theorem ex_plan5 {cs ps:List Int} (h:Planned exBook (exBook.after 5) 5 2 cs ps):cs = [] ∧ ps = [0,1]:=by
 obtain ⟨cs1,ps1,k1,⟨cs0,ps0,k0,⟨rfl,rfl⟩,h0,rfl,rfl⟩,h1,rfl,rfl⟩:=h;have ha:=ex_acc5;simp only [Prod.mk.injEq] at ha;rw [ex_short50,ha.1] at h0;rw [ex_short51,ha.2] at h1;obtain rfl:=took_first h0 (by decide);obtain rfl:=took_first h1 (by decide);rw [ex_short50,ex_short51];simp
theorem ex_plan8 {cs ps:List Int} (h:Planned exBook (exBook.after 8) 8 2 cs ps):cs = [0] ∧ ps = [0,2,1]:=by
 obtain ⟨cs1,ps1,k1,⟨cs0,ps0,k0,⟨rfl,rfl⟩,h0,rfl,rfl⟩,h1,rfl,rfl⟩:=h;have ha:=ex_acc8';simp only [Prod.mk.injEq] at ha;rw [ex_short80,ha.1] at h0;rw [ex_short81,ha.2] at h1;obtain rfl:=took_second h0 (by decide) (by decide +kernel);obtain rfl:=took_first h1 (by decide);rw [ex_short80,ex_short81];simp
theorem ex_proves:exBook.proves (exBook.after 8) 8 [0] [0,1,2] = true:=by
 unfold Book.proves;have ha:=ex_acc8';simp only [Prod.mk.injEq] at ha;have h1:exBook.okList (exBook.after 8) [0] 1 = true:=by decide +kernel
 have h2:exBook.okList (exBook.after 8) [0,1,2] 3 = true:=by decide +kernel
 have h3:(List.range 2).all (fun c => pvCoin [0] [0,1,2] (exBook.short (exBook.after 8) 8 c) ((exBook.after 8).acc c)) = true:=by
  simp only [List.range,List.range.loop,List.all_cons,List.all_nil,ex_short80,ex_short81,ha.1,ha.2];decide +kernel
 simp only [List.length_cons,List.length_nil,Nat.zero_add,Nat.reduceAdd,h1,h2,Bool.true_and];exact h3
theorem ex_heldOf8:exBook.heldOf (exBook.after 8) 0 = 150:=by decide +kernel
theorem ex_heldOf12:exBook.heldOf (exBook.after 12) 0 = 0:=by decide +kernel
end Go.Proofs.YtnkejaohnhpbpaaGreatDoor
end
section
namespace Go.Proofs.YtnkejaohnhpbpaaGreatDoor
open Go Go.RowKit Lift
theorem NameOk.of {s:ByteArray} (h1:1 ≤ s.size) (h2:s.size ≤ 10) (h3:s.data.toList.head?.all (fun x => decide (97 ≤ x.toNat ∧ x.toNat ≤ 122)) = true) (h4:s.data.toList.all alnum = true):NameOk s:=by
 refine ⟨h1,h2,fun x hx => ?_,fun j x hx => List.all_eq_true.1 h4 x (List.mem_of_getElem? hx)⟩;rw [List.head?_eq_getElem?,hx] at h3;simpa using h3
theorem ex_full:Full exBook:=by
 refine ⟨ex_valid,?_,by decide +kernel,?_,by decide +kernel,?_,by decide +kernel,?_⟩
 ·intro s hs;simp only [exBook,List.mem_cons,List.not_mem_nil,or_false] at hs;rcases hs with rfl | rfl <;> exact NameOk.of (by decide +kernel) (by decide +kernel) (by decide +kernel) (by decide +kernel)
 ·intro t ht;simp only [exBook,List.mem_cons,List.not_mem_nil,or_false] at ht;rcases ht with rfl | rfl <;> exact NameOk.of (by decide +kernel) (by decide +kernel) (by decide +kernel) (by decide +kernel)
 ·intro t ht;simp only [exBook,List.mem_cons,List.not_mem_nil,or_false] at ht;rcases ht with rfl | rfl | rfl <;> exact NameOk.of (by decide +kernel) (by decide +kernel) (by decide +kernel) (by decide +kernel)
 ·intro p hp;simp only [exBook,List.mem_cons,List.not_mem_nil,or_false] at hp;rcases hp with rfl | rfl | rfl | rfl | rfl | rfl <;> decide +kernel
section
variable {M:Nat} {l:Lay} {w:World} {V:Value}
theorem exFee11 (hbk:BkAt M l exBook w) (hV:l.val exBook = V):CallsIn Fz 0 Tryz.prog 18 #[V,.int .i64 0,.int .i64 11] w fun e w' => e = .returned (.tuple #[.int .i64 180,.bool true,.int .i64 0]) ∧ Below w.heap.size w w':=by
 subst hV;have h:=Fee_in hbk ex_full (c:=0) (by decide) (day:=11) (by decide) (by decide);rw [ex_fee11] at h;exact h
theorem exFee16 (hbk:BkAt M l exBook w) (hV:l.val exBook = V):CallsIn Fz 0 Tryz.prog 18 #[V,.int .i64 0,.int .i64 16] w fun e w' => e = .returned (.tuple #[.int .i64 0,.bool false,.int .i64 0]) ∧ Below w.heap.size w w':=by
 subst hV;have h:=Fee_in hbk ex_full (c:=0) (by decide) (day:=16) (by decide) (by decide);rw [ex_fee16] at h;exact h
theorem exState8 (hbk:BkAt M l exBook w) (hkd:KindsAt w) (hV:l.val exBook = V):CallsIn Fz 0 Tryz.prog 22 #[V,.int .i64 0,.int .i64 8] w fun e w' => e = .returned (.tuple #[.int .i64 0,.int .i64 150,.int .i64 0]) ∧ Below w.heap.size w w':=by
 subst hV;have h:=State_in hbk ex_full hkd (c:=0) (by decide) (day:=8) (by decide) (by decide);have e:=ex_state8;simp only [Std.four,Prod.mk.injEq] at e;rw [e.1,e.2.1] at h;exact h
theorem exState9 (hbk:BkAt M l exBook w) (hkd:KindsAt w) (hV:l.val exBook = V):CallsIn Fz 0 Tryz.prog 22 #[V,.int .i64 1,.int .i64 9] w fun e w' => (∃ h:Int,e = .returned (.tuple #[.int .i64 2,.int .i64 h,.int .i64 0])) ∧ Below w.heap.size w w':=by
 subst hV;have h:=State_in hbk ex_full hkd (c:=1) (by decide) (day:=9) (by decide) (by decide);rw [ex_state9] at h;exact h.mono fun e w' h => ⟨⟨_,h.1⟩,h.2⟩
theorem exKept (hbk:BkAt M l exBook w) (hkd:KindsAt w) (hV:l.val exBook = V):CallsIn Fz 0 Tryz.prog 24 #[V,.int .i64 0] w fun e w' => e = .returned (.tuple #[.int .i64 9,.int .i64 160,.bool true,.int .i64 0]) ∧ Below w.heap.size w w':=by
 subst hV;have h:=Kept_in hbk ex_full hkd (c:=0) (by decide);have e:=ex_kept;simp only [Std.four,Prod.mk.injEq] at e;rw [e.1,e.2.1,e.2.2.1,e.2.2.2] at h;exact h
theorem owns_seq {w:World} {N n:Nat} {v:Value} {xs:List Int} (h:w.ownsRow N 3 1 v n (ints xs)) (hn:n = xs.length):SeqAt w v xs:=by
 subst hn;rcases h.2 with ⟨rfl,hn⟩ | ⟨g,cap,cur,rfl,h1,h2⟩
 ·obtain rfl:=List.eq_nil_of_length_eq_zero hn;exact ⟨none,0,0,rfl,fun i hi => absurd hi (by simp)⟩
 ·obtain ⟨hg,_,_,_,ht⟩:=h2;refine ⟨some ⟨g,0,none⟩,0,cap,rfl,fun i hi => ⟨g,rfl,(Array.getElem?_eq_some_iff.1 hg).1,?_⟩⟩;have e:(ints xs)[i]? = some (.int .i64 (xs.getD i 0)):=by simp [ints,hi]
  rw [← ht,Nat.mul_one,List.getElem?_take_of_lt hi,Array.getElem?_toList] at e;simp [World.cell?,hg,e]
theorem exVoids (hbk:BkAt M l exBook w) (hkd:KindsAt w) (hV:l.val exBook = V):CallsIn Fz 0 Tryz.prog 28 #[V] w fun e w' => (∃ v,e = .returned (.tuple #[v,.int .i64 0]) ∧ SeqAt w' v [4]) ∧ Below w.heap.size w w':=by
 subst hV;have h:=Voids_in hbk ex_full hkd (by rw [ex_voids];decide);rw [ex_voids,sortI_one] at h;exact h.mono fun e w' ⟨v,h1,h2,h3⟩ => ⟨⟨v,h1,owns_seq (xs:=[4]) h2 rfl⟩,h3⟩
theorem exPlan5 (hbk:BkAt M l exBook w) (hkd:KindsAt w) (hV:l.val exBook = V):CallsIn Fz 0 Tryz.prog 31 #[V,.int .i64 5] w fun e w' => (∃ vc vp,e = .returned (.tuple #[vc,vp,.int .i64 0]) ∧ SeqAt w' vc [] ∧ SeqAt w' vp [0,1]) ∧ Below w.heap.size w w':=by
 subst hV;have h:=Plan_in hbk ex_full hkd (day:=5) (by decide) (by decide);refine h.mono fun e w' ⟨vc,vp,cs,ps,h1,hp,h2,h3,hb⟩ => ?_;obtain ⟨rfl,rfl⟩:=ex_plan5 hp;rw [sortI_nil] at h2;rw [sortI_two] at h3;exact ⟨⟨vc,vp,h1,owns_seq h2 rfl,owns_seq h3 rfl⟩,hb⟩
theorem exPlan8 (hbk:BkAt M l exBook w) (hkd:KindsAt w) (hV:l.val exBook = V):CallsIn Fz 0 Tryz.prog 31 #[V,.int .i64 8] w fun e w' => (∃ vc vp,e = .returned (.tuple #[vc,vp,.int .i64 0]) ∧ SeqAt w' vc [0] ∧ SeqAt w' vp [0,1,2]) ∧ Below w.heap.size w w':=by
 subst hV;have h:=Plan_in hbk ex_full hkd (day:=8) (by decide) (by decide);refine h.mono fun e w' ⟨vc,vp,cs,ps,h1,hp,h2,h3,hb⟩ => ?_;obtain ⟨rfl,rfl⟩:=ex_plan8 hp;rw [sortI_one] at h2;rw [sortI_021] at h3;exact ⟨⟨vc,vp,h1,owns_seq h2 rfl,owns_seq h3 rfl⟩,hb⟩
theorem exProves (hbk:BkAt M l exBook w) (hkd:KindsAt w) (hV:l.val exBook = V) {vc vp:Value} (hc:SeqAt w vc [0]) (hp:SeqAt w vp [0,1,2]):CallsIn Fz 0 Tryz.prog 33 #[V,.int .i64 8,vc,vp] w fun e w' => e = .returned (.tuple #[.bool true,.int .i64 0]) ∧ Below w.heap.size w w':=by
 subst hV;have h:=Proves_in hbk ex_full hkd (day:=8) (by decide) (by decide) hc hp (by decide) (by decide);rw [ex_proves] at h;exact h
end
section
variable [Keep] {Q:Qr} {a:Act} {w:World} {S:Blks}
theorem exBal8 {M:Nat} {l:Lay} {V:Value} (hbk:BkAt M l exBook w) (hkd:KindsAt w) (hV:l.val exBook = V) (hlim:Keep.lim ≤ w.heap.size):CallsR Tryz.prog Inside 26 #[V,.int .i64 0,.int .i64 8] w S fun v w' S' => v = .tuple #[.agg #[.int .i64 40,.int .i64 150,.int .i64 0,.int .i64 190],.int .i64 0] ∧ GrowS w.heap.size w S w' S':=by
 subst hV;have h:=Balance_R (S:=S) hbk ex_full hkd hlim (c:=0) (by decide) (day:=8) (by decide) (by decide);have e:=ex_acc8;simp only [Prod.mk.injEq] at e;rw [e.1,e.2.1,e.2.2,ex_heldOf8] at h;exact h
theorem exBal12 {M:Nat} {l:Lay} {V:Value} (hbk:BkAt M l exBook w) (hkd:KindsAt w) (hV:l.val exBook = V) (hlim:Keep.lim ≤ w.heap.size):CallsR Tryz.prog Inside 26 #[V,.int .i64 0,.int .i64 12] w S fun v w' S' => v = .tuple #[.agg #[.int .i64 35,.int .i64 0,.int .i64 160,.int .i64 195],.int .i64 0] ∧ GrowS w.heap.size w S w' S':=by
 subst hV;have h:=Balance_R (S:=S) hbk ex_full hkd hlim (c:=0) (by decide) (day:=12) (by decide) (by decide);have e:=ex_acc12;simp only [Prod.mk.injEq] at e;rw [e.1,e.2.1,e.2.2,ex_heldOf12] at h;exact h
theorem wpR_thenZ {x y:Code} (h:∀ w',SameW w w' → x.wpIn Fz 0 Tryz.prog (fun e a' w'' => thenR (fun a w S => wpR Tryz.prog Inside y Q a w S) Q e a' w'' S) a w'):wpR Tryz.prog Inside (.seq x y) Q a w S:=wpR_then fit h
theorem wpR_loneZ {c:Code} (h:∀ w',SameW w w' → c.wpIn Fz 0 Tryz.prog (fun e a' w'' => Q e a' w'' S) a w'):wpR Tryz.prog Inside c Q a w S:=wpR_lone fit h
theorem opsR_loneZ {ops:Array Oper} {i:Nat} {rest:List Nat} {o:Oper} (ho:ops[i]? = some o) (hw:Region.wanted o (yielded ops a.tmps) = true)
  (h:∀ w',SameW w w' → o.wpIn Fz 0 Tryz.prog a w' (fun a' w'' => opsR Tryz.prog Inside ops rest Q a' w'' S) (fun _ _ _ => False)):opsR Tryz.prog Inside ops (i :: rest) Q a w S:=opsR_lone fit ho hw h
theorem opsR_callZ {ops:Array Oper} {i:Nat} {rest:List Nat} {o:Oper} {f:FuncId} {fn:Func} {body:Code} {args:Array Operand} {ats:Array TypeId} {R:Value → World → Blks → Prop} {vals:Array Value}
  (ho:ops[i]? = some o) (hw:Region.wanted o (yielded ops a.tmps) = true) (hop:o.op = .call { callee:=.value (.func f),args,argTypes:=ats }) (hf:Tryz.prog.funcs[f]? = some fn) (hname:(fn.name == "runtime.NumGoroutine") = false) (hb:fn.body = some body)
  (hargs:args.map a.eval = vals) (hcall:CallsR Tryz.prog Inside f vals w S R) (hnext:∀ v w' S',R v w' S' → opsR Tryz.prog Inside ops rest Q (a.put o.dst v) w' S'):opsR Tryz.prog Inside ops (i :: rest) Q a w S:=by
 subst hargs;exact opsR_call fit ho hw hop hf hname hb hcall hnext
theorem body26:Tryz.f26.body = some (Tryz.f26.body.getD .skip):=rfl
end
end Go.Proofs.YtnkejaohnhpbpaaGreatDoor
end
