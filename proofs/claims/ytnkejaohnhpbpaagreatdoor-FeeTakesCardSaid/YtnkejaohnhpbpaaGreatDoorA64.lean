/- A region 'x.f = append(x.f, m)', the list the call's own, whatever order it draws: what stands on the way. -/
import Derived.Test.YtnkejaohnhpbpaaGreatDoorA14
import Derived.Test.YtnkejaohnhpbpaaGreatDoorA48
import Derived.Test.YtnkejaohnhpbpaaGreatDoorA51
import Derived.Test.YtnkejaohnhpbpaaGreatDoorA52
import Derived.Test.YtnkejaohnhpbpaaGreatDoorA53
import Derived.Test.YtnkejaohnhpbpaaGreatDoorA63
set_option linter.all false
section
namespace Go.Proofs.YtnkejaohnhpbpaaGreatDoor
open Go Go.RowKit Lift
theorem hideQ {F:Fence} {n:Nat} {P:Program} {c:Code} {Q:Exit → Act → World → Prop} {a:Act} {w:World} (h:∀ Q':Exit → Act → World → Prop,(∀ e a w,Q e a w → Q' e a w) → c.wpIn F n P Q' a w):c.wpIn F n P Q a w:=h Q (fun _ _ _ q => q)
structure WA1 (N0 ib ia is:Nat) (sb sa:Tmp) (w0:World) (BO:Nat) (v:Value) (xs:List RPay) (m:RPay) (D:Nat → Bool) (x:Tmp → Value) (w:World):Prop where
 fin:D is = true → ∃ w1,Below N0 w0 w1 ∧ w1.ownsRow N0 56 5 (x sa) (xs.length + 1) (payCells (xs ++ [m])) ∧ w = w1.setCell ⟨BO,3,none⟩ (x sa)
 bel:D is = false → Below N0 w0 w
 ov:D is = false → D ia = false → w.ownsRow N0 56 5 v xs.length (payCells xs)
 ob:D is = false → D ib = true → D ia = false → w.ownsRow N0 56 5 (x sb) 1 (payCells [m])
 oa:D is = false → D ia = true → w.ownsRow N0 56 5 (x sa) (xs.length + 1) (payCells (xs ++ [m]))
section
variable {N0 ib ia is BO:Nat} {sb sa:Tmp} {w0 w w':World} {v:Value} {xs:List RPay} {m:RPay} {D:Nat → Bool} {x:Tmp → Value}
theorem WA1.start {x0:Tmp → Value} (hN:N0 ≤ w0.heap.size) (h:w0.ownsRow N0 56 5 v xs.length (payCells xs)):WA1 N0 ib ia is sb sa w0 BO v xs m (fun _ => false) x0 { w0 with drawn:=w0.drawn + 1 }:=
 ⟨fun h => by (cases h),fun _ => ⟨rfl,rfl,rfl,Nat.le_refl _,fun _ _ => rfl⟩,fun _ _ => h,fun _ h => by (cases h),fun _ h => by (cases h)⟩
theorem WA1.pure (h:WA1 N0 ib ia is sb sa w0 BO v xs m D x w) {i:Nat} (hi:i ∉ [ib,ia,is]):WA1 N0 ib ia is sb sa w0 BO v xs m (alsoG D i) x w:=by
 simp only [List.mem_cons,List.not_mem_nil,or_false,not_or] at hi
 obtain ⟨h1,h2,h3⟩:=hi
 have e1:=alsoG_ne (D:=D) (Ne.symm h1)
 have e2:=alsoG_ne (D:=D) (Ne.symm h2)
 have e3:=alsoG_ne (D:=D) (Ne.symm h3)
 exact ⟨by rw [e3];exact h.fin,by rw [e3];exact h.bel,by rw [e3,e2];exact h.ov,by rw [e3,e1,e2];exact h.ob,by rw [e3,e2];exact h.oa⟩
theorem WA1.build (hN:N0 ≤ w0.heap.size) (hok:ib ≠ ia ∧ ib ≠ is ∧ ia ≠ is ∧ sb ≠ sa) (h:WA1 N0 ib ia is sb sa w0 BO v xs m D x w) (da:D ia = false) (ds:D is = false):WA1 N0 ib ia is sb sa w0 BO v xs m (alsoG D ib) (updT x sb (.slice (some ⟨w.heap.size,0,none⟩) 1 1)) (w.alloc (.cells m.row.toArray 56)):=by
 obtain ⟨o1,o2,o3,o4⟩:=hok
 have hb:=h.bel ds
 have hNw:N0 ≤ w.heap.size:=Nat.le_trans hN hb.size
 have ea:alsoG D ib ia = D ia:=alsoG_ne (Ne.symm o1)
 have es:alsoG D ib is = D is:=alsoG_ne (Ne.symm o2)
 refine ⟨fun q => nof (es.trans ds) q,fun _ => hb.alloc hNw _,fun _ _ => (h.ov ds da).alloc _,fun _ _ _ => ?_,fun _ q => nof (ea.trans da) q⟩
 rw [upd_eqT]
 have:=World.ownsRow_lit (e:=56) (base:=N0) (size:=5) w m.row.toArray 1 hNw (by decide) rfl
 simpa [payCells] using this
theorem WA1.app (hok:ib ≠ ia ∧ ib ≠ is ∧ ia ≠ is ∧ sb ≠ sa) (hN:N0 ≤ w0.heap.size) (h:WA1 N0 ib ia is sb sa w0 BO v xs m D x w) (da:D ia = false) (ds:D is = false) {u:Value} (hown:w'.ownsRow N0 56 5 u (xs.length + 1) (payCells (xs ++ [m]))) (hg:w.grownBy w' v.ownBlock) :
  WA1 N0 ib ia is sb sa w0 BO v xs m (alsoG D ia) (updT x sa u) w':=by
 obtain ⟨o1,o2,o3,o4⟩:=hok
 have hb:=h.bel ds
 have es:alsoG D ia is = D is:=alsoG_ne (Ne.symm o3)
 exact ⟨fun q => nof (es.trans ds) q,fun _ => hb.trans (owns_bel (h.ov ds da) hg (Nat.le_trans hN hb.size)),fun _ q => nof q alsoG_eq,fun _ _ q => nof q alsoG_eq,fun _ _ => by rw [upd_eqT];exact hown⟩
theorem WA1.store (hok:ib ≠ ia ∧ ib ≠ is ∧ ia ≠ is ∧ sb ≠ sa) (h:WA1 N0 ib ia is sb sa w0 BO v xs m D x w) (qa:D ia = true) (ds:D is = false):WA1 N0 ib ia is sb sa w0 BO v xs m (alsoG D is) x (w.setCell ⟨BO,3,none⟩ (x sa)):=by
 obtain ⟨o1,o2,o3,o4⟩:=hok
 exact ⟨fun _ => ⟨w,h.bel ds,h.oa ds qa,rfl⟩,fun q => nof q alsoG_eq,fun q => nof q alsoG_eq,fun q => nof q alsoG_eq,fun q => nof q alsoG_eq⟩
end
end Go.Proofs.YtnkejaohnhpbpaaGreatDoor
end
section
namespace Go.Proofs.YtnkejaohnhpbpaaGreatDoor
open Go Go.RowKit Lift
structure SameOn (b b2:Book) (n:Int):Prop where
 cs:b.cs.length = b2.cs.length
 co:b.coins.length = b2.coins.length
 st:∀ c,c < b.cs.length → ((b.after n).cases c).state = ((b2.after n).cases c).state ∧ ((b.after n).cases c).held = ((b2.after n).cases c).held
 ba:∀ k,k < b.coins.length → (b.after n).acc k = (b2.after n).acc k ∧ b.heldOf (b.after n) k = b2.heldOf (b2.after n) k ∧ (b.after n).tkn k = (b2.after n).tkn k ∧ (b.after n).pd k = (b2.after n).pd k
theorem held_with (b:Book) (ps':List Pay) {s s':St} (h:∀ c,s.cases c = s'.cases c) (c:Nat):∀ j,b.held s c j = Book.held { b with ps:=ps' } s' c j
 | 0 => rfl
 | j + 1 => by
  simp only [Book.held]
  rw [held_with b ps' h c j,h j]
  rfl
theorem Alike.same {b:Book} {ps':List Pay} {n:Int} (h:Alike b { b with ps:=ps' } n):SameOn b { b with ps:=ps' } n where
 cs:=rfl
 co:=rfl
 st:=fun c _ => by rw [h.cases c];exact ⟨rfl,rfl⟩
 ba:=fun k hk => by
  refine ⟨h.acc k,?_,h.tkn k,h.pd k⟩
  unfold Book.heldOf
  rw [if_pos hk,if_pos (show k < (Book.coins { b with ps:=ps' }).length from hk)]
  exact held_with b ps' h.cases k _
def RPay.inOn (d:Int) (p:RPay):Bool:=decide (p.day = d ∧ p.kind ≠ 2)
def RPay.mvOn (d:Int) (p:RPay):Bool:=decide (p.day = d ∧ p.kind = 2)
theorem inOn_to (d:Int):(Go.Proofs.YtnkejaohnhpbpaaGreatDoor.inOn d) ∘ RPay.to = RPay.inOn d:=by
 funext p
 simp only [Function.comp,inOn,RPay.inOn,RPay.to]
 exact decide_eq_decide.2 (by constructor <;> rintro ⟨h1,h2⟩ <;> refine ⟨h1,?_⟩ <;> omega)
theorem mvOn_to (d:Int):(Go.Proofs.YtnkejaohnhpbpaaGreatDoor.mvOn d) ∘ RPay.to = RPay.mvOn d:=by
 funext p
 simp only [Function.comp,mvOn,RPay.mvOn,RPay.to]
 exact decide_eq_decide.2 (by constructor <;> rintro ⟨h1,h2⟩ <;> refine ⟨h1,?_⟩ <;> omega)
theorem RBook.Right.pays {b:RBook} (hR:b.Right) {ps':List RPay} (hsub:∀ p ∈ ps',p ∈ b.ps) (hlen:ps'.length ≤ 10):RBook.Right { b with ps:=ps' }:=
 ⟨hR.nc,hR.cn,hR.cd,hR.nt,hR.tn,hR.td,hR.t,hR.nk,hR.kn,hR.kd,hR.k,hlen,fun p hp => hR.p p (hsub p hp)⟩
theorem sameOn_of {b:RBook} {ps':List RPay} (hR:b.Right) (hR':RBook.Right { b with ps:=ps' }) (n:Nat)
  (h1:∀ d:Int,0 ≤ d → d ≤ n → (b.ps.filter (RPay.inOn d)).Perm (ps'.filter (RPay.inOn d)))
  (h2:∀ d:Int,0 ≤ d → d ≤ n → b.ps.filter (RPay.mvOn d) = ps'.filter (RPay.mvOn d)):SameOn b.to (RBook.to { b with ps:=ps' }) n:=by
 have e:RBook.to { b with ps:=ps' } = { b.to with ps:=ps'.map RPay.to }:=rfl
 have hv':=hR'.full.v
 rw [e] at hv' ⊢
 refine (alike_of hR.full.v hv' n (fun d d0 d1 => ?_) (fun d d0 d1 => ?_)).same
 ·show ((b.ps.map RPay.to).filter _).Perm _
  rw [List.filter_map,List.filter_map,inOn_to]
  exact (h1 d d0 d1).map _
 ·show (b.ps.map RPay.to).filter _ = _
  rw [List.filter_map,List.filter_map,mvOn_to,h2 d d0 d1]
def RBook.upTo (b:RBook) (n:Int) (j:Nat):List RPay:=(b.ps.take j).filter fun p => decide (p.day ≤ n)
theorem RBook.upTo_length (b:RBook) (n:Int) (j:Nat):(b.upTo n j).length ≤ b.ps.length:=by
 unfold RBook.upTo
 exact Nat.le_trans (List.length_filter_le _ _) (by rw [List.length_take];omega)
theorem RBook.upTo_some {b:RBook} {n:Int} {j:Nat} (hj:j < b.ps.length) (h:(b.payAt j).day ≤ n):b.upTo n (j + 1) = b.upTo n j ++ [b.payAt j]:=by
 unfold RBook.upTo
 rw [List.take_add_one,List.getElem?_eq_getElem hj,List.filter_append,← payAt_get hj]
 simp [h]
theorem RBook.upTo_none {b:RBook} {n:Int} {j:Nat} (hj:j < b.ps.length) (h:¬ (b.payAt j).day ≤ n):b.upTo n (j + 1) = b.upTo n j:=by
 unfold RBook.upTo
 rw [List.take_add_one,List.getElem?_eq_getElem hj,List.filter_append,← payAt_get hj]
 simp [h]
theorem upTo_len {b:RBook} {n:Int} {j:Nat} {dy:Int} (hj:j < b.ps.length) (hdy:(b.payAt j).day = dy) (h:dy ≤ n):(b.upTo n (j + 1)).length = (b.upTo n j).length + 1:=by
 rw [RBook.upTo_some hj (by rw [hdy];exact h)];simp
theorem RBook.upTo_all (b:RBook) (n:Int):b.upTo n b.ps.length = b.ps.filter fun p => decide (p.day ≤ n):=by
 unfold RBook.upTo;rw [List.take_length]
theorem upTo_right {b:RBook} (hR:b.Right) (n:Int):RBook.Right { b with ps:=b.upTo n b.ps.length }:=
 hR.pays (fun p hp => by rw [b.upTo_all] at hp;exact (List.mem_filter.1 hp).1) (Nat.le_trans (b.upTo_length n _) hR.np)
theorem filter_upTo {q:RPay → Bool} {ps:List RPay} {n:Int} (h:∀ p,q p = true → p.day ≤ n):(ps.filter fun p => decide (p.day ≤ n)).filter q = ps.filter q:=by
 rw [List.filter_filter]
 congr 1
 funext p
 cases hq:q p with
 | false => rfl
 | true => simp [h p hq]
theorem upTo_same {b:RBook} (hR:b.Right) (n:Nat):SameOn b.to (RBook.to { b with ps:=b.upTo n b.ps.length }) n:=by
 refine sameOn_of hR (upTo_right hR n) n (fun d d0 d1 => ?_) (fun d d0 d1 => ?_)
 ·rw [b.upTo_all,filter_upTo fun p h => by simp [RPay.inOn] at h;omega]
 ·rw [b.upTo_all,filter_upTo fun p h => by simp [RPay.mvOn] at h;omega]
theorem more_same {b:RBook} (hR:b.Right) {m:RPay} (hR':RBook.Right { b with ps:=b.ps ++ [m] }) (n:Nat) (hm:¬ m.day ≤ n):SameOn b.to (RBook.to { b with ps:=b.ps ++ [m] }) n:=by
 refine sameOn_of hR hR' n (fun d d0 d1 => ?_) (fun d d0 d1 => ?_)
 ·rw [List.filter_append,show [m].filter (RPay.inOn d) = [] from by simp [RPay.inOn];omega,List.append_nil]
 ·rw [List.filter_append,show [m].filter (RPay.mvOn d) = [] from by simp [RPay.mvOn];omega,List.append_nil]
def RPay.comes (p:RPay):Bool:=decide (p.kind ≠ 2)
def RPay.moves (p:RPay):Bool:=decide (p.kind = 2)
def RBook.ins (b:RBook) (j:Nat):List RPay:=(b.ps.take j).filter RPay.comes
def RBook.outs (b:RBook) (j:Nat):List RPay:=(b.ps.take j).filter RPay.moves
theorem filt_len (p:RPay → Bool) (q:RPay → Bool) (h:∀ x,q x = !p x):∀ l:List RPay,(l.filter p).length + (l.filter q).length = l.length
 | [] => rfl
 | x :: l => by
  have ih:=filt_len p q h l
  simp only [List.filter_cons,h x]
  cases p x <;> simp <;> omega
theorem RBook.ins_outs (b:RBook) (j:Nat) (hj:j ≤ b.ps.length):(b.ins j).length + (b.outs j).length = j:=by
 unfold RBook.ins RBook.outs
 rw [filt_len RPay.comes RPay.moves (fun x => by simp [RPay.comes,RPay.moves]) _,List.length_take]
 omega
theorem RBook.in_step {b:RBook} {j:Nat} (hj:j < b.ps.length) (h:¬ (b.payAt j).kind = 2):b.ins (j + 1) = b.ins j ++ [b.payAt j] ∧ b.outs (j + 1) = b.outs j:=by
 unfold RBook.ins RBook.outs
 rw [List.take_add_one,List.getElem?_eq_getElem hj,List.filter_append,List.filter_append,← payAt_get hj]
 simp [RPay.comes,RPay.moves,h]
theorem RBook.out_step {b:RBook} {j:Nat} (hj:j < b.ps.length) (h:(b.payAt j).kind = 2):b.outs (j + 1) = b.outs j ++ [b.payAt j] ∧ b.ins (j + 1) = b.ins j:=by
 unfold RBook.ins RBook.outs
 rw [List.take_add_one,List.getElem?_eq_getElem hj,List.filter_append,List.filter_append,← payAt_get hj]
 simp [RPay.comes,RPay.moves,h]
def turned (t:Nat) (l:List RPay):List RPay:=l.drop t ++ l.take t
theorem turned_perm (t:Nat) (l:List RPay):l.Perm (turned t l):=by
 have h:=List.perm_append_comm (l₁:=l.take t) (l₂:=l.drop t)
 rw [List.take_append_drop] at h
 exact h
theorem filter_comes_in (d:Int) (l:List RPay):(l.filter RPay.comes).filter (RPay.inOn d) = l.filter (RPay.inOn d):=by
 rw [List.filter_filter];congr 1;funext p
 simp only [RPay.comes,RPay.inOn]
 by_cases h:p.kind = 2 <;> simp [h]
theorem filter_moves_mv (d:Int) (l:List RPay):(l.filter RPay.moves).filter (RPay.mvOn d) = l.filter (RPay.mvOn d):=by
 rw [List.filter_filter];congr 1;funext p
 simp only [RPay.moves,RPay.mvOn]
 by_cases h:p.kind = 2 <;> simp [h]
theorem filter_nil {q:RPay → Bool} {l:List RPay} (h:∀ p ∈ l,q p = false):l.filter q = []:=
 List.filter_eq_nil_iff.2 fun p hp => by simp [h p hp]
section
variable {b:RBook} {is:List RPay}
theorem any_in (h:(b.ins b.ps.length).Perm is) (d:Int):(b.ps.filter (RPay.inOn d)).Perm (is.filter (RPay.inOn d)):=by
 have:=h.filter (RPay.inOn d)
 unfold RBook.ins at this
 rw [List.take_length,filter_comes_in] at this
 exact this
theorem any_in0 (d:Int):(b.outs b.ps.length).filter (RPay.inOn d) = []:=filter_nil fun p hp => by
 have:=(List.mem_filter.1 hp).2
 simp only [RPay.moves,decide_eq_true_eq] at this
 simp [RPay.inOn,this]
theorem any_mv0 (h:(b.ins b.ps.length).Perm is) (d:Int):is.filter (RPay.mvOn d) = []:=filter_nil fun p hp => by
 have:=(List.mem_filter.1 (h.mem_iff.2 hp)).2
 simp only [RPay.comes,decide_eq_true_eq] at this
 simp [RPay.mvOn,this]
theorem any_mv (d:Int):b.ps.filter (RPay.mvOn d) = (b.outs b.ps.length).filter (RPay.mvOn d):=by
 unfold RBook.outs
 rw [List.take_length,filter_moves_mv]
theorem any_mem (h:(b.ins b.ps.length).Perm is) {p:RPay} (hp:p ∈ is ∨ p ∈ b.outs b.ps.length):p ∈ b.ps:=by
 rcases hp with hp | hp
 ·exact List.mem_of_mem_take (List.mem_filter.1 (h.mem_iff.2 hp)).1
 ·exact List.mem_of_mem_take (List.mem_filter.1 hp).1
theorem first_right (hR:b.Right) (h:(b.ins b.ps.length).Perm is):RBook.Right { b with ps:=is ++ b.outs b.ps.length }:=
 hR.pays (fun p hp => any_mem h (List.mem_append.1 hp)) (by
  have h1:=b.ins_outs b.ps.length (Nat.le_refl _)
  have h2:=h.length_eq
  have h3:=hR.np
  rw [List.length_append];omega)
theorem last_right (hR:b.Right) (h:(b.ins b.ps.length).Perm is):RBook.Right { b with ps:=b.outs b.ps.length ++ is }:=
 hR.pays (fun p hp => any_mem h (List.mem_append.1 hp).symm) (by
  have h1:=b.ins_outs b.ps.length (Nat.le_refl _)
  have h2:=h.length_eq
  have h3:=hR.np
  rw [List.length_append];omega)
theorem first_same (hR:b.Right) (h:(b.ins b.ps.length).Perm is) (n:Nat):SameOn b.to (RBook.to { b with ps:=is ++ b.outs b.ps.length }) n:=by
 refine sameOn_of hR (first_right hR h) n (fun d d0 d1 => ?_) (fun d d0 d1 => ?_)
 ·rw [List.filter_append,any_in0,List.append_nil];exact any_in h d
 ·rw [List.filter_append,any_mv0 h,List.nil_append];exact any_mv d
theorem last_same (hR:b.Right) (h:(b.ins b.ps.length).Perm is) (n:Nat):SameOn b.to (RBook.to { b with ps:=b.outs b.ps.length ++ is }) n:=by
 refine sameOn_of hR (last_right hR h) n (fun d d0 d1 => ?_) (fun d d0 d1 => ?_)
 ·rw [List.filter_append,any_in0,List.nil_append];exact any_in h d
 ·rw [List.filter_append,any_mv0 h,List.append_nil];exact any_mv d
end
end Go.Proofs.YtnkejaohnhpbpaaGreatDoor
end
section
namespace Go.Proofs.YtnkejaohnhpbpaaGreatDoor
open Go Go.Conc Go.RowKit Lift
section
variable {w0 w w1:World} {S0 S:Blks} {B BO j N0:Nat} {l:Lay} {b:RBook} {v:Value}
theorem LawAt.belowN (E:LawAt w0 S0 w0.heap.size l b B w S) (h0:0 < w0.heap.size) (hb:Below N0 w w1) (hN:w0.heap.size ≤ N0) (hB:B < N0):LawAt w0 S0 w0.heap.size l b B w1 S:=by
 have hbM:Below w0.heap.size w w1:=hb.mono hN
 exact ⟨E.g.trans (Grow.of hbM).s,E.bk.below hbM,(hb.block B hB).trans E.bx,E.lo,E.kd.below hbM h0⟩
theorem LawAt.pokeB (E:LawAt w0 S0 w0.heap.size l b B w S) (h0:0 < w0.heap.size) (hb:Below N0 w w1) (hN:w0.heap.size ≤ N0) (hB:B < N0) (hlo:w0.heap.size ≤ BO) (hne:BO ≠ B):LawAt w0 S0 w0.heap.size l b B (w1.setCell ⟨BO,j,none⟩ v) S:=
 (E.belowN h0 hb hN hB).poke h0 (Below.refl _ _) hlo hne
end
theorem Blk.belowN {w w1:World} {B N0:Nat} {ty:TypeId} {cs:Array Value} (h:Blk w B ty cs) (hb:Below N0 w w1) (hB:B < N0):Blk w1 B ty cs:=(hb.block B hB).trans h
section
variable [Keep] {Q:Qr} {a:Act} {w:World} {S:Blks}
theorem opsR_skipZ {ops:Array Oper} {i:Nat} {rest:List Nat} {o:Oper} (ho:ops[i]? = some o) (hw:Region.wanted o (yielded ops a.tmps) = false) (hab:∀ w' f,o.about Tryz.prog w' a.eval = some f → Inside f)
  (h:opsR Tryz.prog Inside ops rest Q (a.put o.dst undef) w S):opsR Tryz.prog Inside ops (i :: rest) Q a w S:=opsR_unwanted fit ho hw (fun _ _ => hab _) h
theorem about_fn {P:Program} {o:Oper} {f g:FuncId} {args:Array Operand} {ats:Array TypeId} (hop:o.op = .call { callee:=.value (.func f),args,argTypes:=ats }) {w:World} {a:Act} (h:o.about P w a.eval = some g):g = f:=by
 simp [Oper.about,hop,resolve,Deferred.ofValue,Act.eval,Sem.run_pure,Target.leads] at h
 exact h.symm
theorem opsR_skipC {ops:Array Oper} {i:Nat} {rest:List Nat} {o:Oper} {f:FuncId} {args:Array Operand} {ats:Array TypeId} (ho:ops[i]? = some o) (hw:Region.wanted o (yielded ops a.tmps) = false) (hop:o.op = .call { callee:=.value (.func f),args,argTypes:=ats }) (hf:Inside f)
  (h:opsR Tryz.prog Inside ops rest Q (a.put o.dst undef) w S):opsR Tryz.prog Inside ops (i :: rest) Q a w S:=opsR_skipZ ho hw (fun w' g hg => about_fn hop hg ▸ hf) h
end
theorem body37:Tryz.f37.body = some (Tryz.f37.body.getD .skip):=rfl
theorem same_on {N N2:Nat} {l l2:Lay} {b b2:RBook} [Keep] {w:World} {S:Blks} (hbk:RBkAt N l b w) (hbk2:RBkAt N2 l2 b2 w) (hR:b.Right) (hR2:b2.Right) (hkd:KindsAt w) (hlim:Keep.lim ≤ w.heap.size) {n:Nat} (n1:n ≤ 9999) (h:SameOn b.to b2.to n) :
  CallsR Tryz.prog Inside 37 #[.agg (l.rarr b),.agg (l2.rarr b2),.int .i64 n] w S fun v w' S' => v = .bool true ∧ GrowS w.heap.size w S w' S':=by
 have:=same_R (S:=S) (hbk.to hR) (hbk2.to hR2) hR.full hR2.full hkd hlim (n:=(n:Int)) (by omega) (by omega) h.cs h.co h.st h.ba
 rw [RBook.to_val,RBook.to_val] at this
 exact this
end Go.Proofs.YtnkejaohnhpbpaaGreatDoor
end
