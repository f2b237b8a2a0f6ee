/- FeeIdle in plain words: void moves do nothing. -/
import Derived.Sort.LotA
import Derived.Test.YtnkejaohnhpbpaaGreatDoorA20
import Derived.Test.YtnkejaohnhpbpaaGreatDoorA64
set_option linter.all false
namespace Go.Proofs.YtnkejaohnhpbpaaGreatDoor
open Go Go.RowKit Lift
def failing (b:Book) (d:Int) (i:Nat) (s:St):Prop:=((b.payAt i).day = d ∧ (b.payAt i).kind = 2) ∧ ¬ St.mvOk b i s
instance (b:Book) (d:Int) (i:Nat) (s:St):Decidable (failing b d i s):=by unfold failing;exact inferInstance
theorem iter_vds {f:Nat → St → St} (h:∀ c s,(f c s).voids = s.voids):∀ k s,(iter f k s).voids = s.voids
 | 0,_ => rfl
 | k + 1,s => (h k _).trans (iter_vds h k s)
theorem lapse_vds (b:Book) (d:Int) (s:St):(s.lapse b d).voids = s.voids:=iter_vds (fun c s => by unfold St.lapse1;split <;> rfl) _ _
theorem keep_vds (b:Book) (d:Int) (s:St):(s.keep b d).voids = s.voids:=iter_vds (fun c s => by unfold St.keep1;split <;> rfl) _ _
theorem ins_vds (b:Book) (d:Int) (s:St):(s.ins b d).voids = s.voids:=iter_vds (fun i s => by
 unfold St.ins1
 split
 ·split
  ·rfl
  ·unfold St.inn;split <;> rfl
 ·rfl) _ _
theorem mvs1_vds (b:Book) (d:Int) (i:Nat) (s:St):(St.mvs1 b d i s).voids = if failing b d i s then s.voids ++ [(i:Int)] else s.voids:=by
 by_cases hf:failing b d i s
 ·rw [if_pos hf]
  unfold St.mvs1 St.mv
  rw [if_pos hf.1,if_neg hf.2]
 ·rw [if_neg hf]
  unfold St.mvs1
  by_cases h:(b.payAt i).day = d ∧ (b.payAt i).kind = 2
  ·rw [if_pos h]
   unfold St.mv
   by_cases h2:St.mvOk b i s
   ·rw [if_pos h2,keep_vds];rfl
   ·exact absurd ⟨h,h2⟩ hf
  ·rw [if_neg h]
def St.pre (b:Book) (d:Int) (s:St):St:=((s.lapse b d).ins b d).keep b d
def failed (b:Book) (d:Int) (u:St) (k:Nat):List Nat:=(List.range k).filter fun i => decide (failing b d i (iter (St.mvs1 b d) i u))
theorem iter_failed (b:Book) (d:Int) (u:St):∀ k,(iter (St.mvs1 b d) k u).voids = u.voids ++ (failed b d u k).map fun i:Nat => (i:Int)
 | 0 => by simp [iter,failed]
 | k + 1 => by
  have ih:=iter_failed b d u k
  rw [iter,mvs1_vds,ih]
  unfold failed
  rw [List.range_succ,List.filter_append,List.map_append]
  by_cases h:failing b d k (iter (St.mvs1 b d) k u)
  ·rw [if_pos h]
   simp [h]
  ·rw [if_neg h]
   simp [h]
theorem day1_vds (b:Book) (d:Int) (s:St):(St.day1 b s d).voids = s.voids ++ (failed b d (s.pre b d) b.ps.length).map fun i:Nat => (i:Int):=by
 have:=iter_failed b d (s.pre b d) b.ps.length
 unfold St.day1 St.mvs
 rw [show ((s.lapse b d).ins b d).keep b d = s.pre b d from rfl,this]
 congr 1
 unfold St.pre
 rw [keep_vds,ins_vds,lapse_vds]
def Book.fresh (b:Book) (d:Int):List Nat:=if d ∈ b.evdays then failed b d ((b.after (d - 1)).pre b d) b.ps.length else []
theorem after_vds (b:Book) (d:Int):(b.after d).voids = (b.after (d - 1)).voids ++ (b.fresh d).map fun i:Nat => (i:Int):=by
 have h:=b.after_succ (d - 1)
 rw [show d - 1 + 1 = d by omega] at h
 unfold Book.fresh
 by_cases hd:d ∈ b.evdays
 ·rw [if_pos hd] at h ⊢
  rw [h,day1_vds]
 ·rw [if_neg hd] at h ⊢
  rw [h];simp
theorem mem_fresh {b:Book} {d:Int} {i:Nat} (h:i ∈ b.fresh d):d ∈ b.evdays ∧ i < b.ps.length ∧ failing b d i (iter (St.mvs1 b d) i ((b.after (d - 1)).pre b d)):=by
 unfold Book.fresh at h
 by_cases hd:d ∈ b.evdays
 ·rw [if_pos hd] at h
  have:=List.mem_filter.1 h
  exact ⟨hd,List.mem_range.1 this.1,by simpa using this.2⟩
 ·rw [if_neg hd] at h;simp at h
theorem fresh_nodup (b:Book) (d:Int):(b.fresh d).Nodup:=by
 unfold Book.fresh failed
 split
 ·exact List.Pairwise.filter _ List.nodup_range
 ·exact List.nodup_nil
structure VoidsTo (b:Book) (m:Nat):Prop where
 of:∀ x ∈ (b.after ((m:Int) - 1)).voids,∃ i:Nat,x = i ∧ i ∈ b.fresh (b.payAt i).day ∧ (b.payAt i).day < m
 to:∀ i:Nat,i ∈ b.fresh (b.payAt i).day → 0 ≤ (b.payAt i).day → (b.payAt i).day < m → (i:Int) ∈ (b.after ((m:Int) - 1)).voids
 nd:(b.after ((m:Int) - 1)).voids.Nodup
theorem voidsTo {b:Book} (hv:Valid b):∀ m,VoidsTo b m
 | 0 => by
  have e:b.after (((0:Nat):Int) - 1) = St.init:=hv.after_zero
  refine ⟨?_,fun i _ h0 h1 => ?_,?_⟩
  ·rw [e];intro x hx;exact absurd hx (List.not_mem_nil)
  ·omega
  ·rw [e];exact List.nodup_nil
 | m + 1 => by
  have ih:=voidsTo hv m
  have e:=after_vds b (m:Int)
  have e1:((m + 1:Nat):Int) - 1 = m:=by omega
  refine ⟨fun x hx => ?_,fun i hi h0 h1 => ?_,?_⟩
  ·rw [e1,e] at hx
   rcases List.mem_append.1 hx with hx | hx
   ·obtain ⟨i,h1,h2,h3⟩:=ih.of x hx
    exact ⟨i,h1,h2,by omega⟩
   ·obtain ⟨i,h1,rfl⟩:=List.mem_map.1 hx
    have hd:=(mem_fresh h1).2.2.1.1
    exact ⟨i,rfl,by rw [hd];exact h1,by omega⟩
  ·rw [e1,e]
   by_cases hd:(b.payAt i).day = m
   ·rw [hd] at hi
    exact List.mem_append_right _ (List.mem_map.2 ⟨i,hi,rfl⟩)
   ·exact List.mem_append_left _ (ih.to i hi h0 (by omega))
  ·rw [e1,e]
   refine List.nodup_append.2 ⟨ih.nd,?_,?_⟩
   ·have h:=fresh_nodup b (m:Int)
    unfold List.Nodup at h ⊢
    exact List.pairwise_map.2 (h.imp fun hne e => hne (by omega))
   ·intro x hx y hy e
    obtain ⟨i,h1,h2,h3⟩:=ih.of x hx
    obtain ⟨k,h4,rfl⟩:=List.mem_map.1 hy
    have hd:=(mem_fresh h4).2.2.1.1
    have:i = k:=by omega
    subst this
    omega
structure VoidsAre (b:Book) (V:List Int):Prop where
 iff:∀ i:Nat,i < b.ps.length → ((i:Int) ∈ V ↔ i ∈ b.fresh (b.payAt i).day)
 of:∀ x ∈ V,∃ i:Nat,x = i ∧ i < b.ps.length ∧ (b.payAt i).kind = 2
 nd:V.Nodup
theorem voids_are {b:Book} (hv:Valid b):VoidsAre b (b.after 9999).voids:=by
 obtain ⟨h1,h2,h3⟩:=voidsTo hv 10000
 have e:((10000:Nat):Int) - 1 = 9999:=rfl
 rw [e] at h1 h2 h3
 refine ⟨fun i hi => ⟨fun q => ?_,fun q => ?_⟩,fun x hx => ?_,h3⟩
 ·obtain ⟨k,g1,g2,-⟩:=h1 _ q
  have:i = k:=by omega
  subst this;exact g2
 ·have hp:=hv.p _ (hv.pay hi)
  exact h2 i q hp.2.1 (by omega)
 ·obtain ⟨i,g1,g2,-⟩:=h1 _ hx
  have:=mem_fresh g2
  exact ⟨i,g1,this.2.1,this.2.2.1.2⟩
theorem VoidsAre.perm {b:Book} {V V':List Int} (h:VoidsAre b V) (hp:V.Perm V'):VoidsAre b V':=
 ⟨fun i hi => by rw [← hp.mem_iff];exact h.iff i hi,fun x hx => h.of x (hp.mem_iff.2 hx),hp.nodup_iff.1 h.nd⟩
theorem few_len:∀ (n:Nat) (V:List Int),V.Nodup → (∀ x ∈ V,0 ≤ x ∧ x < n) → V.length ≤ n
 | 0,V,_,h => by
  cases V with
  | nil => exact Nat.le_refl _
  | cons x V => have:=h x (by simp);omega
 | n + 1,V,hn,h => by
  have ih:=few_len n (V.erase (n:Int)) (hn.erase _) fun x hx => by
   have hm:=(List.Nodup.mem_erase_iff hn).1 hx
   have:=h x hm.2
   have:=hm.1
   omega
  have:=List.length_erase (a:=(n:Int)) (l:=V)
  split at this <;> omega
theorem VoidsAre.len {b:Book} {V:List Int} (h:VoidsAre b V):V.length ≤ b.ps.length:=
 few_len _ V h.nd fun x hx => by
  obtain ⟨i,rfl,h1,-⟩:=h.of x hx
  omega
def Book.without (b:Book) (V:List Int) (j:Nat):List Pay:=((List.range j).filter fun i:Nat => decide ((i:Int) ∉ V)).map b.payAt
theorem Book.without_out {b:Book} {V:List Int} {j:Nat} (h:(j:Int) ∈ V):b.without V (j + 1) = b.without V j:=by
 unfold Book.without;rw [List.range_succ,List.filter_append];simp [h]
theorem Book.without_in {b:Book} {V:List Int} {j:Nat} (h:(j:Int) ∉ V):b.without V (j + 1) = b.without V j ++ [b.payAt j]:=by
 unfold Book.without;rw [List.range_succ,List.filter_append];simp [h]
theorem take_payAt {b:Book} {j:Nat} (hj:j < b.ps.length):b.ps.take (j + 1) = b.ps.take j ++ [b.payAt j]:=by
 have e:b.ps[j]? = some (b.payAt j):=by simp [Book.payAt,hj]
 rw [List.take_add_one,e];rfl
section
variable {b:Book} {V:List Int} (hv:Valid b) (hV:VoidsAre b V)
include hv hV
theorem without_in_filter (d:Int):∀ j,j ≤ b.ps.length → (b.without V j).filter (inOn d) = (b.ps.take j).filter (inOn d)
 | 0,_ => by simp [Book.without]
 | j + 1,hj => by
  have ih:=without_in_filter d j (by omega)
  rw [take_payAt (show j < b.ps.length by omega),List.filter_append,← ih]
  by_cases h:(j:Int) ∈ V
  ·rw [Book.without_out h]
   obtain ⟨i,h1,-,h2⟩:=hV.of _ h
   have:j = i:=by omega
   subst this
   rw [show [b.payAt j].filter (inOn d) = [] from by simp [inOn,h2],List.append_nil]
  ·rw [Book.without_in h,List.filter_append]
theorem without_fold (d:Int):∀ j,j ≤ b.ps.length → (b.without V j).foldl (mvsP b d) ((b.after (d - 1)).pre b d).nov = (b.ps.take j).foldl (mvsP b d) ((b.after (d - 1)).pre b d).nov
 | 0,_ => by simp [Book.without]
 | j + 1,hj => by
  have ih:=without_fold d j (by omega)
  have hi:=iter_fold b (mvs1_P b d) ((b.after (d - 1)).pre b d) j (by omega)
  rw [take_payAt (show j < b.ps.length by omega),List.foldl_append,← ih]
  by_cases h:(j:Int) ∈ V
  ·rw [Book.without_out h,List.foldl_cons,List.foldl_nil]
   rw [← ih] at hi
   generalize (b.without V j).foldl (mvsP b d) ((b.after (d - 1)).pre b d).nov = T at *
   unfold mvsP
   by_cases hd:(b.payAt j).day = d ∧ (b.payAt j).kind = 2
   ·rw [if_pos hd]
    have hf:=(hV.iff j (by omega)).1 h
    rw [hd.1] at hf
    have hn:=(mem_fresh hf).2.2.2
    have hn':¬ okP (b.payAt j) (iter (St.mvs1 b d) j ((b.after (d - 1)).pre b d)).nov:=hn
    rw [hi] at hn'
    unfold mvP
    rw [if_neg hn']
   ·rw [if_neg hd]
  ·rw [Book.without_in h,List.foldl_append]
theorem without_ok (d:Int):∀ j,j ≤ b.ps.length → ∀ L1 p L2,b.without V j = L1 ++ p :: L2 → p.day = d → p.kind = 2 → okP p (L1.foldl (mvsP b d) ((b.after (d - 1)).pre b d).nov)
 | 0,_,L1,p,L2,he,_,_ => by simp [Book.without] at he
 | j + 1,hj,L1,p,L2,he,hd,hk => by
  have ih:=without_ok d j (by omega)
  by_cases h:(j:Int) ∈ V
  ·rw [Book.without_out h] at he
   exact ih L1 p L2 he hd hk
  ·rw [Book.without_in h] at he
   rcases List.eq_nil_or_concat L2 with rfl | ⟨L3,q,rfl⟩
   ·have hz:=List.append_inj' he rfl
    have hp:b.payAt j = p:=by simpa using hz.2
    subst hp
    rw [← hz.1,without_fold hv hV d j (by omega)]
    have hi:=iter_fold b (mvs1_P b d) ((b.after (d - 1)).pre b d) j (by omega)
    rw [← hi]
    refine Decidable.byContradiction fun hn => h ((hV.iff j (by omega)).2 ?_)
    unfold Book.fresh
    rw [if_pos (hv.pay_ev (show j < b.ps.length by omega))]
    refine List.mem_filter.2 ⟨List.mem_range.2 (by omega),?_⟩
    rw [decide_eq_true_eq,hd]
    exact ⟨⟨hd,hk⟩,hn⟩
   ·have hz:b.without V j ++ [b.payAt j] = (L1 ++ p :: L3) ++ [q]:=by rw [he];simp
    exact ih L1 p L3 (List.append_inj' hz rfl).1 hd hk
end
theorem pre_nov (b:Book) (d:Int) (s:St):(s.pre b d).nov = (b.ps.foldl (insP b d) (s.nov.lapse b d)).keep b d:=by
 unfold St.pre
 rw [keep_nov,ins_fold,lapse_nov]
theorem after_dayP' {b:Book} (hv:Valid b):∀ m:Nat,(b.after (m:Int)).nov = dayP b b.ps m (b.after ((m:Int) - 1)).nov
 | 0 => by
  have h:=after_dayP0 hv
  have e:b.after (((0:Nat):Int) - 1) = St.init:=hv.after_zero
  rw [e];exact h
 | m + 1 => by
  have h:=after_dayP hv m
  rw [show (((m + 1:Nat):Int) - 1) = m by omega];exact h
theorem failed_nil {b:Book} {d:Int} {u:St} (h:∀ i,i < b.ps.length → ¬ failing b d i (iter (St.mvs1 b d) i u)):failed b d u b.ps.length = []:=by
 unfold failed
 exact List.filter_eq_nil_iff.2 fun i hi => by simpa using h i (List.mem_range.1 hi)
theorem idle_are {b:Book} {V:List Int} (hv:Valid b) (hV:VoidsAre b V) (hv':Valid { b with ps:=b.without V b.ps.length }):∀ m:Nat,
  (b.after ((m:Int) - 1)).nov = (Book.after { b with ps:=b.without V b.ps.length } ((m:Int) - 1)).nov ∧ (Book.after { b with ps:=b.without V b.ps.length } ((m:Int) - 1)).voids = []
 | 0 => by
  have e1:b.after (((0:Nat):Int) - 1) = St.init:=hv.after_zero
  have e2:Book.after { b with ps:=b.without V b.ps.length } (((0:Nat):Int) - 1) = St.init:=hv'.after_zero
  rw [e1,e2];exact ⟨rfl,rfl⟩
 | m + 1 => by
  obtain ⟨ih1,ih2⟩:=idle_are hv hV hv' m
  have hd1:=after_dayP' hv m
  have hd2:=after_dayP' hv' m
  have hp1:=pre_nov b (m:Int) (b.after ((m:Int) - 1))
  have hp2:=pre_nov { b with ps:=b.without V b.ps.length } (m:Int) (Book.after { b with ps:=b.without V b.ps.length } ((m:Int) - 1))
  have hin:∀ s,(b.without V b.ps.length).foldl (insP b m) s = b.ps.foldl (insP b m) s:=fun s => by
   rw [ins_filter,without_in_filter hv hV m _ (Nat.le_refl _),List.take_length,← ins_filter]
  have hpre:(St.pre { b with ps:=b.without V b.ps.length } (m:Int) (Book.after { b with ps:=b.without V b.ps.length } ((m:Int) - 1))).nov = ((b.after ((m:Int) - 1)).pre b m).nov:=by
   rw [hp1,hp2,← ih1]
   show ((b.without V b.ps.length).foldl (insP b m) _).keep b m = _
   rw [hin]
   rfl
  have e1:((m + 1:Nat):Int) - 1 = m:=by omega
  rw [e1]
  refine ⟨?_,?_⟩
  ·rw [hd1,hd2,← ih1]
   show dayP b b.ps m _ = dayP b (b.without V b.ps.length) m _
   have hw:=without_fold hv hV m _ (Nat.le_refl b.ps.length)
   rw [List.take_length,hp1] at hw
   unfold dayP
   rw [hin,hw]
  ·rw [after_vds,ih2]
   unfold Book.fresh
   split
   ·rw [failed_nil fun i hi => ?_]
    ·rfl
    ·rintro ⟨⟨h1,h2⟩,h3⟩
     refine h3 ?_
     have hi':i < (b.without V b.ps.length).length:=hi
     have hi2:=iter_fold { b with ps:=b.without V b.ps.length } (mvs1_P { b with ps:=b.without V b.ps.length } m) (St.pre { b with ps:=b.without V b.ps.length } (m:Int) (Book.after { b with ps:=b.without V b.ps.length } ((m:Int) - 1))) i (Nat.le_of_lt hi)
     have hsplit:b.without V b.ps.length = (b.without V b.ps.length).take i ++ Book.payAt { b with ps:=b.without V b.ps.length } i :: (b.without V b.ps.length).drop (i + 1):=by
      have:Book.payAt { b with ps:=b.without V b.ps.length } i = (b.without V b.ps.length)[i]:=by simp [Book.payAt,hi']
      rw [this,List.getElem_cons_drop,List.take_append_drop]
     have hok:=without_ok hv hV m _ (Nat.le_refl b.ps.length) _ _ _ hsplit h1 h2
     rw [← hpre] at hok
     have hok':okP (Book.payAt { b with ps:=b.without V b.ps.length } i) (iter (St.mvs1 { b with ps:=b.without V b.ps.length } m) i (St.pre { b with ps:=b.without V b.ps.length } (m:Int) (Book.after { b with ps:=b.without V b.ps.length } ((m:Int) - 1)))).nov:=by
      rw [hi2];exact hok
     exact hok'
   ·rfl
def RBook.without (b:RBook) (V:List Int) (j:Nat):List RPay:=((List.range j).filter fun i:Nat => decide ((i:Int) ∉ V)).map b.payAt
theorem RBook.without_out {b:RBook} {V:List Int} {j:Nat} (h:(j:Int) ∈ V):b.without V (j + 1) = b.without V j:=by
 unfold RBook.without;rw [List.range_succ,List.filter_append];simp [h]
theorem RBook.without_in {b:RBook} {V:List Int} {j:Nat} (h:(j:Int) ∉ V):b.without V (j + 1) = b.without V j ++ [b.payAt j]:=by
 unfold RBook.without;rw [List.range_succ,List.filter_append];simp [h]
theorem without_len1 {b:RBook} {V:List Int} {j:Nat} (h:(j:Int) ∉ V):(b.without V (j + 1)).length = (b.without V j).length + 1:=by
 rw [RBook.without_in h];simp
theorem RBook.without_length (b:RBook) (V:List Int) (j:Nat):(b.without V j).length ≤ j:=by
 unfold RBook.without
 rw [List.length_map]
 exact Nat.le_trans (List.length_filter_le _ _) (by simp)
theorem without_to (b:RBook) (V:List Int):∀ j,j ≤ b.ps.length → (b.without V j).map RPay.to = b.to.without V j
 | 0,_ => rfl
 | j + 1,hj => by
  have ih:=without_to b V j (by omega)
  by_cases h:(j:Int) ∈ V
  ·rw [RBook.without_out h,Book.without_out h,ih]
  ·rw [RBook.without_in h,Book.without_in h,List.map_append,ih,to_payAt (show j < b.ps.length by omega)];rfl
theorem without_right {b:RBook} (hR:b.Right) (V:List Int):RBook.Right { b with ps:=b.without V b.ps.length }:=
 hR.pays (fun p hp => by
  obtain ⟨i,hi,rfl⟩:=List.mem_map.1 hp
  have:=List.mem_range.1 (List.mem_filter.1 hi).1
  rw [payAt_get this];exact List.getElem_mem this) (Nat.le_trans (b.without_length V _) hR.np)
theorem idle_of {b:RBook} (hR:b.Right) {V:List Int} (hV:VoidsAre b.to V):(∀ n:Nat,SameOn b.to (RBook.to { b with ps:=b.without V b.ps.length }) n) ∧ ((RBook.to { b with ps:=b.without V b.ps.length }).after 9999).voids = []:=by
 have e:RBook.to { b with ps:=b.without V b.ps.length } = { b.to with ps:=b.to.without V b.to.ps.length }:=by
  rw [to_pslen,← without_to b V _ (Nat.le_refl _)];rfl
 have hv':=(without_right hR V).full.v
 rw [e] at hv' ⊢
 refine ⟨fun n => ?_,?_⟩
 ·have h:=(idle_are hR.full.v hV hv' (n + 1)).1
  rw [show ((n + 1:Nat):Int) - 1 = n by omega] at h
  exact (Alike.of h).same
 ·exact (idle_are hR.full.v hV hv' 10000).2
theorem ltI_eq (x y:Int):ltI x y = decide (x < y):=by
 unfold ltI cmpI
 by_cases h:x < y
 ·simp [h]
 ·by_cases h2:y < x <;> simp [h,h2]
theorem swo_ltI:Sort.SWO ltI where
 irrefl:=fun x => by rw [ltI_eq];simp
 trans:=fun x y z h1 h2 => by rw [ltI_eq,decide_eq_true_eq] at *;omega
 ntrans:=fun x y z h1 h2 => by rw [ltI_eq,decide_eq_false_iff_not] at *;omega
theorem sortI_perm (xs:List Int):xs.Perm (sortI xs):=by
 have h:=(Sort.insertionSort_holds (lt:=ltI) swo_ltI xs.toArray 0 xs.length (Nat.zero_le _) (by simp)).1
 unfold sortI
 generalize Sort.insertionSort ltI xs.toArray 0 xs.length = A at *
 obtain ⟨h1,-,h3⟩:=h
 have hz:xs.length = A.size:=by rw [h1];simp
 have e2:(xs.toArray.extract 0 xs.length) = xs.toArray:=by simp
 rw [e2,hz,Array.extract_size] at h3
 exact h3.symm
theorem sortI_sorted (xs:List Int) (hn:xs.Nodup):(sortI xs).Pairwise (· < ·):=by
 have h:=(Sort.insertionSort_holds (lt:=ltI) swo_ltI xs.toArray 0 xs.length (Nat.zero_le _) (by simp)).2
 have hd:=(sortI_perm xs).nodup_iff.1 hn
 have hz:=sortI_length xs
 unfold sortI at *
 generalize Sort.insertionSort ltI xs.toArray 0 xs.length = A at *
 rw [List.pairwise_iff_getElem]
 intro i j hi hj hij
 have hi':i < A.size:=by simpa using hi
 have hj':j < A.size:=by simpa using hj
 have:=h i j (Nat.zero_le _) hij (by rw [Array.length_toList] at hz;omega)
 rw [getElem!_pos A i hi',getElem!_pos A j hj',ltI_eq,decide_eq_false_iff_not] at this
 have hne:A.toList[i] ≠ A.toList[j]:=List.pairwise_iff_getElem.1 hd i j hi hj hij
 simp only [Array.getElem_toList] at hne ⊢
 omega
end Go.Proofs.YtnkejaohnhpbpaaGreatDoor
