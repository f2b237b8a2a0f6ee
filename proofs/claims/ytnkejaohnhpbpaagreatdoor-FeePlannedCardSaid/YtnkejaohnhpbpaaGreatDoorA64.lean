/- An append and where its list lies; lists that lie in older memory, or in newer. -/
import Derived.Maps.AppendAt
import Derived.Sort.LotA
import Derived.Test.YtnkejaohnhpbpaaGreatDoorA20
import Derived.Test.YtnkejaohnhpbpaaGreatDoorA52
import Derived.Test.YtnkejaohnhpbpaaGreatDoorA53
import Derived.Test.YtnkejaohnhpbpaaGreatDoorA63
set_option linter.all false
section
namespace Go.Proofs.YtnkejaohnhpbpaaGreatDoor
open Go Go.RowKit Lift
def SeqN (N:Nat) (w:World) (v:Value) (xs:List Int):Prop:=∃ base off cap,v = .slice base xs.length cap ∧ ∀ i,i < xs.length → ∃ B,base = some ⟨B,off,none⟩ ∧ B < N ∧ w.cell? ⟨B,off + i,none⟩ = some (.int .i64 (xs.getD i 0))
section
variable {N M:Nat} {w w':World} {v:Value} {xs:List Int}
theorem SeqAt.n (h:SeqAt w v xs):SeqN w.heap.size w v xs:=h
theorem SeqN.at (h:SeqN N w v xs) (hN:N ≤ w.heap.size):SeqAt w v xs:=by
 obtain ⟨b,o,c,e,h⟩:=h;exact ⟨b,o,c,e,fun i hi => let ⟨B,h1,h2,h3⟩:=h i hi;⟨B,h1,Nat.lt_of_lt_of_le h2 hN,h3⟩⟩
theorem SeqN.grow (h:SeqN N w v xs) (hg:Grow M w w') (hN:N ≤ M):SeqN N w' v xs:=by
 obtain ⟨b,o,c,e,h⟩:=h;refine ⟨b,o,c,e,fun i hi => let ⟨B,h1,h2,h3⟩:=h i hi;⟨B,h1,h2,?_⟩⟩;unfold World.cell? at h3 ⊢;rw [hg.block B (Nat.lt_of_lt_of_le h2 hN)];exact h3
theorem SeqN.same (h:SeqN N w v xs) (hs:SameW w w'):SeqN N w' v xs:=by
 obtain ⟨b,o,c,e,h⟩:=h;refine ⟨b,o,c,e,fun i hi => let ⟨B,h1,h2,h3⟩:=h i hi;⟨B,h1,h2,?_⟩⟩;unfold World.cell? at h3 ⊢;rw [hs.heap];exact h3
theorem SeqN.poke (h:SeqN N w v xs) {BO j:Nat} {u:Value} (hB:N ≤ BO):SeqN N (w.setCell ⟨BO,j,none⟩ u) v xs:=h.grow (M:=N) (Grow.of ((Below.refl N w).setCell (p:=⟨BO,j,none⟩) hB u)) (Nat.le_refl _)
end
end Go.Proofs.YtnkejaohnhpbpaaGreatDoor
end
section
namespace Go.Proofs.YtnkejaohnhpbpaaGreatDoor
open Go Go.RowKit Lift
theorem hasInt40_in (xs:List Int) (v:Value) (x:Int) (w:World) (h:SeqAt w v xs) (hn:xs.length < 1000000) :
  CallsIn Fz 0 Tryz.prog 40 #[v,.int .i64 x] w fun e w' => e = .returned (.bool (decide (x ∈ xs))) ∧ w' = w:=by
 obtain ⟨base,off,cap,rfl,h2⟩:=h;gi_enter Tryz.func40,Tryz.ntmps40
 gi_wp2;gi_loopw [5] (fun i wr => wr = w ∧ ∃ k:Nat,k ≤ xs.length ∧ i = .int .i64 k ∧ ∀ j,j < k → xs.getD j 0 ≠ x) (fun i _ => xs.length - (intOf i).toNat)
 case atStart => exact ⟨rfl,0,Nat.zero_le _,rfl,fun j hj => absurd hj (by omega)⟩
 case round =>
  obtain ⟨rfl,k,hk,rfl,hno⟩:=hrel;by_cases hlt:k < xs.length
  ·obtain ⟨B,rfl,h4,h5⟩:=h2 k hlt;by_cases he:xs.getD k 0 = x
   ·have hm:x ∈ xs:=by rw [← he];simp [hlt]
    rw [he] at h5;have HM:=Lib.hid hm;clear hm he hno;gi_wp2;go_ret;exact ⟨by rw [decide_eq_true HM.out];rfl,rfl⟩
   ·obtain ⟨y,hy⟩:∃ y,xs.getD k 0 = y:=⟨_,rfl⟩
    rw [hy] at h5 he;have hyx:(y == x) = false:=by simp [he]
    have HY:=Lib.hid hy;have HN:=Lib.hid hno;have HE:=Lib.hid he;clear hy hno he;gi_wp2;go_roundw
    case rel =>
     refine ⟨by trivial,k + 1,by omega,by go_num,fun j hj => ?_⟩;by_cases e:j = k
     ·subst e;rw [HY.out];exact HE.out
     ·exact HN.out j (by omega)
    case measure => simp [intOf];omega
  ·obtain rfl:k = xs.length:=by omega
   have HN:=Lib.hid hno;clear hno;gi_wp2;go_ret;have hd:decide (x ∈ xs) = false:=decide_eq_false fun hm => by
    obtain ⟨j,hj,e⟩:=List.mem_iff_getElem.1 hm;exact absurd (by simp [hj,e]) (HN.out j hj)
   exact ⟨by rw [hd];rfl,rfl⟩
set_option maxHeartbeats 4000000 in
theorem coinOf_in {N:Nat} {l:Lay} {b:RBook} {w:World} (hbk:RBkAt N l b w) (hR:b.Right) {c:Nat} (hc:c < b.cs.length) :
  CallsIn Fz 0 Tryz.prog 36 #[.agg (l.rarr b),.int .i64 c] w fun e w' => e = .returned (.int .i64 (b.to.coin c)) ∧ Below w.heap.size w w':=by
 have hk:=hR.k _ (List.getElem_mem hc);obtain ⟨t,ht⟩:∃ t:Nat,b.cs[c].tar = t:=⟨b.cs[c].tar.toNat,by omega⟩
 have htl:t < b.ts.length:=by omega
 have hT:=hR.t _ (List.getElem_mem htl);obtain ⟨co,hco⟩:∃ co:Nat,b.ts[t].coin = co:=⟨b.ts[t].coin.toNat,by omega⟩
 have hcoin:b.to.coin c = co:=by
  simp only [Book.coin,Book.tarOf,RBook.to,List.getD_eq_getElem?_getD,List.getElem?_map,List.getElem?_eq_getElem hc,Option.map_some,Option.getD_some,RCas.to,ht,Int.toNat_natCast,List.getElem?_eq_getElem htl,RTrf.to,hco]
 obtain ⟨kb,ko,e1,e2,e3⟩:=hbk.ks c b.cs[c].row (by rw [List.getElem?_map,List.getElem?_eq_getElem hc];rfl);obtain ⟨tb,to,f1,f2,f3⟩:=hbk.ts t b.ts[t].row (by rw [List.getElem?_map,List.getElem?_eq_getElem htl];rfl);have c1:=e3 1 _ rfl;have d1:=f3 1 _ rfl;rw [ht] at c1;rw [hco] at d1;rw [hcoin];have hkb:kb < w.heap.size:=Nat.lt_of_lt_of_le e2 hbk.hN;have htb:tb < w.heap.size:=Nat.lt_of_lt_of_le f2 hbk.hN;have hnt:=hR.nt;have hnk:=hR.nk;have hcI:(c:Int) < b.cs.length:=by omega
 have htI:(t:Int) < b.ts.length:=by omega
 clear e3 f3 hk hT hcoin ht hco;simp only [Lay.rarr,e1,f1];gi_enter Tryz.func36,Tryz.ntmps36
 gi_wp2_with fail
 gi_big_quiet_th (fail)
 gi_wp2;go_ret;exact ⟨rfl,((Below.refl _ w).alloc (Nat.le_refl _) _).trans ((below_drewN _ nq).mono (by simp))⟩
end Go.Proofs.YtnkejaohnhpbpaaGreatDoor
end
section
namespace Go.Proofs.YtnkejaohnhpbpaaGreatDoor
open Go Go.RowKit Lift
def failing (b:Book) (d:Int) (i:Nat) (s:St):Prop:=((b.payAt i).day = d ∧ (b.payAt i).kind = 2) ∧ ¬ St.mvOk b i s
instance (b:Book) (d:Int) (i:Nat) (s:St):Decidable (failing b d i s):=by unfold failing;exact inferInstance
theorem iter_vds {f:Nat → St → St} (h:∀ c s,(f c s).voids = s.voids):∀ k s,(iter f k s).voids = s.voids
 | 0,_ => rfl
 | k + 1,s => (h k _).trans (iter_vds h k s)
theorem lapse_vds (b:Book) (d:Int) (s:St):(s.lapse b d).voids = s.voids:=iter_vds (fun c s => by unfold St.lapse1;split <;> rfl) _ _
theorem keep_vds (b:Book) (d:Int) (s:St):(s.keep b d).voids = s.voids:=iter_vds (fun c s => by unfold St.keep1;split <;> rfl) _ _
theorem ins_vds (b:Book) (d:Int) (s:St):(s.ins b d).voids = s.voids:=iter_vds (fun i s => by
 unfold St.ins1;split
 ·split
  ·rfl
  ·unfold St.inn;split <;> rfl
 ·rfl) _ _
theorem mvs1_vds (b:Book) (d:Int) (i:Nat) (s:St):(St.mvs1 b d i s).voids = if failing b d i s then s.voids ++ [(i:Int)] else s.voids:=by
 by_cases hf:failing b d i s
 ·rw [if_pos hf];unfold St.mvs1 St.mv;rw [if_pos hf.1,if_neg hf.2]
 ·rw [if_neg hf];unfold St.mvs1;by_cases h:(b.payAt i).day = d ∧ (b.payAt i).kind = 2
  ·rw [if_pos h];unfold St.mv;by_cases h2:St.mvOk b i s
   ·rw [if_pos h2,keep_vds];rfl
   ·exact absurd ⟨h,h2⟩ hf
  ·rw [if_neg h]
def St.pre (b:Book) (d:Int) (s:St):St:=((s.lapse b d).ins b d).keep b d
def failed (b:Book) (d:Int) (u:St) (k:Nat):List Nat:=(List.range k).filter fun i => decide (failing b d i (iter (St.mvs1 b d) i u))
theorem iter_failed (b:Book) (d:Int) (u:St):∀ k,(iter (St.mvs1 b d) k u).voids = u.voids ++ (failed b d u k).map fun i:Nat => (i:Int)
 | 0 => by simp [iter,failed]
 | k + 1 => by
  have ih:=iter_failed b d u k;rw [iter,mvs1_vds,ih];unfold failed;rw [List.range_succ,List.filter_append,List.map_append];by_cases h:failing b d k (iter (St.mvs1 b d) k u)
  ·rw [if_pos h];simp [h]
  ·rw [if_neg h];simp [h]
theorem day1_vds (b:Book) (d:Int) (s:St):(St.day1 b s d).voids = s.voids ++ (failed b d (s.pre b d) b.ps.length).map fun i:Nat => (i:Int):=by
 have:=iter_failed b d (s.pre b d) b.ps.length;unfold St.day1 St.mvs;rw [show ((s.lapse b d).ins b d).keep b d = s.pre b d from rfl,this]
 congr 1
 unfold St.pre;rw [keep_vds,ins_vds,lapse_vds]
def Book.fresh (b:Book) (d:Int):List Nat:=if d ∈ b.evdays then failed b d ((b.after (d - 1)).pre b d) b.ps.length else []
theorem after_vds (b:Book) (d:Int):(b.after d).voids = (b.after (d - 1)).voids ++ (b.fresh d).map fun i:Nat => (i:Int):=by
 have h:=b.after_succ (d - 1);rw [show d - 1 + 1 = d by omega] at h;unfold Book.fresh;by_cases hd:d ∈ b.evdays
 ·rw [if_pos hd] at h ⊢;rw [h,day1_vds]
 ·rw [if_neg hd] at h ⊢;rw [h];simp
theorem mem_fresh {b:Book} {d:Int} {i:Nat} (h:i ∈ b.fresh d):d ∈ b.evdays ∧ i < b.ps.length ∧ failing b d i (iter (St.mvs1 b d) i ((b.after (d - 1)).pre b d)):=by
 unfold Book.fresh at h;by_cases hd:d ∈ b.evdays
 ·rw [if_pos hd] at h;have:=List.mem_filter.1 h;exact ⟨hd,List.mem_range.1 this.1,by simpa using this.2⟩
 ·rw [if_neg hd] at h;simp at h
theorem fresh_nodup (b:Book) (d:Int):(b.fresh d).Nodup:=by
 unfold Book.fresh failed;split
 ·exact List.Pairwise.filter _ List.nodup_range
 ·exact List.nodup_nil
structure VoidsTo (b:Book) (m:Nat):Prop where
 of:∀ x ∈ (b.after ((m:Int) - 1)).voids,∃ i:Nat,x = i ∧ i ∈ b.fresh (b.payAt i).day ∧ (b.payAt i).day < m
 to:∀ i:Nat,i ∈ b.fresh (b.payAt i).day → 0 ≤ (b.payAt i).day → (b.payAt i).day < m → (i:Int) ∈ (b.after ((m:Int) - 1)).voids
 nd:(b.after ((m:Int) - 1)).voids.Nodup
theorem voidsTo {b:Book} (hv:Valid b):∀ m,VoidsTo b m
 | 0 => by
  have e:b.after (((0:Nat):Int) - 1) = St.init:=hv.after_zero;refine ⟨?_,fun i _ h0 h1 => ?_,?_⟩
  ·rw [e];intro x hx;exact absurd hx (List.not_mem_nil)
  ·omega
  ·rw [e];exact List.nodup_nil
 | m + 1 => by
  have ih:=voidsTo hv m;have e:=after_vds b (m:Int);have e1:((m + 1:Nat):Int) - 1 = m:=by omega
  refine ⟨fun x hx => ?_,fun i hi h0 h1 => ?_,?_⟩
  ·rw [e1,e] at hx;rcases List.mem_append.1 hx with hx | hx
   ·obtain ⟨i,h1,h2,h3⟩:=ih.of x hx;exact ⟨i,h1,h2,by omega⟩
   ·obtain ⟨i,h1,rfl⟩:=List.mem_map.1 hx;have hd:=(mem_fresh h1).2.2.1.1;exact ⟨i,rfl,by rw [hd];exact h1,by omega⟩
  ·rw [e1,e];by_cases hd:(b.payAt i).day = m
   ·rw [hd] at hi;exact List.mem_append_right _ (List.mem_map.2 ⟨i,hi,rfl⟩)
   ·exact List.mem_append_left _ (ih.to i hi h0 (by omega))
  ·rw [e1,e];refine List.nodup_append.2 ⟨ih.nd,?_,?_⟩
   ·have h:=fresh_nodup b (m:Int);unfold List.Nodup at h ⊢;exact List.pairwise_map.2 (h.imp fun hne e => hne (by omega))
   ·intro x hx y hy e;obtain ⟨i,h1,h2,h3⟩:=ih.of x hx;obtain ⟨k,h4,rfl⟩:=List.mem_map.1 hy;have hd:=(mem_fresh h4).2.2.1.1;have:i = k:=by omega
    subst this;omega
structure VoidsAre (b:Book) (V:List Int):Prop where
 iff:∀ i:Nat,i < b.ps.length → ((i:Int) ∈ V ↔ i ∈ b.fresh (b.payAt i).day)
 of:∀ x ∈ V,∃ i:Nat,x = i ∧ i < b.ps.length ∧ (b.payAt i).kind = 2
 nd:V.Nodup
theorem voids_are {b:Book} (hv:Valid b):VoidsAre b (b.after 9999).voids:=by
 obtain ⟨h1,h2,h3⟩:=voidsTo hv 10000;have e:((10000:Nat):Int) - 1 = 9999:=rfl;rw [e] at h1 h2 h3;refine ⟨fun i hi => ⟨fun q => ?_,fun q => ?_⟩,fun x hx => ?_,h3⟩
 ·obtain ⟨k,g1,g2,-⟩:=h1 _ q;have:i = k:=by omega
  subst this;exact g2
 ·have hp:=hv.p _ (hv.pay hi);exact h2 i q hp.2.1 (by omega)
 ·obtain ⟨i,g1,g2,-⟩:=h1 _ hx;have:=mem_fresh g2;exact ⟨i,g1,this.2.1,this.2.2.1.2⟩
theorem VoidsAre.perm {b:Book} {V V':List Int} (h:VoidsAre b V) (hp:V.Perm V'):VoidsAre b V':=
 ⟨fun i hi => by rw [← hp.mem_iff];exact h.iff i hi,fun x hx => h.of x (hp.mem_iff.2 hx),hp.nodup_iff.1 h.nd⟩
theorem few_len:∀ (n:Nat) (V:List Int),V.Nodup → (∀ x ∈ V,0 ≤ x ∧ x < n) → V.length ≤ n
 | 0,V,_,h => by
  cases V with
  | nil => exact Nat.le_refl _
  | cons x V => have:=h x (by simp);omega
 | n + 1,V,hn,h => by
  have ih:=few_len n (V.erase (n:Int)) (hn.erase _) fun x hx => by
   have hm:=(List.Nodup.mem_erase_iff hn).1 hx;have:=h x hm.2;have:=hm.1;omega
  have:=List.length_erase (a:=(n:Int)) (l:=V);split at this <;> omega
theorem VoidsAre.len {b:Book} {V:List Int} (h:VoidsAre b V):V.length ≤ b.ps.length:=
 few_len _ V h.nd fun x hx => by
  obtain ⟨i,rfl,h1,-⟩:=h.of x hx;omega
def Book.without (b:Book) (V:List Int) (j:Nat):List Pay:=((List.range j).filter fun i:Nat => decide ((i:Int) ∉ V)).map b.payAt
theorem take_payAt {b:Book} {j:Nat} (hj:j < b.ps.length):b.ps.take (j + 1) = b.ps.take j ++ [b.payAt j]:=by
 have e:b.ps[j]? = some (b.payAt j):=by simp [Book.payAt,hj]
 rw [List.take_add_one,e];rfl
section
variable {b:Book} {V:List Int} (hv:Valid b) (hV:VoidsAre b V)
include hv hV
end
theorem pre_nov (b:Book) (d:Int) (s:St):(s.pre b d).nov = (b.ps.foldl (insP b d) (s.nov.lapse b d)).keep b d:=by
 unfold St.pre;rw [keep_nov,ins_fold,lapse_nov]
theorem after_dayP' {b:Book} (hv:Valid b):∀ m:Nat,(b.after (m:Int)).nov = dayP b b.ps m (b.after ((m:Int) - 1)).nov
 | 0 => by
  have h:=after_dayP0 hv;have e:b.after (((0:Nat):Int) - 1) = St.init:=hv.after_zero;rw [e];exact h
 | m + 1 => by
  have h:=after_dayP hv m;rw [show (((m + 1:Nat):Int) - 1) = m by omega];exact h
def RBook.without (b:RBook) (V:List Int) (j:Nat):List RPay:=((List.range j).filter fun i:Nat => decide ((i:Int) ∉ V)).map b.payAt
theorem ltI_eq (x y:Int):ltI x y = decide (x < y):=by
 unfold ltI cmpI;by_cases h:x < y
 ·simp [h]
 ·by_cases h2:y < x <;> simp [h,h2]
theorem swo_ltI:Sort.SWO ltI where
 irrefl:=fun x => by rw [ltI_eq];simp
 trans:=fun x y z h1 h2 => by rw [ltI_eq,decide_eq_true_eq] at *;omega
 ntrans:=fun x y z h1 h2 => by rw [ltI_eq,decide_eq_false_iff_not] at *;omega
theorem sortI_perm (xs:List Int):xs.Perm (sortI xs):=by
 have h:=(Sort.insertionSort_holds (lt:=ltI) swo_ltI xs.toArray 0 xs.length (Nat.zero_le _) (by simp)).1;unfold sortI;generalize Sort.insertionSort ltI xs.toArray 0 xs.length = A at *;obtain ⟨h1,-,h3⟩:=h;have hz:xs.length = A.size:=by rw [h1];simp
 have e2:(xs.toArray.extract 0 xs.length) = xs.toArray:=by simp
 rw [e2,hz,Array.extract_size] at h3;exact h3.symm
end Go.Proofs.YtnkejaohnhpbpaaGreatDoor
end
