/- An append and where its list lies; lists that lie in older memory, or in newer. -/
import Derived.Maps.AppendAt
import Derived.Sort.LotA
import Derived.Test.YtnkejaohnhpbpaaGreatDoorA20
import Derived.Test.YtnkejaohnhpbpaaGreatDoorA52
import Derived.Test.YtnkejaohnhpbpaaGreatDoorA53
import Derived.Test.YtnkejaohnhpbpaaGreatDoorA63
set_option linter.all false
section
namespace Go.Proofs.YtnkejaohnhpbpaaGreatDoor
open Go Go.RowKit Lift
def SeqN (N:Nat) (w:World) (v:Value) (xs:List Int):Prop:=∃ base off cap,v = .slice base xs.length cap ∧ ∀ i,i < xs.length → ∃ B,base = some ⟨B,off,none⟩ ∧ B < N ∧ w.cell? ⟨B,off + i,none⟩ = some (.int .i64 (xs.getD i 0))
section
variable {N M:Nat} {w w':World} {v:Value} {xs:List Int}
theorem SeqAt.n (h:SeqAt w v xs):SeqN w.heap.size w v xs:=h
theorem SeqN.at (h:SeqN N w v xs) (hN:N ≤ w.heap.size):SeqAt w v xs:=by
 obtain ⟨b,o,c,e,h⟩:=h;exact ⟨b,o,c,e,fun i hi => let ⟨B,h1,h2,h3⟩:=h i hi;⟨B,h1,Nat.lt_of_lt_of_le h2 hN,h3⟩⟩
theorem SeqN.grow (h:SeqN N w v xs) (hg:Grow M w w') (hN:N ≤ M):SeqN N w' v xs:=by
 obtain ⟨b,o,c,e,h⟩:=h;refine ⟨b,o,c,e,fun i hi => let ⟨B,h1,h2,h3⟩:=h i hi;⟨B,h1,h2,?_⟩⟩;unfold World.cell? at h3 ⊢;rw [hg.block B (Nat.lt_of_lt_of_le h2 hN)];exact h3
theorem SeqN.same (h:SeqN N w v xs) (hs:SameW w w'):SeqN N w' v xs:=by
 obtain ⟨b,o,c,e,h⟩:=h;refine ⟨b,o,c,e,fun i hi => let ⟨B,h1,h2,h3⟩:=h i hi;⟨B,h1,h2,?_⟩⟩;unfold World.cell? at h3 ⊢;rw [hs.heap];exact h3
theorem SeqN.poke (h:SeqN N w v xs) {BO j:Nat} {u:Value} (hB:N ≤ BO):SeqN N (w.setCell ⟨BO,j,none⟩ u) v xs:=h.grow (M:=N) (Grow.of ((Below.refl N w).setCell (p:=⟨BO,j,none⟩) hB u)) (Nat.le_refl _)
end
theorem owns_gr {w w':World} {N:Nat} {e:TypeId} {k n:Nat} {v:Value} {xs:List Value} (h:w.ownsRow N e k v n xs) (hg:Grow w.heap.size w w'):w'.ownsRow N e k v n xs:=ownsRow_of h fun g o _ hh => (hg.block g (Array.getElem?_eq_some_iff.1 hh).1).trans hh
end Go.Proofs.YtnkejaohnhpbpaaGreatDoor
end
section
namespace Go.Proofs.YtnkejaohnhpbpaaGreatDoor
open Go Go.RowKit Lift
set_option maxHeartbeats 4000000 in
theorem coinOf_in {N:Nat} {l:Lay} {b:RBook} {w:World} (hbk:RBkAt N l b w) (hR:b.Right) {c:Nat} (hc:c < b.cs.length) :
  CallsIn Fz 0 Tryz.prog 36 #[.agg (l.rarr b),.int .i64 c] w fun e w' => e = .returned (.int .i64 (b.to.coin c)) ∧ Below w.heap.size w w':=by
 have hk:=hR.k _ (List.getElem_mem hc);obtain ⟨t,ht⟩:∃ t:Nat,b.cs[c].tar = t:=⟨b.cs[c].tar.toNat,by omega⟩
 have htl:t < b.ts.length:=by omega
 have hT:=hR.t _ (List.getElem_mem htl);obtain ⟨co,hco⟩:∃ co:Nat,b.ts[t].coin = co:=⟨b.ts[t].coin.toNat,by omega⟩
 have hcoin:b.to.coin c = co:=by
  simp only [Book.coin,Book.tarOf,RBook.to,List.getD_eq_getElem?_getD,List.getElem?_map,List.getElem?_eq_getElem hc,Option.map_some,Option.getD_some,RCas.to,ht,Int.toNat_natCast,List.getElem?_eq_getElem htl,RTrf.to,hco]
 obtain ⟨kb,ko,e1,e2,e3⟩:=hbk.ks c b.cs[c].row (by rw [List.getElem?_map,List.getElem?_eq_getElem hc];rfl);obtain ⟨tb,to,f1,f2,f3⟩:=hbk.ts t b.ts[t].row (by rw [List.getElem?_map,List.getElem?_eq_getElem htl];rfl);have c1:=e3 1 _ rfl;have d1:=f3 1 _ rfl;rw [ht] at c1;rw [hco] at d1;rw [hcoin];have hkb:kb < w.heap.size:=Nat.lt_of_lt_of_le e2 hbk.hN;have htb:tb < w.heap.size:=Nat.lt_of_lt_of_le f2 hbk.hN;have hnt:=hR.nt;have hnk:=hR.nk;have hcI:(c:Int) < b.cs.length:=by omega
 have htI:(t:Int) < b.ts.length:=by omega
 clear e3 f3 hk hT hcoin ht hco;simp only [Lay.rarr,e1,f1];gi_enter Tryz.func36,Tryz.ntmps36
 gi_wp2_with fail
 gi_big_quiet_th (fail)
 gi_wp2;go_ret;exact ⟨rfl,((Below.refl _ w).alloc (Nat.le_refl _) _).trans ((below_drewN _ nq).mono (by simp))⟩
end Go.Proofs.YtnkejaohnhpbpaaGreatDoor
end
section
namespace Go.Proofs.YtnkejaohnhpbpaaGreatDoor
open Go Go.RowKit Lift
def failing (b:Book) (d:Int) (i:Nat) (s:St):Prop:=((b.payAt i).day = d ∧ (b.payAt i).kind = 2) ∧ ¬ St.mvOk b i s
instance (b:Book) (d:Int) (i:Nat) (s:St):Decidable (failing b d i s):=by unfold failing;exact inferInstance
def St.pre (b:Book) (d:Int) (s:St):St:=((s.lapse b d).ins b d).keep b d
def failed (b:Book) (d:Int) (u:St) (k:Nat):List Nat:=(List.range k).filter fun i => decide (failing b d i (iter (St.mvs1 b d) i u))
def Book.fresh (b:Book) (d:Int):List Nat:=if d ∈ b.evdays then failed b d ((b.after (d - 1)).pre b d) b.ps.length else []
structure VoidsTo (b:Book) (m:Nat):Prop where
 of:∀ x ∈ (b.after ((m:Int) - 1)).voids,∃ i:Nat,x = i ∧ i ∈ b.fresh (b.payAt i).day ∧ (b.payAt i).day < m
 to:∀ i:Nat,i ∈ b.fresh (b.payAt i).day → 0 ≤ (b.payAt i).day → (b.payAt i).day < m → (i:Int) ∈ (b.after ((m:Int) - 1)).voids
 nd:(b.after ((m:Int) - 1)).voids.Nodup
structure VoidsAre (b:Book) (V:List Int):Prop where
 iff:∀ i:Nat,i < b.ps.length → ((i:Int) ∈ V ↔ i ∈ b.fresh (b.payAt i).day)
 of:∀ x ∈ V,∃ i:Nat,x = i ∧ i < b.ps.length ∧ (b.payAt i).kind = 2
 nd:V.Nodup
theorem VoidsAre.perm {b:Book} {V V':List Int} (h:VoidsAre b V) (hp:V.Perm V'):VoidsAre b V':=
 ⟨fun i hi => by rw [← hp.mem_iff];exact h.iff i hi,fun x hx => h.of x (hp.mem_iff.2 hx),hp.nodup_iff.1 h.nd⟩
theorem few_len:∀ (n:Nat) (V:List Int),V.Nodup → (∀ x ∈ V,0 ≤ x ∧ x < n) → V.length ≤ n
 | 0,V,_,h => by
  cases V with
  | nil => exact Nat.le_refl _
  | cons x V => have:=h x (by simp);omega
 | n + 1,V,hn,h => by
  have ih:=few_len n (V.erase (n:Int)) (hn.erase _) fun x hx => by
   have hm:=(List.Nodup.mem_erase_iff hn).1 hx;have:=h x hm.2;have:=hm.1;omega
  have:=List.length_erase (a:=(n:Int)) (l:=V);split at this <;> omega
theorem VoidsAre.len {b:Book} {V:List Int} (h:VoidsAre b V):V.length ≤ b.ps.length:=
 few_len _ V h.nd fun x hx => by
  obtain ⟨i,rfl,h1,-⟩:=h.of x hx;omega
def Book.without (b:Book) (V:List Int) (j:Nat):List Pay:=((List.range j).filter fun i:Nat => decide ((i:Int) ∉ V)).map b.payAt
section
variable {b:Book} {V:List Int} (hv:Valid b) (hV:VoidsAre b V)
include hv hV
end
def RBook.without (b:RBook) (V:List Int) (j:Nat):List RPay:=((List.range j).filter fun i:Nat => decide ((i:Int) ∉ V)).map b.payAt
theorem ltI_eq (x y:Int):ltI x y = decide (x < y):=by
 unfold ltI cmpI;by_cases h:x < y
 ·simp [h]
 ·by_cases h2:y < x <;> simp [h,h2]
theorem swo_ltI:Sort.SWO ltI where
 irrefl:=fun x => by rw [ltI_eq];simp
 trans:=fun x y z h1 h2 => by rw [ltI_eq,decide_eq_true_eq] at *;omega
 ntrans:=fun x y z h1 h2 => by rw [ltI_eq,decide_eq_false_iff_not] at *;omega
theorem sortI_perm (xs:List Int):xs.Perm (sortI xs):=by
 have h:=(Sort.insertionSort_holds (lt:=ltI) swo_ltI xs.toArray 0 xs.length (Nat.zero_le _) (by simp)).1;unfold sortI;generalize Sort.insertionSort ltI xs.toArray 0 xs.length = A at *;obtain ⟨h1,-,h3⟩:=h;have hz:xs.length = A.size:=by rw [h1];simp
 have e2:(xs.toArray.extract 0 xs.length) = xs.toArray:=by simp
 rw [e2,hz,Array.extract_size] at h3;exact h3.symm
theorem sortI_sorted (xs:List Int) (hn:xs.Nodup):(sortI xs).Pairwise (· < ·):=by
 have h:=(Sort.insertionSort_holds (lt:=ltI) swo_ltI xs.toArray 0 xs.length (Nat.zero_le _) (by simp)).2;have hd:=(sortI_perm xs).nodup_iff.1 hn;have hz:=sortI_length xs;unfold sortI at *;generalize Sort.insertionSort ltI xs.toArray 0 xs.length = A at *;rw [List.pairwise_iff_getElem];intro i j hi hj hij;have hi':i < A.size:=by simpa using hi
 have hj':j < A.size:=by simpa using hj
 have:=h i j (Nat.zero_le _) hij (by rw [Array.length_toList] at hz;omega);rw [getElem!_pos A i hi',getElem!_pos A j hj',ltI_eq,decide_eq_false_iff_not] at this;have hne:A.toList[i] ≠ A.toList[j]:=List.pairwise_iff_getElem.1 hd i j hi hj hij;simp only [Array.getElem_toList] at hne ⊢;omega
end Go.Proofs.YtnkejaohnhpbpaaGreatDoor
end
