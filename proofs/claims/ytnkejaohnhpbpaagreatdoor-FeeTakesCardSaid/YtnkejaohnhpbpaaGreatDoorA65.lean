/- An append and where its list lies; lists that lie in older memory, or in newer. -/
import Derived.Maps.AppendAt
import Derived.Test.YtnkejaohnhpbpaaGreatDoorA52
import Derived.Test.YtnkejaohnhpbpaaGreatDoorA53
import Derived.Test.YtnkejaohnhpbpaaGreatDoorA64
set_option linter.all false
section
namespace Go.Proofs.YtnkejaohnhpbpaaGreatDoor
open Go Go.RowKit Lift
theorem append_pays_at {F:Fence} {n:Nat} {w:World} {o:Oper} {a:Act} {K:Act → World → Prop} {Q:Exit → Act → World → Prop} (s x:Operand) (hop:o.op = .call { callee:=.builtin .append,args:=#[s,x],argTypes:=#[25,25] })
  {base k:Nat} {v u:Value} {xs ys:List RPay} (hs:a.eval s = v) (hown:w.ownsRow base 56 5 v k (payCells xs)) (hx:a.eval x = u) (hy:PaysAt w u ys) (hk:k + ys.length ≤ 1000000) (hb:base ≤ w.heap.size)
  (hK:∀ v' w',w'.ownsRow base 56 5 v' (k + ys.length) (payCells (xs ++ ys)) → w.grownBy w' v.ownBlock → (v'.ownBlock = v.ownBlock ∨ v'.ownBlock = some w.heap.size) → K (a.put o.dst v') w'):o.wpIn F n Tryz.prog a w K Q:=by
 obtain ⟨i0,hi0,hz0,hz1,hz2⟩:=info_parts Tryz.infoP
 obtain ⟨b0,cap,rfl,hr⟩:=hy
 have fin:∀ v' w',(Builtin.append_ #[25,25] o.type #[v,.slice b0 ys.length cap]).run Tryz.prog w = .ok v' w' → K (a.put o.dst v') w' → o.wpIn F n Tryz.prog a w K Q:=fun v' w' hrun h => by
  unfold Oper.wpIn
  refine ⟨?_,?_⟩
  ·simp [Oper.about,hop,resolve,Target.leads,Sem.run_pure]
  ·rw [Oper.semAt_plain F _ _ (by rw [hop];intro c hc';cases hc')]
   simp [execOp,hop,resolve,invoke,builtin,hs,hx,hrun,Result.andThen]
   exact h
 rw [payCells_append] at hK
 cases b0 with
 | none =>
  have hnil:ys = []:=by
   cases ys with
   | nil => rfl
   | cons y ys => obtain ⟨_,_,e,_⟩:=hr 0 y.row rfl;cases e
  subst hnil
  refine fin _ _ (run_append_nilsrc Tryz.underlying25 hi0 hown) (hK v w ?_ ⟨rfl,rfl,rfl,Nat.le_refl _,fun _ _ _ => rfl⟩ (.inl rfl))
  simpa [payCells] using hown
 | some ad =>
  by_cases hne:ys = []
  ·subst hne
   obtain ⟨v',w',hrun,r1,r2,r3,r4⟩:=run_append_own_at (P:=Tryz.prog) w base 25 o.type 56 i0 _ 5 40 Tryz.underlying25 hi0 hz0 hz1 hz2 rfl (by decide) v k _ hown ad 0 cap [] rfl (fun j u h => by simp at h) (fun u h => by simp at h) (by unfold maxLen;simp at hk;omega) (by simp at hk;omega) hb
   refine fin v' w' hrun (hK v' w' ?_ r2 r4)
   simpa [payCells] using r1
  ·obtain ⟨v',w',hrun,r1,r2,r3,r4⟩:=run_append_own_at (P:=Tryz.prog) w base 25 o.type 56 i0 _ 5 40 Tryz.underlying25 hi0 hz0 hz1 hz2 rfl (by decide) v k _ hown ad ys.length cap (payCells ys) (payCells_length ys) (PaysAt.cells hr hne) (fun u h => payCells_one h) (by unfold maxLen;omega) (by omega) hb
   exact fin v' w' hrun (hK v' w' r1 r2 r4)
def SeqN (N:Nat) (w:World) (v:Value) (xs:List Int):Prop:=∃ base off cap,v = .slice base xs.length cap ∧ ∀ i,i < xs.length → ∃ B,base = some ⟨B,off,none⟩ ∧ B < N ∧ w.cell? ⟨B,off + i,none⟩ = some (.int .i64 (xs.getD i 0))
section
variable {N M:Nat} {w w':World} {v:Value} {xs:List Int}
theorem SeqAt.n (h:SeqAt w v xs):SeqN w.heap.size w v xs:=h
theorem SeqN.at (h:SeqN N w v xs) (hN:N ≤ w.heap.size):SeqAt w v xs:=by
 obtain ⟨b,o,c,e,h⟩:=h
 exact ⟨b,o,c,e,fun i hi => let ⟨B,h1,h2,h3⟩:=h i hi;⟨B,h1,Nat.lt_of_lt_of_le h2 hN,h3⟩⟩
theorem SeqN.grow (h:SeqN N w v xs) (hg:Grow M w w') (hN:N ≤ M):SeqN N w' v xs:=by
 obtain ⟨b,o,c,e,h⟩:=h
 refine ⟨b,o,c,e,fun i hi => let ⟨B,h1,h2,h3⟩:=h i hi;⟨B,h1,h2,?_⟩⟩
 unfold World.cell? at h3 ⊢
 rw [hg.block B (Nat.lt_of_lt_of_le h2 hN)];exact h3
theorem SeqN.same (h:SeqN N w v xs) (hs:SameW w w'):SeqN N w' v xs:=by
 obtain ⟨b,o,c,e,h⟩:=h
 refine ⟨b,o,c,e,fun i hi => let ⟨B,h1,h2,h3⟩:=h i hi;⟨B,h1,h2,?_⟩⟩
 unfold World.cell? at h3 ⊢
 rw [hs.heap];exact h3
theorem SeqN.poke (h:SeqN N w v xs) {BO j:Nat} {u:Value} (hB:N ≤ BO):SeqN N (w.setCell ⟨BO,j,none⟩ u) v xs:=h.grow (M:=N) (Grow.of ((Below.refl N w).setCell (p:=⟨BO,j,none⟩) hB u)) (Nat.le_refl _)
end
theorem owns_gr {w w':World} {N:Nat} {e:TypeId} {k n:Nat} {v:Value} {xs:List Value} (h:w.ownsRow N e k v n xs) (hg:Grow w.heap.size w w'):w'.ownsRow N e k v n xs:=ownsRow_of h fun g o _ hh => (hg.block g (Array.getElem?_eq_some_iff.1 hh).1).trans hh
end Go.Proofs.YtnkejaohnhpbpaaGreatDoor
end
section
namespace Go.Proofs.YtnkejaohnhpbpaaGreatDoor
open Go Go.RowKit Lift
theorem hasInt40_in (xs:List Int) (v:Value) (x:Int) (w:World) (h:SeqAt w v xs) (hn:xs.length < 1000000) :
  CallsIn Fz 0 Tryz.prog 40 #[v,.int .i64 x] w fun e w' => e = .returned (.bool (decide (x ∈ xs))) ∧ w' = w:=by
 obtain ⟨base,off,cap,rfl,h2⟩:=h
 gi_enter Tryz.func40,Tryz.ntmps40
 gi_wp2
 gi_loopw [5] (fun i wr => wr = w ∧ ∃ k:Nat,k ≤ xs.length ∧ i = .int .i64 k ∧ ∀ j,j < k → xs.getD j 0 ≠ x) (fun i _ => xs.length - (intOf i).toNat)
 case atStart => exact ⟨rfl,0,Nat.zero_le _,rfl,fun j hj => absurd hj (by omega)⟩
 case round =>
  obtain ⟨rfl,k,hk,rfl,hno⟩:=hrel
  by_cases hlt:k < xs.length
  ·obtain ⟨B,rfl,h4,h5⟩:=h2 k hlt
   by_cases he:xs.getD k 0 = x
   ·have hm:x ∈ xs:=by rw [← he];simp [hlt]
    rw [he] at h5
    have HM:=Lib.hid hm
    clear hm he hno
    gi_wp2
    go_ret
    exact ⟨by rw [decide_eq_true HM.out];rfl,rfl⟩
   ·obtain ⟨y,hy⟩:∃ y,xs.getD k 0 = y:=⟨_,rfl⟩
    rw [hy] at h5 he
    have hyx:(y == x) = false:=by simp [he]
    have HY:=Lib.hid hy
    have HN:=Lib.hid hno
    have HE:=Lib.hid he
    clear hy hno he
    gi_wp2
    go_roundw
    case rel =>
     refine ⟨by trivial,k + 1,by omega,by go_num,fun j hj => ?_⟩
     by_cases e:j = k
     ·subst e;rw [HY.out];exact HE.out
     ·exact HN.out j (by omega)
    case measure => simp [intOf];omega
  ·obtain rfl:k = xs.length:=by omega
   have HN:=Lib.hid hno
   clear hno
   gi_wp2
   go_ret
   have hd:decide (x ∈ xs) = false:=decide_eq_false fun hm => by
    obtain ⟨j,hj,e⟩:=List.mem_iff_getElem.1 hm
    exact absurd (by simp [hj,e]) (HN.out j hj)
   exact ⟨by rw [hd];rfl,rfl⟩
set_option maxHeartbeats 4000000 in
theorem coinOf_in {N:Nat} {l:Lay} {b:RBook} {w:World} (hbk:RBkAt N l b w) (hR:b.Right) {c:Nat} (hc:c < b.cs.length) :
  CallsIn Fz 0 Tryz.prog 36 #[.agg (l.rarr b),.int .i64 c] w fun e w' => e = .returned (.int .i64 (b.to.coin c)) ∧ Below w.heap.size w w':=by
 have hk:=hR.k _ (List.getElem_mem hc)
 obtain ⟨t,ht⟩:∃ t:Nat,b.cs[c].tar = t:=⟨b.cs[c].tar.toNat,by omega⟩
 have htl:t < b.ts.length:=by omega
 have hT:=hR.t _ (List.getElem_mem htl)
 obtain ⟨co,hco⟩:∃ co:Nat,b.ts[t].coin = co:=⟨b.ts[t].coin.toNat,by omega⟩
 have hcoin:b.to.coin c = co:=by
  simp only [Book.coin,Book.tarOf,RBook.to,List.getD_eq_getElem?_getD,List.getElem?_map,List.getElem?_eq_getElem hc,Option.map_some,Option.getD_some,RCas.to,ht,Int.toNat_natCast,List.getElem?_eq_getElem htl,RTrf.to,hco]
 obtain ⟨kb,ko,e1,e2,e3⟩:=hbk.ks c b.cs[c].row (by rw [List.getElem?_map,List.getElem?_eq_getElem hc];rfl)
 obtain ⟨tb,to,f1,f2,f3⟩:=hbk.ts t b.ts[t].row (by rw [List.getElem?_map,List.getElem?_eq_getElem htl];rfl)
 have c1:=e3 1 _ rfl
 have d1:=f3 1 _ rfl
 rw [ht] at c1
 rw [hco] at d1
 rw [hcoin]
 have hkb:kb < w.heap.size:=Nat.lt_of_lt_of_le e2 hbk.hN
 have htb:tb < w.heap.size:=Nat.lt_of_lt_of_le f2 hbk.hN
 have hnt:=hR.nt
 have hnk:=hR.nk
 have hcI:(c:Int) < b.cs.length:=by omega
 have htI:(t:Int) < b.ts.length:=by omega
 clear e3 f3 hk hT hcoin ht hco
 simp only [Lay.rarr,e1,f1]
 gi_enter Tryz.func36,Tryz.ntmps36
 gi_wp2_with fail
 gi_big_quiet_th (fail)
 gi_wp2
 go_ret
 exact ⟨rfl,((Below.refl _ w).alloc (Nat.le_refl _) _).trans ((below_drewN _ nq).mono (by simp))⟩
end Go.Proofs.YtnkejaohnhpbpaaGreatDoor
end
