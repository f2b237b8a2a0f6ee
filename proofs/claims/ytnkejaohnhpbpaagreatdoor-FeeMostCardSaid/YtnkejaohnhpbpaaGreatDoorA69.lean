/- Two lists of payments that a law makes; a list turned, in a region that draws its order: what stands on the way. -/
import Derived.Test.YtnkejaohnhpbpaaGreatDoorA48
import Derived.Test.YtnkejaohnhpbpaaGreatDoorA53
import Derived.Test.YtnkejaohnhpbpaaGreatDoorA64
set_option linter.all false
section
namespace Go.Proofs.YtnkejaohnhpbpaaGreatDoor
open Go Go.RowKit Lift
structure Two (N0:Nat) (w:World) (vi vo:Value) (xs ys:List RPay):Prop where
 i:w.ownsRow N0 56 5 vi xs.length (payCells xs)
 o:w.ownsRow N0 56 5 vo ys.length (payCells ys)
 ne:∀ g,vi.ownBlock = some g → vo.ownBlock ≠ some g
section
variable {N0:Nat} {w w':World} {vi vo v':Value} {xs ys:List RPay} {m:RPay}
theorem Two.swap (h:Two N0 w vi vo xs ys):Two N0 w vo vi ys xs:=⟨h.o,h.i,fun g h1 h2 => h.ne g h2 h1⟩
theorem Two.same (h:Two N0 w vi vo xs ys) (hs:SameW w w'):Two N0 w' vi vo xs ys:=⟨owns_same h.i hs,owns_same h.o hs,h.ne⟩
theorem Two.below (h:Two N0 w vi vo xs ys) (hb:Below w.heap.size w w'):Two N0 w' vi vo xs ys:=⟨owns_below h.i hb,owns_below h.o hb,h.ne⟩
theorem Two.gr (h:Two N0 w vi vo xs ys) (hg:Grow w.heap.size w w'):Two N0 w' vi vo xs ys:=⟨owns_gr h.i hg,owns_gr h.o hg,h.ne⟩
theorem Two.nil (N0:Nat) (w:World):Two N0 w (.slice none 0 0) (.slice none 0 0) [] []:=⟨World.ownsRow_nil _ _ _ _,World.ownsRow_nil _ _ _ _,fun g h => by cases h⟩
theorem Two.push (h:Two N0 w vi vo xs ys) (hown:w'.ownsRow N0 56 5 v' (xs.length + 1) (payCells (xs ++ [m]))) (hg:w.grownBy w' vi.ownBlock) (hat:v'.ownBlock = vi.ownBlock ∨ v'.ownBlock = some w.heap.size):Two N0 w' v' vo (xs ++ [m]) ys:=by
 have lo:∀ g,vo.ownBlock = some g → g < w.heap.size:=fun g hg => (h.o.lt g hg).2;refine ⟨by simpa using hown,ownsRow_of h.o fun g o hg' ho => (hg.block g (lo g hg') (fun e => h.ne g e.symm hg')).trans ho,fun g h1 h2 => ?_⟩;rcases hat with e | e
 ·exact h.ne g (e.symm.trans h1) h2
 ·rw [e] at h1;have:=lo g h2;cases h1;omega
end
theorem PaysAt.gr {w w':World} {v:Value} {ps:List RPay} (h:PaysAt w v ps) (hg:Grow w.heap.size w w'):PaysAt w' v ps:=by
 obtain ⟨b,c,e,hr⟩:=h;exact ⟨b,c,e,(RowsAt.growN hr hg).mono hg.size⟩
theorem PaysAt.below {w w':World} {v:Value} {ps:List RPay} (h:PaysAt w v ps) (hb:Below w.heap.size w w'):PaysAt w' v ps:=h.gr (Grow.of hb)
theorem PaysAt.drop {w:World} {g o n c c':Nat} {ps:List RPay} (h:PaysAt w (.slice (some ⟨g,o,none⟩) n c) ps) {t:Nat} (ht:t ≤ ps.length):PaysAt w (.slice (some ⟨g,o + t * 5,none⟩) (ps.length - t) c') (ps.drop t):=by
 obtain ⟨b,c0,e,hr⟩:=h;cases e;refine ⟨some ⟨g,o + t * 5,none⟩,c',by rw [List.length_drop],fun i r hr' => ?_⟩;rw [List.map_drop,List.getElem?_drop] at hr';obtain ⟨b',o',e1,e2,e3⟩:=hr (t + i) r hr';cases e1;refine ⟨g,o + t * 5,rfl,e2,fun j v hv => ?_⟩;have:=e3 j v hv;rw [show o + t * 5 + i * 5 + j = o + (t + i) * 5 + j by omega];exact this
theorem PaysAt.take {w:World} {g o n c c':Nat} {ps:List RPay} (h:PaysAt w (.slice (some ⟨g,o,none⟩) n c) ps) {t:Nat} (ht:t ≤ ps.length):PaysAt w (.slice (some ⟨g,o,none⟩) t c') (ps.take t):=by
 obtain ⟨b,c0,e,hr⟩:=h;cases e;refine ⟨some ⟨g,o,none⟩,c',by rw [List.length_take,Nat.min_eq_left ht],fun i r hr' => ?_⟩;rw [List.map_take] at hr';obtain ⟨b',o',e1,e2,e3⟩:=hr i r (List.mem_of_getElem? hr' |> fun _ => by
  have hi:i < t:=by have:=(List.getElem?_eq_some_iff.1 hr').1;simp at this;omega
  rwa [List.getElem?_take_of_lt hi] at hr')
 cases e1;exact ⟨g,o,rfl,e2,e3⟩
def PaysN (M:Nat) (w:World) (v:Value) (ps:List RPay):Prop:=∃ base cap,v = .slice base ps.length cap ∧ RowsAt M base 5 (ps.map RPay.row) w
section
variable {M N:Nat} {w w':World} {v:Value} {ps:List RPay}
theorem PaysAt.n (h:PaysAt w v ps):PaysN w.heap.size w v ps:=h
theorem PaysN.at (h:PaysN M w v ps) (hM:M ≤ w.heap.size):PaysAt w v ps:=by
 obtain ⟨b,c,e,h⟩:=h;exact ⟨b,c,e,h.mono hM⟩
theorem PaysN.grow (h:PaysN M w v ps) (hg:Grow N w w') (hM:M ≤ N):PaysN M w' v ps:=by
 obtain ⟨b,c,e,h⟩:=h;exact ⟨b,c,e,h.growN (hg.mono hM)⟩
theorem PaysN.same (h:PaysN M w v ps) (hs:SameW w w'):PaysN M w' v ps:=by
 obtain ⟨b,c,e,h⟩:=h;exact ⟨b,c,e,rows_same h hs⟩
theorem PaysN.poke (h:PaysN M w v ps) {BO j:Nat} {u:Value} (hB:M ≤ BO):PaysN M (w.setCell ⟨BO,j,none⟩ u) v ps:=h.grow (N:=M) (Grow.of ((Below.refl M w).setCell (p:=⟨BO,j,none⟩) hB u)) (Nat.le_refl _)
end
structure WT (i1 i2 i3 i4:Nat) (s1 s2 s3 s7:Tmp) (w0:World) (v:Value) (us ys:List RPay) (D:Nat → Bool) (x:Tmp → Value) (w:World):Prop where
 bel:Below w0.heap.size w0 w
 o1:D i1 = true → D i2 = false → w.ownsRow w0.heap.size 56 5 (x s1) 0 (payCells [])
 o2:D i2 = true → D i3 = false → w.ownsRow w0.heap.size 56 5 (x s2) us.length (payCells us)
 o3:D i3 = true → w.ownsRow w0.heap.size 56 5 (x s3) (us.length + ys.length) (payCells (us ++ ys))
 e0:D i4 = false → x s7 = v
 e1:D i4 = true → x s7 = x s3 ∧ D i3 = true
 c:D i3 = true → D i2 = true
section
variable {i1 i2 i3 i4:Nat} {s1 s2 s3 s7:Tmp} {w0 w w':World} {v:Value} {us ys:List RPay} {D:Nat → Bool} {x:Tmp → Value}
theorem WT.start {x0:Tmp → Value} (h:x0 s7 = v):WT i1 i2 i3 i4 s1 s2 s3 s7 w0 v us ys (fun _ => false) x0 { w0 with drawn:=w0.drawn + 1 }:=
 ⟨⟨rfl,rfl,rfl,Nat.le_refl _,fun _ _ => rfl⟩,fun h => by (cases h),fun h => by (cases h),fun h => by (cases h),fun _ => h,fun h => by (cases h),fun h => by (cases h)⟩
theorem WT.pure (h:WT i1 i2 i3 i4 s1 s2 s3 s7 w0 v us ys D x w) {i:Nat} (hi:i ∉ [i1,i2,i3,i4]):WT i1 i2 i3 i4 s1 s2 s3 s7 w0 v us ys (alsoG D i) x w:=by
 simp only [List.mem_cons,List.not_mem_nil,or_false,not_or] at hi;obtain ⟨h1,h2,h3,h4⟩:=hi;have e1:=alsoG_ne (D:=D) (Ne.symm h1);have e2:=alsoG_ne (D:=D) (Ne.symm h2);have e3:=alsoG_ne (D:=D) (Ne.symm h3);have e4:=alsoG_ne (D:=D) (Ne.symm h4);exact ⟨h.bel,by rw [e1,e2];exact h.o1,by rw [e2,e3];exact h.o2,by rw [e3];exact h.o3,by rw [e4];exact h.e0,by rw [e4,e3];exact h.e1,by rw [e3,e2];exact h.c⟩
theorem WT.build (hok:[i1,i2,i3,i4].Nodup ∧ [s1,s2,s3,s7].Nodup) (h:WT i1 i2 i3 i4 s1 s2 s3 s7 w0 v us ys D x w) (d2:D i2 = false) (d4:D i4 = false):WT i1 i2 i3 i4 s1 s2 s3 s7 w0 v us ys (alsoG D i1) (updT x s1 (.slice (some ⟨w.heap.size,0,none⟩) 0 0)) (w.alloc (.cells #[] 56)):=by
 obtain ⟨hi,hs⟩:=hok;simp only [List.nodup_cons,List.mem_cons,List.not_mem_nil,or_false,not_or,List.nodup_nil,and_true,not_false_eq_true] at hi hs;have e2:alsoG D i1 i2 = D i2:=alsoG_ne (Ne.symm hi.1.1);have e3:alsoG D i1 i3 = D i3:=alsoG_ne (Ne.symm hi.1.2.1);have e4:alsoG D i1 i4 = D i4:=alsoG_ne (Ne.symm hi.1.2.2);have d3:D i3 = false:=by cases h3:D i3;rfl;exact nof d2 (h.c h3)
 refine ⟨h.bel.alloc h.bel.size _,fun _ _ => ?_,fun q => nof (e2.trans d2) q,fun q => nof (e3.trans d3) q,fun _ => ?_,fun q => nof (e4.trans d4) q,fun q => nof (e3.trans d3) q⟩
 ·rw [upd_eqT];exact World.ownsRow_lit w #[] 0 h.bel.size (by decide) rfl
 ·rw [upd_neT (Ne.symm hs.1.2.2)];exact h.e0 d4
theorem WT.assign (hok:[i1,i2,i3,i4].Nodup ∧ [s1,s2,s3,s7].Nodup) (h:WT i1 i2 i3 i4 s1 s2 s3 s7 w0 v us ys D x w) (d2:D i2 = true) (d3:D i3 = true):WT i1 i2 i3 i4 s1 s2 s3 s7 w0 v us ys (alsoG D i4) (updT x s7 (x s3)) w:=by
 obtain ⟨hi,hs⟩:=hok;simp only [List.nodup_cons,List.mem_cons,List.not_mem_nil,or_false,not_or,List.nodup_nil,and_true,not_false_eq_true] at hi hs;have e2:alsoG D i4 i2 = D i2:=alsoG_ne hi.2.1.2;have e3:alsoG D i4 i3 = D i3:=alsoG_ne hi.2.2;refine ⟨h.bel,fun _ q => nof q (e2.trans d2),fun _ q => nof q (e3.trans d3),fun _ => ?_,fun q => nof q alsoG_eq,fun _ => ⟨?_,e3.trans d3⟩,fun _ => e2.trans d2⟩
 ·rw [upd_neT hs.2.2];exact h.o3 d3
 ·rw [upd_eqT,upd_neT hs.2.2]
end
end Go.Proofs.YtnkejaohnhpbpaaGreatDoor
end
section
namespace Go.Proofs.YtnkejaohnhpbpaaGreatDoor.Lift
open Go
theorem detM_move {F:Fence} {n:Nat} {P:Program} {ops:Array Oper} {W:Wm} {gl:List Tmp} {i:Nat} {rest:List Nat} {o:Oper} {a:Act} {R:Act → Prop} {v:Value} (s d:Tmp) (hs:s ∈ gl) (hdg:d ∉ gl) (ho:ops[i]? = some o) (hw:∀ x,Region.wanted o (yielded ops (Act.setG a gl x).tmps) = true)
  (hop:o.op = .move (.tmp s)) (hd:o.dst = some d) (hsz:s < a.tmps.size) (h:∀ D x w,mayG ops D i → W D x w → x s = v ∧ W (alsoG D i) x w) (hr:DetM F n P ops W gl rest (a.put (some d) v) R):DetM F n P ops W gl (i :: rest) a R:=by
 refine ⟨o,ho,.inl ⟨hw,v,a.put (some d) v,by rw [hd],fun D x w hm hW => ?_,hr⟩⟩;obtain ⟨e,hW'⟩:=h D x w hm hW;have he:(Act.setG a gl x).eval (.tmp s) = x s:=by
  show (Act.setG a gl x).tmps.getD s undef = x s
  rw [Array.getD_eq_getD_getElem?,setG_on hs hsz];rfl
 unfold Oper.wpIn;refine ⟨?_,?_⟩
 ·simp [Oper.about,hop]
 ·rw [Oper.semAt_plain F _ _ (by rw [hop];intro c hc';cases hc')];simp only [execOp,hop,he];exact ⟨x s,rfl,fun g hg q => absurd (by rw [hd] at q;cases q;exact hg) hdg,fun _ => ⟨e,hW'⟩⟩
end Go.Proofs.YtnkejaohnhpbpaaGreatDoor.Lift
end
section
namespace Go.Proofs.YtnkejaohnhpbpaaGreatDoor
open Go Go.RowKit Lift
def nums (f:Nat → Int) (n:Nat):Array Value:=((List.range n).map fun k => Value.int .i64 (f k)).toArray
theorem nums_size (f:Nat → Int) (n:Nat):(nums f n).size = n:=by simp [nums]
theorem nums_get {f:Nat → Int} {n k:Nat} (h:k < n):(nums f n)[k]? = some (.int .i64 (f k)):=by simp [nums,h]
theorem nums_set {f g:Nat → Int} {n c:Nat} {v:Int} (hc:c < n) (hv:g c = v) (h:∀ k,k < n → k ≠ c → g k = f k):(nums f n).setIfInBounds c (.int .i64 v) = nums g n:=by
 apply Array.ext_getElem?;intro k;by_cases hk:k < n
 ·by_cases e:k = c
  ·subst e;rw [Array.getElem?_setIfInBounds_self_of_lt (by rw [nums_size];exact hk),nums_get hk,hv]
  ·rw [Array.getElem?_setIfInBounds_ne (Ne.symm e),nums_get hk,nums_get hk,h k hk e]
 ·rw [Array.getElem?_eq_none (by rw [Array.size_setIfInBounds,nums_size];omega),Array.getElem?_eq_none (by rw [nums_size];omega)]
theorem run_makeInts {n:Nat} (hn:n ≤ 6) (w:World):(Instr.makeSlice 44 (.int .i64 n) (.int .i64 n)).run Tryz.prog w = .ok (.slice (some ⟨w.heap.size,0,none⟩) n n) (w.alloc (.cells (nums (fun _ => 0) n) 3)):=by
 obtain ⟨i0,hi,hz0,hz1,hz2⟩:=info_parts Tryz.infoI;have:=run_make (P:=Tryz.prog) w 44 3 i0 _ Tryz.underlying44 hi hz0 .i64 .i64 n n (by omega) (Int.le_refl _) (by rw [hz2];omega) (by omega);rw [hz1] at this;have e:madeCells (Value.int IntKind.i64 0).cells (n * 1) = nums (fun _ => 0) n:=by
  apply Array.ext_getElem?;intro k;by_cases hk:k < n
  ·rw [nums_get hk];simp [madeCells,Value.cells,hk,Nat.mod_one]
  ·rw [Array.getElem?_eq_none (by rw [size_madeCells];omega),Array.getElem?_eq_none (by rw [nums_size];omega)]
 simp only [Int.toNat_natCast] at this;rw [e] at this;exact this
theorem to_cslen (b:RBook):b.to.cs.length = b.cs.length:=by simp [RBook.to]
def heldL (b:Book) (n:Int) (j:Nat):Nat → Int:=fun k => sumC b k (heldOf (b.after n)) j
def tookL (b:Book) (n:Int) (j:Nat):Nat → Int:=fun k => sumC b k (tookOf (b.after n)) j
structure TakesAre (b:Book) (n:Nat):Prop where
 held:∀ k,k < b.coins.length → b.heldOf (b.after n) k = heldL b n b.cs.length k
 took:∀ k,k < b.coins.length → (b.after n).tkn k = tookL b n b.cs.length k
 hb:∀ j k,j ≤ b.cs.length → k < b.coins.length → 0 ≤ heldL b n j k ∧ heldL b n j k ≤ 10000000000
 tb:∀ j k,j ≤ b.cs.length → k < b.coins.length → 0 ≤ tookL b n j k ∧ tookL b n j k ≤ 10000000000
end Go.Proofs.YtnkejaohnhpbpaaGreatDoor
end
