/- The book of the chapter's examples as it is made; two lists compared: inside the fence. -/
import Derived.Test.YtnkejaohnhpbpaaGreatDoorA11
import Derived.Test.YtnkejaohnhpbpaaGreatDoorA23
set_option linter.all false
section
namespace Go.Proofs.YtnkejaohnhpbpaaGreatDoor
open Go Go.RowKit Lift
theorem same_in (xs ys:List Int) (va vb:Value) (w:World) (h1:SeqAt w va xs) (h2:SeqAt w vb ys) (hn:xs.length < 1000000) (hm:ys.length < 1000000) :
  CallsIn Fz 0 Tryz.prog 30 #[va,vb] w fun e w' => e = .returned (.bool (decide (xs = ys))) ∧ Below w.heap.size w w':=by
 have g1:=h1;have g2:=h2;obtain ⟨ba,oa,ca,rfl,_⟩:=g1;obtain ⟨bb,ob,cb,rfl,_⟩:=g2;by_cases hl:xs.length = ys.length
 ·gi_enter Tryz.func30,Tryz.ntmps30
  gi_wp2;gi_loopw [5] (fun i wr => ∃ k:Nat,k ≤ xs.length ∧ i = .int .i64 k ∧ (∀ j,j < k → xs.getD j 0 = ys.getD j 0) ∧ Below w.heap.size w wr) (fun i _ => xs.length - (intOf i).toNat)
  case atStart => exact ⟨0,Nat.zero_le _,rfl,fun j hj => absurd hj (by omega),Below.refl _ _⟩
  case round =>
   obtain ⟨k,hk,rfl,hall,HB⟩:=hrel;by_cases hlt:k < xs.length
   ·obtain ⟨ba',oa',ca',e1,k1⟩:=h1.below HB;obtain ⟨bb',ob',cb',e2,k2⟩:=h2.below HB;cases e1;have e2':=e2;simp only [Value.slice.injEq] at e2';obtain ⟨rfl,rfl⟩:bb = bb' ∧ cb = cb':=⟨e2'.1,e2'.2.2⟩
    obtain ⟨B1,rfl,l1,m1⟩:=k1 k hlt;obtain ⟨B2,rfl,l2,m2⟩:=k2 k (by omega);have hlty:k < ys.length:=by omega
    have HA:=Lib.hid hall;clear hall h1 h2 k1 k2 e2 e2';obtain ⟨x,hx⟩:∃ x,xs.getD k 0 = x:=⟨_,rfl⟩
    obtain ⟨y,hy⟩:∃ y,ys.getD k 0 = y:=⟨_,rfl⟩
    rw [hx] at m1;rw [hy] at m2;have HX:=Lib.hid hx;have HY:=Lib.hid hy;clear hx hy;by_cases he:x = y
    ·subst he
     gi_wp2_with fail
     gi_big_quiet_th (fail)
     gi_wp2;go_roundw
     case rel =>
      refine ⟨k + 1,by omega,by go_num,fun j hj => ?_,HB.trans ((below_drewN _ nq).mono HB.size)⟩;by_cases e:j = k
      ·subst e;rw [HX.out,HY.out]
      ·exact HA.out j (by omega)
     case measure => simp [intOf];omega
    ·have hne:¬ xs = ys:=fun e => by subst e;exact he (HX.out.symm.trans HY.out)
     have HN:=Lib.hid hne;clear hne
     gi_wp2_with fail
     gi_big_quiet_th (fail)
     gi_wp2;go_ret;exact ⟨by rw [decide_eq_false HN.out];rfl,HB.trans ((below_drewN _ nq).mono HB.size)⟩
   ·obtain rfl:k = xs.length:=by omega
    have he:xs = ys:=by
     apply List.ext_getElem hl;intro j hj hj';have:=hall j hj;simpa [hj,hj'] using this
    have HE:=Lib.hid he;clear he hall;gi_wp2;go_ret;exact ⟨by rw [decide_eq_true HE.out];rfl,HB⟩
 ·have hne:¬ xs = ys:=fun e => hl (by rw [e]);have hl':¬ ((xs.length:Int) = (ys.length:Int)):=by omega
  have HN:=Lib.hid hne;clear hne;gi_enter Tryz.func30,Tryz.ntmps30
  gi_wp2;go_ret;exact ⟨by rw [decide_eq_false HN.out];rfl,Below.refl _ _⟩
theorem flat_at {size:Nat}:∀ {rows:List (List Value)},(∀ r ∈ rows,r.length = size) → ∀ {i:Nat} {r:List Value},rows[i]? = some r → ∀ {j:Nat} {v:Value},r[j]? = some v → rows.flatten[i * size + j]? = some v
 | [],_,i,r,h,_,_,_ => by simp at h
 | a :: l,hs,0,r,h,j,v,hv => by
  simp at h;subst h;have hj:=(List.getElem?_eq_some_iff.1 hv).1;rw [List.flatten_cons,Nat.zero_mul,Nat.zero_add,List.getElem?_append_left hj];exact hv
 | a :: l,hs,i + 1,r,h,j,v,hv => by
  have ha:=hs a (List.mem_cons_self ..);rw [List.flatten_cons,List.getElem?_append_right (by rw [ha,Nat.succ_mul];omega),ha];rw [show (i + 1) * size + j - size = i * size + j by rw [Nat.succ_mul];omega];exact flat_at (fun r hr => hs r (List.mem_cons_of_mem _ hr)) (by simpa using h) hv
theorem rowsAt_blk {w:World} {N B size:Nat} {ty:TypeId} {rows:List (List Value)} {cs:Array Value} (h:Blk w B ty cs) (hB:B < N) (hs:∀ r ∈ rows,r.length = size) (hf:rows.flatten = cs.toList):RowsAt N (some ⟨B,0,none⟩) size rows w:=fun i r hr => by
 refine ⟨B,0,rfl,hB,fun j v hv => ?_⟩;have:=flat_at hs hr hv;rw [hf,Array.getElem?_toList] at this;rw [h.cell,Nat.zero_add];exact this
theorem results_c {fn:Func} {a:Tmp} {ta:TypeId} (h:fn.results = #[.cell a ta]) {tmps:Array Value} {P:Program} {w:World} {x:Addr} {u:Value} (ha:tmps.getD a undef = .pointer (some x)) (hu:(loadVar ta x).run P w = .ok u w):(results fn tmps).run P w = .ok u w:=by
 simp only [results,h];simp at ha;simp [Sem.run_bind,Result.andThen,asAddr,ha,hu]
theorem load27 {w:World} {B:Nat} {a b c d:Value} (h:Blk w B 27 #[a,b,c,d]):(loadVar 27 ⟨B,0,none⟩).run Tryz.prog w = .ok (.agg #[a,b,c,d]) w:=by
 have c0:=h.cell 0;have c1:=h.cell 1;have c2:=h.cell 2;have c3:=h.cell 3;simp at c0 c1 c2 c3;have hs:=Tryz.sizeOf27;have ha:=Tryz.isAgg27;simp [loadVar,go_sem,c0,c1,c2,c3,hs,ha,loadCells,loadCellsFrom,Addr.add]
abbrev exA (w:World):Array Value:=#[.slice (some ⟨w.heap.size + 1,0,none⟩) 2 2,.slice (some ⟨w.heap.size + 1 + 1,0,none⟩) 2 2,.slice (some ⟨w.heap.size + 1 + 1 + 1,0,none⟩) 3 3,.slice (some ⟨w.heap.size + 1 + 1 + 1 + 1,0,none⟩) 6 6]
abbrev exC:Array Value:=#[.string ⟨#[101,117,114]⟩,.string ⟨#[99,104,102]⟩]
abbrev exT:Array Value:=#[.string ⟨#[102,105,108,101]⟩,.int .i64 0,.int .i64 100,.int .i64 30,.int .i64 1,.string ⟨#[107,101,101,112]⟩,.int .i64 1,.int .i64 50,.int .i64 0,.int .i64 0]
abbrev exK:Array Value:=#[.string ⟨#[97]⟩,.int .i64 0,.int .i64 3,.int .i64 10,.int .i64 5,.int .i64 20,.string ⟨#[98]⟩,.int .i64 1,.int .i64 1,.int .i64 8,.int .i64 0,.int .i64 0,.string ⟨#[99]⟩,.int .i64 0,.int .i64 1,.int .i64 20,.int .i64 0,.int .i64 0]
abbrev exP:Array Value:=#[.int .i64 0,.int .i64 4,.int .i64 0,.int .i64 150,.int .i64 0,.int .i64 1,.int .i64 6,.int .i64 1,.int .i64 30,.int .i64 0,.int .i64 0,.int .i64 7,.int .i64 0,.int .i64 40,.int .i64 1,.int .i64 2,.int .i64 9,.int .i64 0,.int .i64 30,.int .i64 0,.int .i64 2,.int .i64 12,.int .i64 0,.int .i64 30,.int .i64 0,.int .i64 0,.int .i64 12,.int .i64 0,.int .i64 5,.int .i64 0]
abbrev exW (w:World):World:=((((w.alloc (.cells (exA w) 27)).alloc (.cells exC 9)).alloc (.cells exT 69)).alloc (.cells exK 60)).alloc (.cells exP 56)
abbrev exL (w:World):Lay:=⟨some ⟨w.heap.size + 1,0,none⟩,some ⟨w.heap.size + 1 + 1,0,none⟩,some ⟨w.heap.size + 1 + 1 + 1,0,none⟩,some ⟨w.heap.size + 1 + 1 + 1 + 1,0,none⟩,2,2,3,6⟩
theorem ex_blk (w:World):Blk (exW w) w.heap.size 27 (exA w) ∧ Blk (exW w) (w.heap.size + 1) 9 exC ∧ Blk (exW w) (w.heap.size + 1 + 1) 69 exT ∧ Blk (exW w) (w.heap.size + 1 + 1 + 1) 60 exK ∧ Blk (exW w) (w.heap.size + 1 + 1 + 1 + 1) 56 exP:=by
 have nx:∀ (W:World) (o:Obj) {B:Nat} {ty:TypeId} {c:Array Value},Blk W B ty c → Blk (W.alloc o) B ty c:=fun W o B ty c h => h.below ((Below.refl _ W).alloc (Nat.le_refl _) o);have h0:=Blk.new w (exA w) 27;have h1:=Blk.new (w.alloc (.cells (exA w) 27)) exC 9;have h2:=Blk.new ((w.alloc (.cells (exA w) 27)).alloc (.cells exC 9)) exT 69;have h3:=Blk.new (((w.alloc (.cells (exA w) 27)).alloc (.cells exC 9)).alloc (.cells exT 69)) exK 60;have h4:=Blk.new ((((w.alloc (.cells (exA w) 27)).alloc (.cells exC 9)).alloc (.cells exT 69)).alloc (.cells exK 60)) exP 56;simp only [World.size_alloc] at h1 h2 h3 h4;exact ⟨nx _ _ (nx _ _ (nx _ _ (nx _ _ h0))),nx _ _ (nx _ _ (nx _ _ h1)),nx _ _ (nx _ _ h2),nx _ _ h3,h4⟩
theorem ex_below (w:World):Below w.heap.size w (exW w):=((((((Below.refl _ w).alloc (Nat.le_refl _) _).alloc (by simp) _).alloc (by simp;omega) _).alloc (by simp;omega) _).alloc (by simp;omega) _)
theorem ex_bk (w:World):BkAt (exW w).heap.size (exL w) exBook (exW w):=by
 obtain ⟨_,h1,h2,h3,h4⟩:=ex_blk w;refine ⟨Nat.le_refl _,rowsAt_blk h1 h1.lt ?_ rfl,rowsAt_blk h2 h2.lt ?_ rfl,rowsAt_blk h3 h3.lt ?_ rfl,rowsAt_blk h4 h4.lt ?_ rfl⟩
 all_goals (intro r hr;simp only [exBook,List.map_cons,List.map_nil,List.mem_cons,List.not_mem_nil,or_false] at hr)
 ·rcases hr with rfl | rfl <;> rfl
 ·rcases hr with rfl | rfl <;> rfl
 ·rcases hr with rfl | rfl | rfl <;> rfl
 ·rcases hr with rfl | rfl | rfl | rfl | rfl | rfl <;> rfl
set_option maxHeartbeats 4000000 in
theorem example_in (w:World):CallsIn Fz 0 Tryz.prog 42 #[] w fun e w' => ∃ l,e = .returned (l.val exBook) ∧ BkAt w'.heap.size l exBook w' ∧ Below w.heap.size w w':=by
 have hb:=ex_blk w;have hk:=ex_bk w;have hl:=ex_below w;have HB:=Lib.hid hb;have HK:=Lib.hid hk;have HL:=Lib.hid hl;clear hb hk hl;gi_enter Tryz.func42,Tryz.ntmps42
 gi_wp2
 (try simp only [Exit.inBlock,Exit.then])
 exact bodyPost_ret (results_c (fn:=Tryz.f42) rfl rfl (load27 HB.out.1)) rfl ⟨exL w,rfl,HK.out,HL.out⟩
end Go.Proofs.YtnkejaohnhpbpaaGreatDoor
end
section
namespace Go.Proofs.YtnkejaohnhpbpaaGreatDoor
open Go Go.RowKit Lift
def pv (cases proof:List Int) (L:List (Int × Int)) (a:Int):Nat → Option (Nat × Nat × Int × Int)
 | 0 => some (0,0,a,0)
 | i + 1 => match pv cases proof L a i with
  | none => none
  | some (k,s,l,h) => if decide ((L.getD i (0,0)).1 ∈ proof) && (L.take i).any (lessHid (L.getD i (0,0)).2 proof) then none else
   some (if (L.getD i (0,0)).1 ∈ cases then k + 1 else k,if (L.getD i (0,0)).1 ∈ proof then s + 1 else s,if (L.getD i (0,0)).1 ∈ cases then wrap64 (l - (L.getD i (0,0)).2) else l,if (L.getD i (0,0)).1 ∈ proof then wrap64 (h + (L.getD i (0,0)).2) else h)
theorem pv_none {cases proof:List Int} {L:List (Int × Int)} {a:Int} {i:Nat} (h:pv cases proof L a i = none):∀ m,i ≤ m → pv cases proof L a m = none:=fun m hm => by
 induction m with
 | zero => have:i = 0:=by omega
           subst this;exact h
 | succ m ih =>
  by_cases e:i = m + 1
  ·subst e;exact h
  ·rw [pv,ih (by omega)]
theorem pv_succ {cases proof:List Int} {L:List (Int × Int)} {a:Int} {i k s:Nat} {l h x1 x2:Int} (e:pv cases proof L a i = some (k,s,l,h)) (hx:L.getD i (0,0) = (x1,x2)) :
  pv cases proof L a (i + 1) = if decide (x1 ∈ proof) && (L.take i).any (lessHid x2 proof) then none else some (if x1 ∈ cases then k + 1 else k,if x1 ∈ proof then s + 1 else s,if x1 ∈ cases then wrap64 (l - x2) else l,if x1 ∈ proof then wrap64 (h + x2) else h):=by
 rw [pv,e,hx]
theorem pv_le {cases proof:List Int} {L:List (Int × Int)} {a:Int}:∀ {i k s:Nat} {l h:Int},pv cases proof L a i = some (k,s,l,h) → k ≤ i ∧ s ≤ i
 | 0,k,s,l,h,e => by cases e;exact ⟨Nat.le_refl _,Nat.le_refl _⟩
 | i + 1,k,s,l,h,e => by
  rw [pv] at e;cases e0:pv cases proof L a i with
  | none => rw [e0] at e;cases e
  | some q =>
   obtain ⟨k0,s0,l0,h0⟩:=q;have:=pv_le e0;rw [e0] at e;simp only at e;split at e
   ·cases e
   ·simp only [Option.some.injEq,Prod.mk.injEq] at e;obtain ⟨rfl,rfl,_,_⟩:=e;constructor <;> split <;> omega
def pvCoin (cases proof:List Int) (L:List (Int × Int)) (a:Int):Bool:=match pv cases proof L a L.length with
 | none => false
 | some (k,s,l,h) => !decide (l < 0) && (if k = L.length ∧ s = 0 then true else !(decide (k = L.length) || decide (s ≠ k + 1) || decide (h ≤ a)))
def Book.proves (b:Book) (s:St) (day:Int) (cases proof:List Int):Bool:=b.okList s cases cases.length && b.okList s proof proof.length && (List.range b.coins.length).all fun c => pvCoin cases proof (b.short s day c) (s.acc c)
structure PrAt (w3:World) (Lb Sh:Nat) (lf hf:Nat → Int) (w:World):Prop where
 hb:Below w3.heap.size w3 w
 hL:Blk w Lb 94 #[.int .i64 (lf 0),.int .i64 (lf 1),.int .i64 (lf 2)]
 hS:Blk w Sh 94 #[.int .i64 (hf 0),.int .i64 (hf 1),.int .i64 (hf 2)]
 gL:w3.heap.size ≤ Lb
 gS:w3.heap.size ≤ Sh
 ne:Lb ≠ Sh
theorem arr3 (f:Nat → Int) {c:Nat} (hc:c < 3):(#[Value.int .i64 (f 0),.int .i64 (f 1),.int .i64 (f 2)]:Array Value)[c]? = some (.int .i64 (f c)):=
 match c,hc with
 | 0,_ => rfl
 | 1,_ => rfl
 | 2,_ => rfl
theorem arr3_set (f:Nat → Int) {c:Nat} (hc:c < 3) (x:Int):(#[Value.int .i64 (f 0),.int .i64 (f 1),.int .i64 (f 2)]:Array Value).setIfInBounds c (.int .i64 x) = #[.int .i64 (upd f c x 0),.int .i64 (upd f c x 1),.int .i64 (upd f c x 2)]:=
 match c,hc with
 | 0,_ => rfl
 | 1,_ => rfl
 | 2,_ => rfl
section
variable {w3 w w':World} {Lb Sh:Nat} {lf hf:Nat → Int}
theorem PrAt.same (h:PrAt w3 Lb Sh lf hf w) (hb:Below w.heap.size w w'):PrAt w3 Lb Sh lf hf w':=⟨h.hb.trans (hb.mono h.hb.size),h.hL.below hb,h.hS.below hb,h.gL,h.gS,h.ne⟩
theorem PrAt.drew (h:PrAt w3 Lb Sh lf hf w):PrAt w3 Lb Sh lf hf w.drew:=h.same ⟨rfl,rfl,rfl,Nat.le_refl _,fun _ _ => rfl⟩
theorem PrAt.setL (h:PrAt w3 Lb Sh lf hf w) {c:Nat} (hc:c < 3) (x:Int):PrAt w3 Lb Sh (upd lf c x) hf (w.setCell ⟨Lb,c,none⟩ (.int .i64 x)):=
 ⟨h.hb.setCell (p:=⟨Lb,c,none⟩) h.gL _,by rw [← arr3_set lf hc];exact h.hL.putC _ _,h.hS.set h.ne _,h.gL,h.gS,h.ne⟩
theorem PrAt.setS (h:PrAt w3 Lb Sh lf hf w) {c:Nat} (hc:c < 3) (x:Int):PrAt w3 Lb Sh lf (upd hf c x) (w.setCell ⟨Sh,c,none⟩ (.int .i64 x)):=
 ⟨h.hb.setCell (p:=⟨Sh,c,none⟩) h.gS _,h.hL.set h.ne.symm _,by rw [← arr3_set hf hc];exact h.hS.putC _ _,h.gL,h.gS,h.ne⟩
theorem PrAt.cL (h:PrAt w3 Lb Sh lf hf w) {c:Nat} (hc:c < 3):w.cell? ⟨Lb,c,none⟩ = some (.int .i64 (lf c)):=by rw [h.hL.cell,arr3 lf hc]
theorem PrAt.cS (h:PrAt w3 Lb Sh lf hf w) {c:Nat} (hc:c < 3):w.cell? ⟨Sh,c,none⟩ = some (.int .i64 (hf c)):=by rw [h.hS.cell,arr3 hf hc]
end
structure InAt (w3:World) (Lb Sh:Nat) (lf hf:Nat → Int) (X:Nat) (x1 x2:Int) (N n g cap:Nat) (L:List (Int × Int)) (w:World):Prop where
 pr:PrAt w3 Lb Sh lf hf w
 hX:Blk w X 111 #[.int .i64 x1,.int .i64 x2]
 row:w.ownsRow N 111 2 (.slice (some ⟨g,0,none⟩) n cap) L.length (L.flatMap lackRow)
section
variable {w3 w w':World} {Lb Sh:Nat} {lf hf:Nat → Int} {X N n g cap:Nat} {x1 x2:Int} {L:List (Int × Int)}
theorem InAt.same (h:InAt w3 Lb Sh lf hf X x1 x2 N n g cap L w) (hb:Below w.heap.size w w'):InAt w3 Lb Sh lf hf X x1 x2 N n g cap L w':=⟨h.pr.same hb,h.hX.below hb,owns_below h.row hb⟩
theorem InAt.drew (h:InAt w3 Lb Sh lf hf X x1 x2 N n g cap L w):InAt w3 Lb Sh lf hf X x1 x2 N n g cap L w.drew:=h.same ⟨rfl,rfl,rfl,Nat.le_refl _,fun _ _ => rfl⟩
theorem owns111 {w:World} {v:Value} {xs:List Value} {m k:Nat} (h:w.ownsRow N 111 k v m xs) {B:Nat} {ty:TypeId} {c:Array Value} (hB:Blk w B ty c) (ht:ty ≠ 111):v.ownBlock ≠ some B:=fun e => by
 obtain ⟨cur,hc⟩:=owns_blk h e;exact ht (hB.inj hc).1
theorem InAt.setL (h:InAt w3 Lb Sh lf hf X x1 x2 N n g cap L w) {c:Nat} (hc:c < 3) (x:Int):InAt w3 Lb Sh (upd lf c x) hf X x1 x2 N n g cap L (w.setCell ⟨Lb,c,none⟩ (.int .i64 x)):=
 ⟨h.pr.setL hc x,h.hX.set (fun e => by have:=(h.hX.inj (e ▸ h.pr.hL)).1;exact absurd this (by decide)) _,owns_set h.row (owns111 h.row h.pr.hL (by decide))⟩
theorem InAt.setS (h:InAt w3 Lb Sh lf hf X x1 x2 N n g cap L w) {c:Nat} (hc:c < 3) (x:Int):InAt w3 Lb Sh lf (upd hf c x) X x1 x2 N n g cap L (w.setCell ⟨Sh,c,none⟩ (.int .i64 x)):=
 ⟨h.pr.setS hc x,h.hX.set (fun e => by have:=(h.hX.inj (e ▸ h.pr.hS)).1;exact absurd this (by decide)) _,owns_set h.row (owns111 h.row h.pr.hS (by decide))⟩
theorem InAt.madeL (h:PrAt w3 Lb Sh lf hf w) (row:w.ownsRow N 111 2 (.slice (some ⟨g,0,none⟩) n cap) L.length (L.flatMap lackRow)) {c:Nat} (hc:c < 3) (x:Int):InAt w3 Lb Sh (upd lf c x) hf w.heap.size x1 x2 N n g cap L ((w.setCell ⟨Lb,c,none⟩ (.int .i64 x)).alloc (.cells #[.int .i64 x1,.int .i64 x2] 111)).drew:=by
 have hn:=Blk.new (w.setCell ⟨Lb,c,none⟩ (.int .i64 x)) #[.int .i64 x1,.int .i64 x2] 111;have e:(w.setCell ⟨Lb,c,none⟩ (.int .i64 x)).heap.size = w.heap.size:=by simp [World.setCell]
 rw [e] at hn;exact InAt.drew ⟨(h.setL hc x).same ((Below.refl _ _).alloc (Nat.le_refl _) _),hn,(owns_set row (owns111 row h.hL (by decide))).alloc _⟩
theorem InAt.madeS (h:PrAt w3 Lb Sh lf hf w) (row:w.ownsRow N 111 2 (.slice (some ⟨g,0,none⟩) n cap) L.length (L.flatMap lackRow)) {c:Nat} (hc:c < 3) (x:Int):InAt w3 Lb Sh lf (upd hf c x) w.heap.size x1 x2 N n g cap L ((w.setCell ⟨Sh,c,none⟩ (.int .i64 x)).alloc (.cells #[.int .i64 x1,.int .i64 x2] 111)).drew:=by
 have hn:=Blk.new (w.setCell ⟨Sh,c,none⟩ (.int .i64 x)) #[.int .i64 x1,.int .i64 x2] 111;have e:(w.setCell ⟨Sh,c,none⟩ (.int .i64 x)).heap.size = w.heap.size:=by simp [World.setCell]
 rw [e] at hn;exact InAt.drew ⟨(h.setS hc x).same ((Below.refl _ _).alloc (Nat.le_refl _) _),hn,(owns_set row (owns111 row h.hS (by decide))).alloc _⟩
end
end Go.Proofs.YtnkejaohnhpbpaaGreatDoor
end
