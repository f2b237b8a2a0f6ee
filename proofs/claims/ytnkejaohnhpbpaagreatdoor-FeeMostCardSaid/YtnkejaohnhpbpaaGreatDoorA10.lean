/- '==' on two arrays of three numbers. -/
import Derived.ChangeKeysEq
import Derived.Maps.AppendAt
import Derived.Maps.OwnIn
import Derived.RangeFuncBox
import Derived.Test.YtnkejaohnhpbpaaGreatDoorA03
import Derived.Test.YtnkejaohnhpbpaaGreatDoorA09
set_option linter.all false
section
namespace Go.Proofs.YtnkejaohnhpbpaaGreatDoor
open Go Go.RowKit
theorem infoOf3:(Tryz.prog.info? 3).isSome = true:=by kernel_rfl
theorem cellsOf3:Tryz.prog.cellsOf 3 = 1:=by kernel_rfl
theorem eql94 (w:World) (a0 a1 a2 b0 b1 b2:Int):(binOp .eql 94 (.agg #[.int .i64 a0,.int .i64 a1,.int .i64 a2]) (.agg #[.int .i64 b0,.int .i64 b1,.int .i64 b2])).run Tryz.prog w = .ok (.bool (a0 == b0 && (a1 == b1 && a2 == b2))) w:=by
 obtain ⟨i,hi⟩:=Option.isSome_iff_exists.1 infoOf3;have e3:∀ d a b,(Op.equalIn (d + 1) 3 (.int .i64 a) (.int .i64 b)).run Tryz.prog w = .ok (a == b) w:=fun d a b => run_equalIn_int w d 3 .i64 .i64 a b Tryz.underlying3;have hp:∀ (c0 c1 c2:Int) (j:Nat) (c:Int),(#[c0,c1,c2]:Array Int)[j]? = some c → (part 3 #[.int .i64 c0,.int .i64 c1,.int .i64 c2] j).run Tryz.prog w = .ok (.int .i64 c) w:=fun c0 c1 c2 j c hc => by
  match j,hc with
  | 0,hc => simp at hc;subst hc;simp [part,go_sem]
  | 1,hc => simp at hc;subst hc;simp [part,go_sem]
  | 2,hc => simp at hc;subst hc;simp [part,go_sem]
 rw [run_eql_struct];rw [show (10000:Nat) = 9999 + 1 from rfl,run_equalIn_array w 9999 _ _ Tryz.underlying94 hi,cellsOf3];have pa0:=hp a0 a1 a2 0 a0 rfl;have pa1:=hp a0 a1 a2 1 a1 rfl;have pa2:=hp a0 a1 a2 2 a2 rfl;have pb0:=hp b0 b1 b2 0 b0 rfl;have pb1:=hp b0 b1 b2 1 b1 rfl;have pb2:=hp b0 b1 b2 2 b2 rfl;have e3':=e3 9998;simp only [Nat.reduceAdd] at e3';simp only [List.range,List.range.loop,Op.eqItems,Sem.run_bind,Nat.mul_one,pa0,pb0,Result.andThen_ok,e3'];cases h0:(a0 == b0)
 ·simp
 ·simp only [Bool.not_true,Bool.false_eq_true,if_false,Sem.run_bind,pa1,pb1,Result.andThen_ok,e3'];cases h1:(a1 == b1)
  ·simp
  ·simp only [Bool.not_true,Bool.false_eq_true,if_false,Sem.run_bind,pa2,pb2,Result.andThen_ok,e3'];cases h2:(a2 == b2) <;> simp
end Go.Proofs.YtnkejaohnhpbpaaGreatDoor
end
section
namespace Go.Proofs.YtnkejaohnhpbpaaGreatDoor
open Go Go.RowKit Lift
theorem Blk.put {w:World} {B:Nat} {ty:TypeId} {cs:Array Value} (h:Blk w B ty cs) (j:Nat) (v:Value):Blk (w.setCell ⟨B,j,none⟩ v) B ty (cs.setIfInBounds j v):=heap_setCell_own h j v
theorem three_at (f:Nat → Int) {k:Nat} (hk:k < 3):(#[Value.int .i64 (f 0),.int .i64 (f 1),.int .i64 (f 2)]:Array Value)[k]? = some (.int .i64 (f k)):=by
 match k,hk with
 | 0,_ => rfl
 | 1,_ => rfl
 | 2,_ => rfl
theorem TillAt.setOwn {N:Nat} {l:Lay} {b:Book} {t:Tl} {s:St} {w:World} (h:TillAt N l b t s w) {B:Nat} {ty:TypeId} {ds:Array Value} (hB:Blk w B ty ds) (h3:ty ≠ 3) (h91:ty ≠ 91) (h96:ty ≠ 96) (hNB:N ≤ B) (hpin:∀ p ∈ t.pins,p.1 ≠ B) (j:Nat) (v:Value):TillAt N l b t s (w.setCell ⟨B,j,none⟩ v):=by
 have hold:∀ k,k ≠ B → (w.setCell ⟨B,j,none⟩ v).heap[k]? = w.heap[k]?:=fun k hk => Below.heap_setCell w _ _ k hk;obtain ⟨cs,h1,h2⟩:=h.stand;obtain ⟨vv,k3,h4,h5,h6⟩:=h.till;have hB':w.heap[B]? = some (.cells ds ty (0,0)):=hB;have nT:t.T ≠ B:=fun e => by rw [e,hB'] at k3;cases k3;exact h96 rfl
 have nS:t.Sb ≠ B:=fun e => by rw [e,hB'] at h1;cases h1;exact h91 rfl
 refine ⟨h.bk.below ((Below.refl N w).setCell hNB _),h.NT,h.NS,h.ne,⟨vv,(hold _ nT).trans k3,?_,h5,h6⟩,h.pin.of (by simp) fun p hp => hold _ (hpin p hp),⟨cs,(hold _ nS).trans h1,h2⟩⟩;obtain ⟨m1,m2⟩:=h4;refine ⟨m1,m2.imp id ?_⟩;rintro ⟨g,cap,cur,a1,a2,a3,a4⟩;have nG:g ≠ B:=fun e => by rw [e,hB'] at a3;cases a3;exact h3 rfl
 exact ⟨g,cap,cur,a1,a2,(hold _ nG).trans a3,a4⟩
theorem below_drewN (w:World) (n:Nat):Below w.heap.size w (w.drewN n):=⟨rfl,rfl,rfl,Nat.le_refl _,fun _ _ => rfl⟩
theorem Tryz.infoI:(Tryz.prog.info? 3).map (fun i => (i.zero,i.size,i.bytes)) = some (some (.int .i64 0),1,8):=by kernel_rfl
theorem TillAt.addVoid {N:Nat} {l:Lay} {b:Book} {t:Tl} {s:St} {w w':World} (h:TillAt N l b t s w) {vv v':Value} {x:Int} (hvv:w.cell? ⟨t.T,14,none⟩ = some vv) (hvT:vv.ownBlock ≠ some t.T) (hvS:vv.ownBlock ≠ some t.Sb) (hvf:t.from vv) (hvN:∀ k,vv.ownBlock = some k → N ≤ k)
  (hown:w'.ownsRow N 3 1 v' (s.voids.length + 1) (s.voids.map (fun x => .int .i64 x) ++ [.int .i64 x])) (hg:w.grownBy w' vv.ownBlock) (hat:v'.ownBlock = vv.ownBlock ∨ v'.ownBlock = some w.heap.size) :
  TillAt N l b t { s with voids:=s.voids ++ [x] } (w'.setCell ⟨t.T,14,none⟩ v') ∧ Below N w (w'.setCell ⟨t.T,14,none⟩ v'):=by
 have hltT:=h.ltT;have hltS:=h.ltS;obtain ⟨cs,h1,h2⟩:=h.stand;obtain ⟨v0,k3,h4,h5,h6⟩:=h.till;have hB0:Below N w w':=(Below.refl N w).grown hg h.bk.hN hvN;have hT':w'.heap[t.T]? = some (.cells (tillCells l b t s v0) 96 (0,0)):=(hg.block t.T hltT (fun e => hvT e.symm)).trans k3;have hS':w'.heap[t.Sb]? = some (.cells cs 91 (0,0)):=(hg.block t.Sb hltS (fun e => hvS e.symm)).trans h1;have nT:v'.ownBlock ≠ some t.T:=by
  rcases hat with e | e
  ·rw [e];exact hvT
  ·rw [e];intro e2;have:=Option.some.inj e2;omega
 have nS:v'.ownBlock ≠ some t.Sb:=by
  rcases hat with e | e
  ·rw [e];exact hvS
  ·rw [e];intro e2;have:=Option.some.inj e2;omega
 have hold:∀ k,k ≠ t.T → (w'.setCell ⟨t.T,14,none⟩ v').heap[k]? = w'.heap[k]?:=fun k hk => Below.heap_setCell w' _ _ k hk;refine ⟨⟨h.bk.below (hB0.setCell h.NT _),h.NT,h.NS,h.ne,⟨v',?_,?_,nT,nS,?_⟩,h.pin.of (Nat.le_trans hg.size (by simp)) fun p hp => (hold _ (h.pin.at_ p hp).2.1).trans (hg.block _ (Array.getElem?_eq_some_iff.1 (h.pin.at_ p hp).1).1 (fun e => h.pin.free hvf hp e.symm)),⟨cs,(hold _ h.ne.symm).trans hS',h2⟩⟩,hB0.setCell h.NT _⟩
 ·rw [heap_setCell_own hT'];rfl
 ·have:({ s with voids:=s.voids ++ [x] }:St).voids.length = s.voids.length + 1:=by simp
  rw [this,List.map_append];exact ownsRow_of hown fun g o hg' ho => (hold g (fun e => nT (by rw [hg',e]))).trans ho
 ·rcases hat with e | e
  ·exact hvf.imp (fun h => e.trans h) (fun ⟨k,h1,h2⟩ => ⟨k,e.trans h1,h2⟩)
  ·exact .inr ⟨_,e,h.pin.lim⟩
theorem TillAt.setAccs {N:Nat} {l:Lay} {b:Book} {t:Tl} {s:St} {w:World} (h:TillAt N l b t s w) {k:Nat} (hk:k < 3) (x:Int) :
  TillAt N l b t { s with acc:=upd s.acc k x } (((w.setCell ⟨t.T,5,none⟩ (.int .i64 (upd s.acc k x 0))).setCell ⟨t.T,6,none⟩ (.int .i64 (upd s.acc k x 1))).setCell ⟨t.T,7,none⟩ (.int .i64 (upd s.acc k x 2))):=by
 have:=((h.setAcc (k:=0) (by omega) (upd s.acc k x 0)).setAcc (k:=1) (by omega) (upd s.acc k x 1)).setAcc (k:=2) (by omega) (upd s.acc k x 2);have e:upd (upd (upd s.acc 0 (upd s.acc k x 0)) 1 (upd s.acc k x 1)) 2 (upd s.acc k x 2) = upd s.acc k x:=by
  funext j
  unfold upd;by_cases h2:j = 2
  ·subst h2;simp
  ·by_cases h1:j = 1
   ·subst h1;simp
   ·by_cases h0:j = 0
    ·subst h0;simp
    ·have hj:j ≠ k:=by omega
     simp [h2,h1,h0,hj]
 simp only [e] at this;exact this
theorem put_three (f:Nat → Int) {k:Nat} (hk:k < 3) (x:Int):(#[Value.int .i64 (f 0),.int .i64 (f 1),.int .i64 (f 2)]:Array Value).setIfInBounds k (.int .i64 x) = #[.int .i64 (upd f k x 0),.int .i64 (upd f k x 1),.int .i64 (upd f k x 2)]:=by
 match k,hk with
 | 0,_ => rfl
 | 1,_ => rfl
 | 2,_ => rfl
set_option maxHeartbeats 4000000 in
set_option maxRecDepth 1000000 in
theorem move_in {N:Nat} {l:Lay} {b:Book} {t:Tl} {s:St} {w:World} (h:TillAt N l b t s w) (hv:Valid b) {i:Nat} (hi:i < b.ps.length) (hkd:(b.payAt i).kind = 2) (hvl:s.voids.length ≤ 1000000) :
 CallsIn Fz 0 Tryz.prog 207 #[.pointer (some ⟨t.T,0,none⟩),.int .i64 i] w fun e w' => e = .returned (.tuple #[]) ∧ TillAt N l b t (s.mv b i) w' ∧ Below N w w':=by
 obtain ⟨pb,po,hP⟩:=h.bk.pay hi;have hN:=h.bk.hN;have hpw:pb < w.heap.size:=Nat.lt_of_lt_of_le hP.hp hN;have vp:=hv.p _ hP.mp;have p0:=hP.rp 0 _ rfl;have p1:=hP.rp 1 _ rfl;have p2:=hP.rp 2 _ rfl;have p3:=hP.rp 3 _ rfl;have p4:=hP.rp 4 _ rfl;have f3:=h.c3;rw [hP.ep] at f3;simp only [Nat.add_zero] at p0;have hnc:=hv.nc;have hnk:=hv.nk;have hk3:(b.payAt i).coin < 3:=by omega
 have hcc:(b.payAt i).cas < b.cs.length:=vp.2.2.2.2.2.2.2 (by omega);have hK:∀ {s:St} {w'},TillAt N l b t s w' → CallsIn Fz 0 Tryz.prog 93 #[.pointer (some ⟨t.T,0,none⟩),.int .i64 (b.payAt i).day] w' fun e w'' => e = .returned (.tuple #[]) ∧ TillAt N l b t (s.keep b (b.payAt i).day) w'' ∧ Below N w' w'':=fun H => keep_in H hv _;obtain ⟨si,hsi⟩:∃ si,si = s.mv b i:=⟨_,rfl⟩
 rw [← hsi];have hs1:(¬ (s.acc 0 = 0 ∧ s.acc 1 = 0 ∧ s.acc 2 = 0) ∧ (s.cases (b.payAt i).cas).state = 0 ∧ 0 ≤ wrap64 (s.acc (b.payAt i).coin - (b.payAt i).amount)) → si = ((s.subAcc (b.payAt i).coin (b.payAt i).amount).addHeld (b.payAt i).cas (b.payAt i).amount).keep b (b.payAt i).day:=fun h => hsi.trans (if_pos h);have hs2:¬ (¬ (s.acc 0 = 0 ∧ s.acc 1 = 0 ∧ s.acc 2 = 0) ∧ (s.cases (b.payAt i).cas).state = 0 ∧ 0 ≤ wrap64 (s.acc (b.payAt i).coin - (b.payAt i).amount)) → si = { s with voids:=s.voids ++ [(i:Int)] }:=fun h => hsi.trans (if_neg h);clear hsi;generalize b.payAt i = p at *;obtain ⟨kd,dy,k,am,cc⟩:=p;simp only at *;subst hkd;have HI1:=Lib.hid hs1;have HI2:=Lib.hid hs2;clear hs1 hs2;have hltT:=h.ltT;have hltS:=h.ltS;have f5:=h.c5;have f6:=h.c6;have f7:=h.c7;gi_enter Tryz.func207,Tryz.ntmps207
 gi_wp2;have hq:=Blk.new w #[.int .i64 2,.int .i64 dy,.int .i64 k,.int .i64 am,.int .i64 cc] 56;have hb1:Below w.heap.size w (w.alloc (.cells #[.int .i64 2,.int .i64 dy,.int .i64 k,.int .i64 am,.int .i64 cc] 56)):=(Below.refl _ w).alloc (Nat.le_refl _) _;have hb2:Below w.heap.size w ((w.alloc (.cells #[.int .i64 2,.int .i64 dy,.int .i64 k,.int .i64 am,.int .i64 cc] 56)).alloc (.cells #[.int .i64 (s.acc 0),.int .i64 (s.acc 1),.int .i64 (s.acc 2)] 94)):=hb1.alloc (by simp) _;have hL:=Blk.new (w.alloc (.cells #[.int .i64 2,.int .i64 dy,.int .i64 k,.int .i64 am,.int .i64 cc] 56)) #[.int .i64 (s.acc 0),.int .i64 (s.acc 1),.int .i64 (s.acc 2)] 94;have hq2:Blk ((w.alloc (.cells #[.int .i64 2,.int .i64 dy,.int .i64 k,.int .i64 am,.int .i64 cc] 56)).alloc (.cells #[.int .i64 (s.acc 0),.int .i64 (s.acc 1),.int .i64 (s.acc 2)] 94)) w.heap.size 56 _:=hq.below ((Below.refl _ _).alloc (Nat.le_refl _) _);have H1:=h.same hb2;have HB1:=hb2.mono hN;rw [World.size_alloc] at hL;clear p0 p1 p2 p3 p4 f3 f5 f6 f7 hb1 hb2 hq;have hneT:t.T ≠ w.heap.size + 1:=by omega
 have hneS:t.Sb ≠ w.heap.size + 1:=by omega
 have hneT':t.T ≠ w.heap.size:=by omega
 have hneS':t.Sb ≠ w.heap.size:=by omega
 have hNB:N ≤ w.heap.size:=hN;have hpins:∀ p ∈ t.pins,p.1 < w.heap.size:=fun p hp => by have:=(h.pin.at_ p hp).2.2.2.2;have:=h.pin.lim;omega
 generalize World.alloc _ _ = w1 at H1 HB1 hq2 hL ⊢;generalize w.heap.size = B at hq2 hL hneT hneS hneT' hneS' hNB hpins ⊢;refine wpIn_region_writes (fun w' => Below w1.heap.size w1 w') (fun w' => ∃ wx,Below w1.heap.size w1 wx ∧ w' = wx.setCell ⟨B + 1,k,none⟩ (.int .i64 (wrap64 (s.acc k - am)))) 8 rfl mixed (by kernel_rfl) (fun d => ⟨rfl,rfl,rfl,Nat.le_refl _,fun _ _ => rfl⟩) ?_;simp only [List.size_toArray,List.length_cons,List.length_nil,Nat.reduceAdd,Nat.zero_add,List.range,List.range.loop]
 iterate 3
  refine det_pure rfl rfl (by decide) ?_;apply Exists.intro;refine ⟨fun T w' hw' K Q hK => ?_,?_⟩
  ·gi_wp2;exact hw'
  apply Exists.intro;refine ⟨rfl,?_⟩;refine det_pre rfl rfl (by kernel_rfl) (.inl (by simp)) ?_;apply Exists.intro;refine ⟨fun w' hw' K Q hK => ?_,?_⟩
  ·have G:=H1.same hw';have q:=hq2.below hw';have q2:=q.cell 2;have q3:=q.cell 3;have qL:=hL.below hw';have qk:=(qL.cell k).trans (three_at s.acc hk3);have qz:=qL.frozen k;simp at q2 q3;gi_wp2;exact hw'
  apply Exists.intro;refine ⟨rfl,?_⟩
 iterate 2
  refine det_pure rfl rfl (by decide) ?_;apply Exists.intro;refine ⟨fun T w' hw' K Q hK => ?_,?_⟩
  ·gi_wp2;exact hw'
  apply Exists.intro;refine ⟨rfl,?_⟩
 refine det_write rfl rfl rfl ?_;apply Exists.intro;refine ⟨fun w' hw' K Q hK => ?_,?_⟩
 ·have G:=H1.same hw';have q:=hq2.below hw';have q2:=q.cell 2;have q3:=q.cell 3;have qL:=hL.below hw';have qk:=(qL.cell k).trans (three_at s.acc hk3);have qz:=qL.frozen k;simp at q2 q3;gi_wp2;exact ⟨w',hw',rfl⟩
 refine ⟨undef,rfl,?_⟩;rintro _ ⟨w2,hw2,rfl⟩;have H2:=(H1.same hw2).setOwn (hL.below hw2) (by decide) (by decide) (by decide) (by omega) (fun p hp e => by have:=hpins p hp;omega) k (.int .i64 (wrap64 (s.acc k - am)));have HB2:=(HB1.trans (hw2.mono H1.bk.hN)).setCell (p:=⟨B + 1,k,none⟩) (by simp only;omega) (.int .i64 (wrap64 (s.acc k - am)));have hq3:=(hq2.below hw2).set (g:=B + 1) (j:=k) (by omega) (.int .i64 (wrap64 (s.acc k - am)));have hL3:=(hL.below hw2).put k (.int .i64 (wrap64 (s.acc k - am)));generalize w2.setCell _ _ = w3 at H2 HB2 hq3 hL3 ⊢;gi_wp2;have f0:=H2.c4;have f1:=H2.sState hcc;have f5:=H2.c5;have f6:=H2.c6;have f7:=H2.c7;have q1:=hq3.cell 1;have q2:=hq3.cell 2;have q3:=hq3.cell 3;have q4:=hq3.cell 4;rw [put_three s.acc hk3] at hL3;have qk:=(hL3.cell k).trans (three_at (upd s.acc k (wrap64 (s.acc k - am))) hk3);rw [upd_same] at qk;simp at q1 q2 q3 q4;have he:=eql94;by_cases hz:s.acc 0 = 0 ∧ s.acc 1 = 0 ∧ s.acc 2 = 0
 ·have hno:¬ (¬ (s.acc 0 = 0 ∧ s.acc 1 = 0 ∧ s.acc 2 = 0) ∧ (s.cases cc).state = 0 ∧ 0 ≤ wrap64 (s.acc k - am)):=fun h => h.1 hz;obtain ⟨z0,z1,z2⟩:=hz;rw [z0] at f5;rw [z1] at f6;rw [z2] at f7;gi_big_quiet_th (fail)
  have HJ:=Lib.hid (HI2.out hno);clear HI1 HI2;have H3:=H2.same (below_drewN w3 nq);have HB3:=HB2.trans ((below_drewN w3 nq).mono H2.bk.hN);clear H2 HB2 hq3 hL3 f0 f1 f5 f6 f7 q1 q2 q3 q4 qk he hq2 hL;generalize w3.drewN nq = w4 at *;obtain ⟨vv,hvv,hrow,hvT,hvS,hvf⟩:=H3.c14;obtain ⟨i0,hi0,hz0,hz1,hz2⟩:=info_parts Tryz.infoI;have hvN:∀ k,vv.ownBlock = some k → N ≤ k:=fun k e => (hrow.lt k e).1;have hN4:=H3.bk.hN;have hal:Below w4.heap.size w4 (w4.alloc (.cells #[.int .i64 i] 3)):=(Below.refl _ w4).alloc (Nat.le_refl _) _;have HA:=H3.same hal;have HBA:=HB3.trans (hal.mono hN4);have hvvA:(w4.alloc (.cells #[.int .i64 i] 3)).cell? ⟨t.T,14,none⟩ = some vv:=(hal.cell (p:=⟨t.T,14,none⟩) H3.ltT).trans hvv;have gA:=HA.frozenT 14;have hltA:=HA.ltT
  gi_wp2_with (gi_at_builtin;refine wpListIn_append_own_at _ rfl _ _ 44 rfl N 3 i0 (.int .i64 0) 1 8 Tryz.underlying44 hi0 hz0 hz1 hz2 rfl (by decide) _ _ _ rfl (hrow.alloc _) ⟨w4.heap.size,0,none⟩ 1 1 [.int .i64 i] rfl rfl (cell_one_new _ _ _) (by simp [Value.oneCell']) (by unfold maxLen;omega) (by omega) (by simp;omega) ?_;intro v' w5 hown' hgrow _ hat';obtain ⟨g',cap',rfl⟩:=ownsRow_succ hown';have k14:=hgrow.cell hvvA (fun e => hvT e.symm);have z14:=(World.frozen?_of_block (a:=⟨t.T,14,none⟩) (hgrow.block t.T hltA (fun e => hvT e.symm))).trans gA;clear hvv gA)
  have hfin:=HA.addVoid hvvA hvT hvS hvf hvN hown' hgrow hat'
  (try simp only [Exit.inBlock,Exit.then]);refine bodyPost_ret (results_none rfl _ _ _) rfl ?_
  exact ⟨rfl,by rw [HJ.out];exact hfin.1,HBA.trans hfin.2⟩
 ·have hz':(s.acc 0 == 0 && (s.acc 1 == 0 && s.acc 2 == 0)) = false:=by
   cases h:(s.acc 0 == 0 && (s.acc 1 == 0 && s.acc 2 == 0)) with
   | false => rfl
   | true => simp at h;exact absurd h hz
  by_cases hs:(s.cases cc).state = 0
  ·by_cases hn:wrap64 (s.acc k - am) < 0
   ·have hno:¬ (¬ (s.acc 0 = 0 ∧ s.acc 1 = 0 ∧ s.acc 2 = 0) ∧ (s.cases cc).state = 0 ∧ 0 ≤ wrap64 (s.acc k - am)):=fun h => by have:=h.2.2;omega
    gi_big_quiet_th (fail)
    have HJ:=Lib.hid (HI2.out hno);clear HI1 HI2;have H3:=H2.same (below_drewN w3 nq);have HB3:=HB2.trans ((below_drewN w3 nq).mono H2.bk.hN);clear H2 HB2 hq3 hL3 f0 f1 f5 f6 f7 q1 q2 q3 q4 qk he hq2 hL;generalize w3.drewN nq = w4 at *;obtain ⟨vv,hvv,hrow,hvT,hvS,hvf⟩:=H3.c14;obtain ⟨i0,hi0,hz0,hz1,hz2⟩:=info_parts Tryz.infoI;have hvN:∀ k,vv.ownBlock = some k → N ≤ k:=fun k e => (hrow.lt k e).1;have hN4:=H3.bk.hN;have hal:Below w4.heap.size w4 (w4.alloc (.cells #[.int .i64 i] 3)):=(Below.refl _ w4).alloc (Nat.le_refl _) _;have HA:=H3.same hal;have HBA:=HB3.trans (hal.mono hN4);have hvvA:(w4.alloc (.cells #[.int .i64 i] 3)).cell? ⟨t.T,14,none⟩ = some vv:=(hal.cell (p:=⟨t.T,14,none⟩) H3.ltT).trans hvv;have gA:=HA.frozenT 14;have hltA:=HA.ltT
    gi_wp2_with (gi_at_builtin;refine wpListIn_append_own_at _ rfl _ _ 44 rfl N 3 i0 (.int .i64 0) 1 8 Tryz.underlying44 hi0 hz0 hz1 hz2 rfl (by decide) _ _ _ rfl (hrow.alloc _) ⟨w4.heap.size,0,none⟩ 1 1 [.int .i64 i] rfl rfl (cell_one_new _ _ _) (by simp [Value.oneCell']) (by unfold maxLen;omega) (by omega) (by simp;omega) ?_;intro v' w5 hown' hgrow _ hat';obtain ⟨g',cap',rfl⟩:=ownsRow_succ hown';have k14:=hgrow.cell hvvA (fun e => hvT e.symm);have z14:=(World.frozen?_of_block (a:=⟨t.T,14,none⟩) (hgrow.block t.T hltA (fun e => hvT e.symm))).trans gA;clear hvv gA)
    have hfin:=HA.addVoid hvvA hvT hvS hvf hvN hown' hgrow hat'
    (try simp only [Exit.inBlock,Exit.then]);refine bodyPost_ret (results_none rfl _ _ _) rfl ?_
    exact ⟨rfl,by rw [HJ.out];exact hfin.1,HBA.trans hfin.2⟩
   ·have HJ:=Lib.hid (HI1.out ⟨hz,hs,by omega⟩);clear HI1 HI2;gi_big_quiet_th (fail)
    have H3:=H2.same (below_drewN w3 nq);have HB3:=HB2.trans ((below_drewN w3 nq).mono H2.bk.hN);have hq4:=hq3.below (below_drewN w3 nq);have hL4:=hL3.below (below_drewN w3 nq);clear H2 HB2 hq3 hL3 f0 f1 f5 f6 f7 q1 q2 q3 q4 qk he hq2 hL;generalize w3.drewN nq = w4 at *;have l0:=hL4.cell 0;have l1:=hL4.cell 1;have l2:=hL4.cell 2;have g5:=H3.frozenT 5;have g6:=H3.frozenT 6;have g7:=H3.frozenT 7;have f5:=H3.c5;have f6:=H3.c6;have f7:=H3.c7;simp at l0 l1 l2;gi_wp2;have H4:=H3.setAccs hk3 (wrap64 (s.acc k - am));have HB4:=((HB3.setCell (p:=⟨t.T,5,none⟩) H3.NT (.int .i64 (upd s.acc k (wrap64 (s.acc k - am)) 0))).setCell (p:=⟨t.T,6,none⟩) H3.NT (.int .i64 (upd s.acc k (wrap64 (s.acc k - am)) 1))).setCell (p:=⟨t.T,7,none⟩) H3.NT (.int .i64 (upd s.acc k (wrap64 (s.acc k - am)) 2));have hq5:=((hq4.set (g:=t.T) (j:=5) hneT' (.int .i64 (upd s.acc k (wrap64 (s.acc k - am)) 0))).set (g:=t.T) (j:=6) hneT' (.int .i64 (upd s.acc k (wrap64 (s.acc k - am)) 1))).set (g:=t.T) (j:=7) hneT' (.int .i64 (upd s.acc k (wrap64 (s.acc k - am)) 2))
    change TillAt N l b t (s.subAcc k am) _ at H4
    clear l0 l1 l2 g5 g6 g7 f5 f6 f7;generalize ((w4.setCell _ _).setCell _ _).setCell _ _ = w5 at H4 HB4 hq5 ⊢;obtain ⟨s2,hs2⟩:∃ s2,s2 = s.subAcc k am:=⟨_,rfl⟩
    rw [← hs2] at H4 HJ;clear hs2;refine wpIn_region_writes (fun w' => Below w5.heap.size w5 w') (fun w' => ∃ wx,Below w5.heap.size w5 wx ∧ w' = wx.setCell ⟨t.Sb,cc * 4 + 1,none⟩ (.int .i64 (wrap64 ((s2.cases cc).held + am)))) 14 rfl mixed (by kernel_rfl) (fun d => ⟨rfl,rfl,rfl,Nat.le_refl _,fun _ _ => rfl⟩) ?_;simp only [List.size_toArray,List.length_cons,List.length_nil,Nat.reduceAdd,Nat.zero_add,List.range,List.range.loop]
    iterate 3
     refine det_pure rfl rfl (by decide) ?_;apply Exists.intro;refine ⟨fun T w' hw' K Q hK => ?_,?_⟩
     ·gi_wp2;exact hw'
     apply Exists.intro;refine ⟨rfl,?_⟩
    iterate 2
     refine det_pre rfl rfl (by kernel_rfl) (.inl (by simp)) ?_;apply Exists.intro;refine ⟨fun w' hw' K Q hK => ?_,?_⟩
     ·have G:=H4.same hw';have q:=hq5.below hw';have q3:=q.cell 3;have q4:=q.cell 4;have f4:=G.c4;have f0:=G.sHeld hcc;have f1:=G.frozenS (cc * 4 + 1);simp at q3 q4;gi_wp2;exact hw'
     apply Exists.intro;refine ⟨rfl,?_⟩;refine det_pure rfl rfl (by decide) ?_;apply Exists.intro;refine ⟨fun T w' hw' K Q hK => ?_,?_⟩
     ·gi_wp2;exact hw'
     apply Exists.intro;refine ⟨rfl,?_⟩
    iterate 2
     refine det_pure rfl rfl (by decide) ?_;apply Exists.intro;refine ⟨fun T w' hw' K Q hK => ?_,?_⟩
     ·gi_wp2;exact hw'
     apply Exists.intro;refine ⟨rfl,?_⟩;refine det_pre rfl rfl (by kernel_rfl) (.inl (by simp)) ?_;apply Exists.intro;refine ⟨fun w' hw' K Q hK => ?_,?_⟩
     ·have G:=H4.same hw';have q:=hq5.below hw';have q3:=q.cell 3;have q4:=q.cell 4;have f4:=G.c4;have f0:=G.sHeld hcc;have f1:=G.frozenS (cc * 4 + 1);simp at q3 q4;gi_wp2;exact hw'
     apply Exists.intro;refine ⟨rfl,?_⟩
    iterate 3
     refine det_pure rfl rfl (by decide) ?_;apply Exists.intro;refine ⟨fun T w' hw' K Q hK => ?_,?_⟩
     ·gi_wp2;exact hw'
     apply Exists.intro;refine ⟨rfl,?_⟩
    refine det_write rfl rfl rfl ?_;apply Exists.intro;refine ⟨fun w' hw' K Q hK => ?_,?_⟩
    ·have G:=H4.same hw';have q:=hq5.below hw';have q3:=q.cell 3;have q4:=q.cell 4;have f4:=G.c4;have f0:=G.sHeld hcc;have f1:=G.frozenS (cc * 4 + 1);simp at q3 q4;gi_wp2;exact ⟨w',hw',rfl⟩
    refine ⟨undef,rfl,?_⟩;rintro _ ⟨w6,hw6,rfl⟩;have H5:=(H4.same hw6).setHeld hcc (wrap64 ((s2.cases cc).held + am));have HB5:=(HB4.trans (hw6.mono H4.bk.hN)).setCell (p:=⟨t.Sb,cc * 4 + 1,none⟩) H4.NS (.int .i64 (wrap64 ((s2.cases cc).held + am)));have hq6:=(hq5.below hw6).set (g:=t.Sb) (j:=cc * 4 + 1) hneS' (.int .i64 (wrap64 ((s2.cases cc).held + am)))
    change TillAt N l b t (s2.addHeld cc am) _ at H5
    generalize w6.setCell _ _ = w7 at H5 HB5 hq6 ⊢;have q1:=hq6.cell 1;simp at q1
    gi_wp2_with (gi_at_call 93;refine (hK H5).mono ?_;rintro e w8 ⟨rfl,H6,hb6⟩)
    go_end0;exact ⟨rfl,by rw [HJ.out];exact H6,HB5.trans hb6⟩
  ·have hno:¬ (¬ (s.acc 0 = 0 ∧ s.acc 1 = 0 ∧ s.acc 2 = 0) ∧ (s.cases cc).state = 0 ∧ 0 ≤ wrap64 (s.acc k - am)):=fun h => hs h.2.1;have hsb1:decide ((s.cases cc).state = 0) = false:=by simp [hs]
   have hsb2:((s.cases cc).state == 0) = false:=by simp [hs]
   have hsb3:((s.cases cc).state != 0) = true:=by simp [hs]
   gi_big_quiet_th (fail)
   have HJ:=Lib.hid (HI2.out hno);clear HI1 HI2;have H3:=H2.same (below_drewN w3 nq);have HB3:=HB2.trans ((below_drewN w3 nq).mono H2.bk.hN);clear H2 HB2 hq3 hL3 f0 f1 f5 f6 f7 q1 q2 q3 q4 qk he hq2 hL;generalize w3.drewN nq = w4 at *;obtain ⟨vv,hvv,hrow,hvT,hvS,hvf⟩:=H3.c14;obtain ⟨i0,hi0,hz0,hz1,hz2⟩:=info_parts Tryz.infoI;have hvN:∀ k,vv.ownBlock = some k → N ≤ k:=fun k e => (hrow.lt k e).1;have hN4:=H3.bk.hN;have hal:Below w4.heap.size w4 (w4.alloc (.cells #[.int .i64 i] 3)):=(Below.refl _ w4).alloc (Nat.le_refl _) _;have HA:=H3.same hal;have HBA:=HB3.trans (hal.mono hN4);have hvvA:(w4.alloc (.cells #[.int .i64 i] 3)).cell? ⟨t.T,14,none⟩ = some vv:=(hal.cell (p:=⟨t.T,14,none⟩) H3.ltT).trans hvv;have gA:=HA.frozenT 14;have hltA:=HA.ltT
   gi_wp2_with (gi_at_builtin;refine wpListIn_append_own_at _ rfl _ _ 44 rfl N 3 i0 (.int .i64 0) 1 8 Tryz.underlying44 hi0 hz0 hz1 hz2 rfl (by decide) _ _ _ rfl (hrow.alloc _) ⟨w4.heap.size,0,none⟩ 1 1 [.int .i64 i] rfl rfl (cell_one_new _ _ _) (by simp [Value.oneCell']) (by unfold maxLen;omega) (by omega) (by simp;omega) ?_;intro v' w5 hown' hgrow _ hat';obtain ⟨g',cap',rfl⟩:=ownsRow_succ hown';have k14:=hgrow.cell hvvA (fun e => hvT e.symm);have z14:=(World.frozen?_of_block (a:=⟨t.T,14,none⟩) (hgrow.block t.T hltA (fun e => hvT e.symm))).trans gA;clear hvv gA)
   have hfin:=HA.addVoid hvvA hvT hvS hvf hvN hown' hgrow hat'
   (try simp only [Exit.inBlock,Exit.then]);refine bodyPost_ret (results_none rfl _ _ _) rfl ?_
   exact ⟨rfl,by rw [HJ.out];exact hfin.1,HBA.trans hfin.2⟩
end Go.Proofs.YtnkejaohnhpbpaaGreatDoor
end
