/- FeePast, beside leavers. PRINTED BY A PROGRAM. -/
import Derived.Test.YtnkejaohnhpbpaaGreatDoorA36
import Derived.Test.YtnkejaohnhpbpaaGreatDoorA53
import Derived.Test.YtnkejaohnhpbpaaGreatDoorA64
set_option linter.all false
namespace Go.Proofs.YtnkejaohnhpbpaaGreatDoor
open Go Go.Conc Go.RowKit Lift
set_option maxHeartbeats 16000000 in
set_option maxRecDepth 1000000 in
theorem law10 [Keep] {w:World} {l:Lay} {b:RBook} (hbk:RBkAt w.heap.size l b w) (hcap:b.coins.length ≤ l.cc) (hkd:KindsAt w) (hlim:Keep.lim ≤ w.heap.size) {day:Int} {m:RPay} (d0:0 ≤ day) (d1:day ≤ 65535) :
  Raw Tryz.prog (AtLeave Tryz.prog 10 Tryz.f10 fun v w1 S1 => v = .bool true ∧ GrowS w.heap.size w (fun _ => False) w1 S1) (G (Frame.enter Tryz.prog 10 #[.agg (l.rarr b),.int .u16 day,.agg #[.int .i64 m.kind,.int .i64 m.day,.int .i64 m.coin,.int .i64 m.amount,.int .i64 m.cas]] .normal) []) w (fun _ => False):=by
 refine raw_of_wpR fit (by simp) Tryz.func10 rfl ?_
 generalize (fun _ => False:Blks) = S
 simp only [Tryz.ntmps10,List.size_toArray,List.length_cons,List.length_nil,Nat.reduceAdd,Nat.reduceSub,Array.replicate_succ,Array.replicate_zero,List.push_toArray,List.append_toArray,List.nil_append,List.cons_append]
 refine wpR_thenZ fun wa hs => ?_
 gi_wp2
 have ha1:Below wa.heap.size wa (wa.alloc (.cells (l.rarr b) 27)):=(Below.refl _ wa).alloc (Nat.le_refl _) _
 have ha2:Below (wa.alloc (.cells (l.rarr b) 27)).heap.size (wa.alloc (.cells (l.rarr b) 27)) ((wa.alloc (.cells (l.rarr b) 27)).alloc (.cells #[.int .i64 m.kind,.int .i64 m.day,.int .i64 m.coin,.int .i64 m.amount,.int .i64 m.cas] 56)):=(Below.refl _ _).alloc (Nat.le_refl _) _
 have E:LawAt w S w.heap.size l b wa.heap.size ((wa.alloc (.cells (l.rarr b) 27)).alloc (.cells #[.int .i64 m.kind,.int .i64 m.day,.int .i64 m.coin,.int .i64 m.amount,.int .i64 m.cas] 56)) S:=by
  have hsz:wa.heap.size = w.heap.size:=by rw [hs.heap]
  have hg:Grow w.heap.size w ((wa.alloc (.cells (l.rarr b) 27)).alloc (.cells #[.int .i64 m.kind,.int .i64 m.day,.int .i64 m.coin,.int .i64 m.amount,.int .i64 m.cas] 56)):=hs.grow ((ha1.trans (ha2.mono ha1.size)).mono (by omega))
  exact ⟨hg.s,hbk.grow hg,(Blk.new wa _ _).below ha2,by omega,hkd.grow hg hkd.lt⟩
 have hM:Blk ((wa.alloc (.cells (l.rarr b) 27)).alloc (.cells #[.int .i64 m.kind,.int .i64 m.day,.int .i64 m.coin,.int .i64 m.amount,.int .i64 m.cas] 56)) (wa.heap.size + 1) 56 #[.int .i64 m.kind,.int .i64 m.day,.int .i64 m.coin,.int .i64 m.amount,.int .i64 m.cas]:=by
  have:=Blk.new (wa.alloc (.cells (l.rarr b) 27)) #[.int .i64 m.kind,.int .i64 m.day,.int .i64 m.coin,.int .i64 m.amount,.int .i64 m.cas] 56
  rwa [World.size_alloc] at this
 have h0:=hkd.lt
 clear hs hbk hkd ha1 ha2
 generalize (wa.alloc _).alloc _ = W at *
 obtain ⟨BM,hBM⟩:∃ BM,wa.heap.size + 1 = BM:=⟨_,rfl⟩
 rw [hBM] at hM ⊢
 clear hBM
 generalize wa.heap.size = B at *
 refine wpR_seq fit ?_
 refine wpR_thenZ fun wb hs => ?_
 replace E:=E.same hs
 replace hM:=hM.gr (hs.g _)
 clear hs
 have g0:=E.bx.cell 0;have g1:=E.bx.cell 1;have g2:=E.bx.cell 2;have g3:=E.bx.cell 3;simp at g0 g1 g2 g3;have ltB:=E.bx.lt
 have hcall:=Fit_in E.bk hcap
 gi_wp2_with (gi_at_call 35;with_reducible refine hcall.mono ?_;rintro e w2 ⟨⟨r,rfl,hr⟩,hb2⟩;replace E:=E.below hb2;replace hM:=hM.gr (Grow.of hb2);clear g0 g1 g2 g3 ltB hb2;have g0:=E.bx.cell 0;have g1:=E.bx.cell 1;have g2:=E.bx.cell 2;have g3:=E.bx.cell 3;simp at g0 g1 g2 g3;have ltB:=E.bx.lt;rcases r with _ | _)
 ·refine wpR_cond fit (t:=true) rfl ?_
  simp only [if_true]
  refine wpR_seq fit (wpR_region fit ?_)
  simp only [List.size_toArray,List.length_cons,List.length_nil,Nat.reduceAdd,List.range,List.range.loop]
  refine opsR_callZ rfl rfl rfl Tryz.func17 (by kernel_rfl) body17 (vals:=#[]) (by simp) (paid_R E.kd (Nat.le_trans hlim E.g.size)) ?_
  rintro u w5 S5 ⟨rfl,hg5⟩
  replace E:=E.grow hg5
  clear hg5
  refine opsR_loneZ rfl rfl fun wr hs => ?_
  replace E:=E.same hs
  clear hs
  gi_wp2
  refine opsR_nil fit ?_
  refine wpR_ret fit ?_
  exact ⟨rfl,.bool true,fun τ d => by rw [results_tmp rfl];rfl,rfl,E.g⟩
 ·have hR:b.Right:=hr (by trivial)
  have hf:=hR.full
  refine wpR_cond fit (t:=false) rfl ?_
  simp only [Bool.false_eq_true,if_false]
  refine wpR_skip fit ?_
  clear g0 g1 g2 g3 ltB
  clear hr
  refine wpR_thenZ fun wr hs => ?_
  replace E:=E.same hs
  replace hM:=hM.gr (hs.g _)
  clear hs
  have g0:=E.bx.cell 0;have g1:=E.bx.cell 1;have g2:=E.bx.cell 2;have g3:=E.bx.cell 3;simp at g0 g1 g2 g3;have ltB:=E.bx.lt
  gi_wp2
  clear g0 g1 g2 g3 ltB
  obtain ⟨n,en⟩:∃ n:Nat,day % 10000 = n:=⟨(day % 10000).toNat,by omega⟩
  have hn:n ≤ 9999:=by omega
  rw [en]
  clear en
  simp only [thenR]
  refine wpR_seq fit (wpR_mono (Q:=fun e a' w' S' => e = .normal ∧ ∃ B8 B9:Nat,LawAt w S w.heap.size l b B w' S' ∧ Blk w' BM 56 #[.int .i64 m.kind,.int .i64 m.day,.int .i64 m.coin,.int .i64 m.amount,.int .i64 m.cas] ∧ Blk w' B8 27 (l.rarr b) ∧ Blk w' B9 27 (l.rarr b) ∧ (B8 ≠ B9 ∧ w.heap.size ≤ B8 ∧ w.heap.size ≤ B9 ∧ B < B8 ∧ B < B9 ∧ BM < B8 ∧ BM < B9) ∧ ∃ u1 u2 u4 u10 u11 u12 u13 u14 u15 u16 u17 u18 u19 u20 u21 u22 u23 u24 u25 u26 u27 u28 u29 u30 u31 u32 u33 u34 u35 u36 u37 u38 u39 u40 u41 u42 u43 u44 u45 u47 u48 u50 u53 u54 u55 u56 u57 u58 u59 u60 u61 u62 u63 u64 u65 u66 u67 u68 u69 u70 u71 u72 u73 u74 u75 u76:Value,a' = ⟨#[.agg (l.rarr b),u1,u2,.pointer (some ⟨B,0,none⟩),u4,.pointer (some ⟨BM,0,none⟩),.bool false,.int .i64 n,.pointer (some ⟨B8,0,none⟩),.pointer (some ⟨B9,0,none⟩),u10,u11,u12,u13,u14,u15,u16,u17,u18,u19,u20,u21,u22,u23,u24,u25,u26,u27,u28,u29,u30,u31,u32,u33,u34,u35,u36,u37,u38,u39,u40,u41,u42,u43,u44,u45,undef,u47,u48,undef,u50,undef,undef,u53,u54,u55,u56,u57,u58,u59,u60,u61,u62,u63,u64,u65,u66,u67,u68,u69,u70,u71,u72,u73,u74,u75,u76],[]⟩) ?pre ?post)
  case pre =>
   refine wpR_loneZ fun wr hs => ?_
   replace E:=E.same hs
   replace hM:=hM.gr (hs.g _)
   clear hs
   have g0:=E.bx.cell 0;have g1:=E.bx.cell 1;have g2:=E.bx.cell 2;have g3:=E.bx.cell 3;simp at g0 g1 g2 g3;have ltB:=E.bx.lt
   refine hideQ fun Q' hQ => ?_
   gi_region
   all_goals
    refine hQ _ _ _ ?_
    clear hQ
    clear g0 g1 g2 g3 ltB
    have hb:Below wr.heap.size wr ((wr.alloc (.cells (l.rarr b) 27)).alloc (.cells (l.rarr b) 27)).drew:=(((Below.refl _ wr).alloc (Nat.le_refl _) _).alloc (by simp) _).trans ⟨rfl,rfl,rfl,Nat.le_refl _,fun _ _ => rfl⟩
    have h8:Blk ((wr.alloc (.cells (l.rarr b) 27)).alloc (.cells (l.rarr b) 27)).drew wr.heap.size 27 (l.rarr b):=show Blk ((wr.alloc (.cells (l.rarr b) 27)).alloc (.cells (l.rarr b) 27)) wr.heap.size 27 (l.rarr b) from (Blk.new wr _ _).below ((Below.refl _ _).alloc (Nat.le_refl _) _)
    have h9:Blk ((wr.alloc (.cells (l.rarr b) 27)).alloc (.cells (l.rarr b) 27)).drew (wr.heap.size + 1) 27 (l.rarr b):=by
     have:=Blk.new (wr.alloc (.cells (l.rarr b) 27)) (l.rarr b) 27
     rwa [World.size_alloc] at this
    have q1:=E.bx.lt
    have q2:=hM.lt
    have q3:=E.g.size
    first
     | exact ⟨rfl,wr.heap.size,wr.heap.size + 1,E.below hb,hM.below hb,h8,h9,by omega,by (repeat apply Exists.intro);with_reducible rfl⟩
     | exact ⟨rfl,wr.heap.size + 1,wr.heap.size,E.below hb,hM.below hb,h9,h8,by omega,by (repeat apply Exists.intro);with_reducible rfl⟩
  case post =>
   clear E hM
   rintro e a w1 S1 ⟨rfl,B8,B9,E,hM,h8,h9,⟨k1,k2,k3,k4,k5,k6,k7⟩,hfr⟩
   obtain ⟨u1,hfr⟩:=hfr;obtain ⟨u2,hfr⟩:=hfr;obtain ⟨u4,hfr⟩:=hfr;obtain ⟨u10,hfr⟩:=hfr;obtain ⟨u11,hfr⟩:=hfr;obtain ⟨u12,hfr⟩:=hfr;obtain ⟨u13,hfr⟩:=hfr;obtain ⟨u14,hfr⟩:=hfr;obtain ⟨u15,hfr⟩:=hfr;obtain ⟨u16,hfr⟩:=hfr;obtain ⟨u17,hfr⟩:=hfr;obtain ⟨u18,hfr⟩:=hfr;obtain ⟨u19,hfr⟩:=hfr;obtain ⟨u20,hfr⟩:=hfr;obtain ⟨u21,hfr⟩:=hfr;obtain ⟨u22,hfr⟩:=hfr;obtain ⟨u23,hfr⟩:=hfr;obtain ⟨u24,hfr⟩:=hfr;obtain ⟨u25,hfr⟩:=hfr;obtain ⟨u26,hfr⟩:=hfr;obtain ⟨u27,hfr⟩:=hfr;obtain ⟨u28,hfr⟩:=hfr;obtain ⟨u29,hfr⟩:=hfr;obtain ⟨u30,hfr⟩:=hfr;obtain ⟨u31,hfr⟩:=hfr;obtain ⟨u32,hfr⟩:=hfr;obtain ⟨u33,hfr⟩:=hfr;obtain ⟨u34,hfr⟩:=hfr;obtain ⟨u35,hfr⟩:=hfr;obtain ⟨u36,hfr⟩:=hfr;obtain ⟨u37,hfr⟩:=hfr;obtain ⟨u38,hfr⟩:=hfr;obtain ⟨u39,hfr⟩:=hfr;obtain ⟨u40,hfr⟩:=hfr;obtain ⟨u41,hfr⟩:=hfr;obtain ⟨u42,hfr⟩:=hfr;obtain ⟨u43,hfr⟩:=hfr;obtain ⟨u44,hfr⟩:=hfr;obtain ⟨u45,hfr⟩:=hfr;obtain ⟨u47,hfr⟩:=hfr;obtain ⟨u48,hfr⟩:=hfr;obtain ⟨u50,hfr⟩:=hfr;obtain ⟨u53,hfr⟩:=hfr;obtain ⟨u54,hfr⟩:=hfr;obtain ⟨u55,hfr⟩:=hfr;obtain ⟨u56,hfr⟩:=hfr;obtain ⟨u57,hfr⟩:=hfr;obtain ⟨u58,hfr⟩:=hfr;obtain ⟨u59,hfr⟩:=hfr;obtain ⟨u60,hfr⟩:=hfr;obtain ⟨u61,hfr⟩:=hfr;obtain ⟨u62,hfr⟩:=hfr;obtain ⟨u63,hfr⟩:=hfr;obtain ⟨u64,hfr⟩:=hfr;obtain ⟨u65,hfr⟩:=hfr;obtain ⟨u66,hfr⟩:=hfr;obtain ⟨u67,hfr⟩:=hfr;obtain ⟨u68,hfr⟩:=hfr;obtain ⟨u69,hfr⟩:=hfr;obtain ⟨u70,hfr⟩:=hfr;obtain ⟨u71,hfr⟩:=hfr;obtain ⟨u72,hfr⟩:=hfr;obtain ⟨u73,hfr⟩:=hfr;obtain ⟨u74,hfr⟩:=hfr;obtain ⟨u75,hfr⟩:=hfr;obtain ⟨u76,hfr⟩:=hfr
   subst hfr
   simp only [thenR]
   refine wpR_thenZ fun wr hs => ?_
   replace E:=E.same hs
   replace hM:=hM.gr (hs.g _)
   replace h8:=hs.blk h8
   replace h9:=hs.blk h9
   clear hs
   have z3:=h8.cell 3;have y3:=h8.frozen 3;simp at z3;have lt8:=h8.lt;have lt9:=h9.lt
   gi_wp2
   clear z3 y3
   replace E:=E.pokeG (j:=3) (v:=.slice none 0 0) h0 (Grow.refl _ _) k2 (by omega)
   replace hM:=hM.set (j:=3) (show B8 ≠ BM by omega) (.slice none 0 0)
   replace h9:=h9.set (j:=3) k1 (.slice none 0 0)
   replace h8:=h8.put 3 (.slice none 0 0)
   simp only [Lay.rarr,List.setIfInBounds_toArray,List.set_cons_zero,List.set_cons_succ] at h8
   obtain ⟨N0,hN0⟩:∃ N0,(wr.setCell ⟨B8,3,none⟩ (.slice none 0 0)).heap.size = N0:=⟨_,rfl⟩
   have b8:B8 < N0:=by rw [← hN0,World.size_setCell];exact lt8
   have b9:B9 < N0:=by rw [← hN0,World.size_setCell];exact lt9
   clear lt8 lt9
   generalize wr.setCell _ _ = W5 at *
   simp only [thenR]
   refine wpR_seq fit ?_
   refine wpR_thenZ fun wr hs => ?_
   replace E:=E.same hs
   replace hM:=hM.gr (hs.g _)
   replace h8:=hs.blk h8
   replace h9:=hs.blk h9
   have hNw:N0 ≤ wr.heap.size:=by rw [hs.heap];omega
   clear hs hN0
   gi_wp2
   simp only [thenR]
   refine wpR_block fit ?_
   refine wpR_loop fit (fun k a w' S' => ∃ j:Nat,j ≤ b.ps.length ∧ k = b.ps.length - j ∧ LawAt w S w.heap.size l b B w' S' ∧ Blk w' BM 56 #[.int .i64 m.kind,.int .i64 m.day,.int .i64 m.coin,.int .i64 m.amount,.int .i64 m.cas] ∧ Blk w' B9 27 (l.rarr b) ∧ N0 ≤ w'.heap.size ∧ (∃ v,Blk w' B8 27 #[.slice l.cb b.coins.length l.cc,.slice l.tb b.ts.length l.tc,.slice l.kb b.cs.length l.kc,v] ∧ w'.ownsRow N0 56 5 v (b.upTo n j).length (payCells (b.upTo n j))) ∧ ∃ u1 u2 u4 u11 u12 u13 u14 u15 u16 u17 u18 u19 u20 u21 u22 u23 u24 u25 u26 u27 u28 u29 u30 u31 u32 u33 u34 u35 u36 u37 u38 u39 u40 u41 u42 u43 u44 u45 u47 u48 u50 u53 u54 u55 u56 u57 u58 u59 u60 u61 u62 u63 u64 u65 u66 u67 u68 u69 u70 u71 u72 u73 u74 u75 u76:Value,a = ⟨#[.agg (l.rarr b),u1,u2,.pointer (some ⟨B,0,none⟩),u4,.pointer (some ⟨BM,0,none⟩),.bool false,.int .i64 n,.pointer (some ⟨B8,0,none⟩),.pointer (some ⟨B9,0,none⟩),.int .i64 j,u11,u12,u13,u14,u15,u16,u17,u18,u19,u20,u21,u22,u23,u24,u25,u26,u27,u28,u29,u30,u31,u32,u33,u34,u35,u36,u37,u38,u39,u40,u41,u42,u43,u44,u45,undef,u47,u48,undef,u50,undef,undef,u53,u54,u55,u56,u57,u58,u59,u60,u61,u62,u63,u64,u65,u66,u67,u68,u69,u70,u71,u72,u73,u74,u75,u76],[]⟩) b.ps.length ?start ?_
   case start => refine ⟨0,Nat.zero_le _,rfl,E,hM,h9,hNw,⟨_,h8,World.ownsRow_nil _ _ _ _⟩,?_⟩;(repeat apply Exists.intro);rfl
   clear E hM h8 h9 hNw
   rintro k a w1 S1 ⟨j,hj,rfl,E,hM,h9,hNw,⟨v,h8,hv⟩,hfr⟩
   obtain ⟨u1,hfr⟩:=hfr;obtain ⟨u2,hfr⟩:=hfr;obtain ⟨u4,hfr⟩:=hfr;obtain ⟨u11,hfr⟩:=hfr;obtain ⟨u12,hfr⟩:=hfr;obtain ⟨u13,hfr⟩:=hfr;obtain ⟨u14,hfr⟩:=hfr;obtain ⟨u15,hfr⟩:=hfr;obtain ⟨u16,hfr⟩:=hfr;obtain ⟨u17,hfr⟩:=hfr;obtain ⟨u18,hfr⟩:=hfr;obtain ⟨u19,hfr⟩:=hfr;obtain ⟨u20,hfr⟩:=hfr;obtain ⟨u21,hfr⟩:=hfr;obtain ⟨u22,hfr⟩:=hfr;obtain ⟨u23,hfr⟩:=hfr;obtain ⟨u24,hfr⟩:=hfr;obtain ⟨u25,hfr⟩:=hfr;obtain ⟨u26,hfr⟩:=hfr;obtain ⟨u27,hfr⟩:=hfr;obtain ⟨u28,hfr⟩:=hfr;obtain ⟨u29,hfr⟩:=hfr;obtain ⟨u30,hfr⟩:=hfr;obtain ⟨u31,hfr⟩:=hfr;obtain ⟨u32,hfr⟩:=hfr;obtain ⟨u33,hfr⟩:=hfr;obtain ⟨u34,hfr⟩:=hfr;obtain ⟨u35,hfr⟩:=hfr;obtain ⟨u36,hfr⟩:=hfr;obtain ⟨u37,hfr⟩:=hfr;obtain ⟨u38,hfr⟩:=hfr;obtain ⟨u39,hfr⟩:=hfr;obtain ⟨u40,hfr⟩:=hfr;obtain ⟨u41,hfr⟩:=hfr;obtain ⟨u42,hfr⟩:=hfr;obtain ⟨u43,hfr⟩:=hfr;obtain ⟨u44,hfr⟩:=hfr;obtain ⟨u45,hfr⟩:=hfr;obtain ⟨u47,hfr⟩:=hfr;obtain ⟨u48,hfr⟩:=hfr;obtain ⟨u50,hfr⟩:=hfr;obtain ⟨u53,hfr⟩:=hfr;obtain ⟨u54,hfr⟩:=hfr;obtain ⟨u55,hfr⟩:=hfr;obtain ⟨u56,hfr⟩:=hfr;obtain ⟨u57,hfr⟩:=hfr;obtain ⟨u58,hfr⟩:=hfr;obtain ⟨u59,hfr⟩:=hfr;obtain ⟨u60,hfr⟩:=hfr;obtain ⟨u61,hfr⟩:=hfr;obtain ⟨u62,hfr⟩:=hfr;obtain ⟨u63,hfr⟩:=hfr;obtain ⟨u64,hfr⟩:=hfr;obtain ⟨u65,hfr⟩:=hfr;obtain ⟨u66,hfr⟩:=hfr;obtain ⟨u67,hfr⟩:=hfr;obtain ⟨u68,hfr⟩:=hfr;obtain ⟨u69,hfr⟩:=hfr;obtain ⟨u70,hfr⟩:=hfr;obtain ⟨u71,hfr⟩:=hfr;obtain ⟨u72,hfr⟩:=hfr;obtain ⟨u73,hfr⟩:=hfr;obtain ⟨u74,hfr⟩:=hfr;obtain ⟨u75,hfr⟩:=hfr;obtain ⟨u76,hfr⟩:=hfr
   subst hfr
   refine wpR_seq fit ?_
   have hnp:=hR.np
   by_cases hl:j < b.ps.length
   ·have hlI:decide ((j:Int) < b.ps.length) = true:=decide_eq_true (by omega)
    refine wpR_thenZ fun wr hs => ?_
    replace E:=E.same hs
    replace hM:=hM.gr (hs.g _)
    replace h8:=hs.blk h8
    replace h9:=hs.blk h9
    replace hv:=owns_same hv hs
    replace hNw:N0 ≤ wr.heap.size:=by rw [hs.heap];exact hNw
    clear hs
    have g0:=E.bx.cell 0;have g1:=E.bx.cell 1;have g2:=E.bx.cell 2;have g3:=E.bx.cell 3;simp at g0 g1 g2 g3;have ltB:=E.bx.lt
    gi_wp2
    clear g0 g1 g2 g3 ltB
    refine wpR_cond fit (t:=true) rfl ?_
    simp only [if_true]
    refine wpR_skip fit ?_
    simp only [thenR]
    refine wpR_seq fit ?_
    refine wpR_block fit ?_
    have hpj:=hR.p (b.payAt j) (by rw [payAt_get hl];exact List.getElem_mem hl)
    obtain ⟨dy,hdy⟩:∃ dy,(b.payAt j).day = dy:=⟨_,rfl⟩
    refine wpR_thenZ fun wr hs => ?_
    replace E:=E.same hs
    replace hM:=hM.gr (hs.g _)
    replace h8:=hs.blk h8
    replace h9:=hs.blk h9
    replace hv:=owns_same hv hs
    replace hNw:N0 ≤ wr.heap.size:=by rw [hs.heap];exact hNw
    clear hs
    have g0:=E.bx.cell 0;have g1:=E.bx.cell 1;have g2:=E.bx.cell 2;have g3:=E.bx.cell 3;simp at g0 g1 g2 g3;have ltB:=E.bx.lt
    obtain ⟨pb,po,ep,ltp,e3⟩:=E.bk.ps j (b.payAt j).row (by rw [List.getElem?_map,List.getElem?_eq_getElem hl,payAt_get hl];rfl)
    have hpl:pb < wr.heap.size:=Nat.lt_of_lt_of_le ltp E.bk.hN
    simp only [ep]
    have c1:=e3 1 _ rfl
    rw [hdy] at c1
    rw [ep] at g3
    have HDY:=Lib.hid hdy
    clear hdy hpj
    by_cases hd:dy ≤ n
    ·have hdI:decide (dy ≤ (n:Int)) = true:=decide_eq_true hd
     gi_wp2
     clear g0 g1 g2 g3 ltB
     refine wpR_cond fit (t:=true) rfl ?_
     simp only [if_true]
     clear e3 c1
     refine wpR_loneZ fun w4 hs => ?_
     replace E:=E.same hs
     replace hM:=hM.gr (hs.g _)
     replace h8:=hs.blk h8
     replace h9:=hs.blk h9
     replace hv:=owns_same hv hs
     replace hNw:N0 ≤ w4.heap.size:=by rw [hs.heap];exact hNw
     clear hs
     obtain ⟨pb',po',ep',ltp',e3⟩:=E.bk.ps j (b.payAt j).row (by rw [List.getElem?_map,List.getElem?_eq_getElem hl,payAt_get hl];rfl)
     rw [ep] at ep'
     cases ep'
     have c0:=e3 0 _ rfl;have c1:=e3 1 _ rfl;have c2:=e3 2 _ rfl;have c3:=e3 3 _ rfl;have c4:=e3 4 _ rfl
     simp only [Nat.add_zero] at c0
     refine hideQ fun Q' hQ => ?_
     refine wpIn_region_ghosts rfl mixed (by kernel_rfl) (WA1 N0 7 8 10 43 44 w4 B8 v (b.upTo n j) (b.payAt j)) [43,44] (x₀:=fun t => if t = 43 then u43 else u44) (fun g hg => by simp only [List.mem_cons,List.not_mem_nil,or_false] at hg;rcases hg with rfl | rfl <;> rfl) (WA1.start hNw hv) ?_
     simp only [List.size_toArray,List.length_cons,List.length_nil,Nat.reduceAdd,List.range,List.range.loop]
     refine detM_at (u0:=fun t => if t = 43 then u43 else u44) rfl (fun _ => rfl) (by decide) (fun g hg => by simp only [List.mem_cons,List.not_mem_nil,or_false] at hg;rcases hg with rfl | rfl <;> rfl) ?_
     apply Exists.intro
     refine ⟨fun D x w' hm hW K Q hK => ?_,?_⟩
     ·have d5:=hm.2.2 10 (by kernel_rfl)
      have hb:=hW.bel d5
      skip
      simp only [Lift.Act.setG,List.foldl_cons,List.foldl_nil,List.setIfInBounds_toArray,List.set_cons_zero,List.set_cons_succ]
      gi_wp2
      exact hW.pure (by decide)
     apply Exists.intro
     refine ⟨fun x => rfl,?_⟩
     refine detM_at (u0:=fun t => if t = 43 then u43 else u44) rfl (fun _ => rfl) (by decide) (fun g hg => by simp only [List.mem_cons,List.not_mem_nil,or_false] at hg;rcases hg with rfl | rfl <;> rfl) ?_
     apply Exists.intro
     refine ⟨fun D x w' hm hW K Q hK => ?_,?_⟩
     ·have d5:=hm.2.2 10 (by kernel_rfl)
      have hb:=hW.bel d5
      have q:Blk w' B8 27 #[.slice l.cb b.coins.length l.cc,.slice l.tb b.ts.length l.tc,.slice l.kb b.cs.length l.kc,v]:=(hb.block B8 b8).trans h8;have z3:=q.cell 3;have y3:=q.frozen 3;simp at z3
      simp only [Lift.Act.setG,List.foldl_cons,List.foldl_nil,List.setIfInBounds_toArray,List.set_cons_zero,List.set_cons_succ]
      gi_wp2
      exact hW.pure (by decide)
     apply Exists.intro
     refine ⟨fun x => rfl,?_⟩
     refine detM_at (u0:=fun t => if t = 43 then u43 else u44) rfl (fun _ => rfl) (by decide) (fun g hg => by simp only [List.mem_cons,List.not_mem_nil,or_false] at hg;rcases hg with rfl | rfl <;> rfl) ?_
     apply Exists.intro
     refine ⟨fun D x w' hm hW K Q hK => ?_,?_⟩
     ·have d5:=hm.2.2 10 (by kernel_rfl)
      have hb:=hW.bel d5
      skip
      simp only [Lift.Act.setG,List.foldl_cons,List.foldl_nil,List.setIfInBounds_toArray,List.set_cons_zero,List.set_cons_succ]
      gi_wp2
      exact hW.pure (by decide)
     apply Exists.intro
     refine ⟨fun x => rfl,?_⟩
     refine detM_at (u0:=fun t => if t = 43 then u43 else u44) rfl (fun _ => rfl) (by decide) (fun g hg => by simp only [List.mem_cons,List.not_mem_nil,or_false] at hg;rcases hg with rfl | rfl <;> rfl) ?_
     apply Exists.intro
     refine ⟨fun D x w' hm hW K Q hK => ?_,?_⟩
     ·have d5:=hm.2.2 10 (by kernel_rfl)
      have hb:=hW.bel d5
      have q:Blk w' B 27 (l.rarr b):=(hb.block B (by omega)).trans E.bx;have q3:=q.cell 3;simp at q3;rw [ep] at q3
      simp only [Lift.Act.setG,List.foldl_cons,List.foldl_nil,List.setIfInBounds_toArray,List.set_cons_zero,List.set_cons_succ]
      gi_wp2
      exact hW.pure (by decide)
     apply Exists.intro
     refine ⟨fun x => rfl,?_⟩
     refine detM_at (u0:=fun t => if t = 43 then u43 else u44) rfl (fun _ => rfl) (by decide) (fun g hg => by simp only [List.mem_cons,List.not_mem_nil,or_false] at hg;rcases hg with rfl | rfl <;> rfl) ?_
     apply Exists.intro
     refine ⟨fun D x w' hm hW K Q hK => ?_,?_⟩
     ·have d5:=hm.2.2 10 (by kernel_rfl)
      have hb:=hW.bel d5
      skip
      simp only [Lift.Act.setG,List.foldl_cons,List.foldl_nil,List.setIfInBounds_toArray,List.set_cons_zero,List.set_cons_succ]
      gi_wp2
      exact hW.pure (by decide)
     apply Exists.intro
     refine ⟨fun x => rfl,?_⟩
     refine detM_at (u0:=fun t => if t = 43 then u43 else u44) rfl (fun _ => rfl) (by decide) (fun g hg => by simp only [List.mem_cons,List.not_mem_nil,or_false] at hg;rcases hg with rfl | rfl <;> rfl) ?_
     apply Exists.intro
     refine ⟨fun D x w' hm hW K Q hK => ?_,?_⟩
     ·have d5:=hm.2.2 10 (by kernel_rfl)
      have hb:=hW.bel d5
      skip
      simp only [Lift.Act.setG,List.foldl_cons,List.foldl_nil,List.setIfInBounds_toArray,List.set_cons_zero,List.set_cons_succ]
      gi_wp2
      exact hW.pure (by decide)
     apply Exists.intro
     refine ⟨fun x => rfl,?_⟩
     refine detM_at (u0:=fun t => if t = 43 then u43 else u44) rfl (fun _ => rfl) (by decide) (fun g hg => by simp only [List.mem_cons,List.not_mem_nil,or_false] at hg;rcases hg with rfl | rfl <;> rfl) ?_
     apply Exists.intro
     refine ⟨fun D x w' hm hW K Q hK => ?_,?_⟩
     ·have d5:=hm.2.2 10 (by kernel_rfl)
      have hb:=hW.bel d5
      have d0:=(hb.cell (p:=⟨pb,po + j * 5,none⟩) (show pb < N0 by omega)).trans c0;have d1:=(hb.cell (p:=⟨pb,po + j * 5 + 1,none⟩) (show pb < N0 by omega)).trans c1;have d2:=(hb.cell (p:=⟨pb,po + j * 5 + 2,none⟩) (show pb < N0 by omega)).trans c2;have d3:=(hb.cell (p:=⟨pb,po + j * 5 + 3,none⟩) (show pb < N0 by omega)).trans c3;have d4:=(hb.cell (p:=⟨pb,po + j * 5 + 4,none⟩) (show pb < N0 by omega)).trans c4
      simp only [Lift.Act.setG,List.foldl_cons,List.foldl_nil,List.setIfInBounds_toArray,List.set_cons_zero,List.set_cons_succ]
      gi_wp2
      exact hW.pure (by decide)
     apply Exists.intro
     refine ⟨fun x => rfl,?_⟩
     refine detM_mk 43 (by decide) rfl (fun _ => rfl) rfl rfl (fun D x w' hm hW K Q hK => build1_wp rfl rfl (hK _ _ (WA1.build hNw ⟨by decide,by decide,by decide,by decide⟩ hW (hm.2.2 8 (by kernel_rfl)) (hm.2.2 10 (by kernel_rfl))))) ?_
     refine detM_mk 44 (by decide) rfl (fun _ => rfl) rfl rfl (fun D x w' hm hW K Q hK => ?_) ?_
     ·have d5:=hm.2.2 10 (by kernel_rfl)
      have hb:=hW.bel d5
      have q1:=hm.2.1 7 (by kernel_rfl)
      obtain ⟨-,hp⟩:=owns_pays (hW.ob d5 q1 hm.1)
      exact append_pays (.tmp 37) (.tmp 43) rfl (ys:=[(b.payAt j)]) rfl (hW.ov d5 hm.1) rfl hp (by simp only [List.length_cons,List.length_nil];have:=b.upTo_length n j;omega) (Nat.le_trans hNw hb.size) fun v' w'' hown hg => hK v' w'' (WA1.app ⟨by decide,by decide,by decide,by decide⟩ hNw hW hm.1 d5 hown hg)
     refine detM_at (u0:=fun t => if t = 43 then u43 else u44) rfl (fun _ => rfl) (by decide) (fun g hg => by simp only [List.mem_cons,List.not_mem_nil,or_false] at hg;rcases hg with rfl | rfl <;> rfl) ?_
     apply Exists.intro
     refine ⟨fun D x w' hm hW K Q hK => ?_,?_⟩
     ·have d5:=hm.2.2 10 (by kernel_rfl)
      have hb:=hW.bel d5
      skip
      simp only [Lift.Act.setG,List.foldl_cons,List.foldl_nil,List.setIfInBounds_toArray,List.set_cons_zero,List.set_cons_succ]
      gi_wp2
      exact hW.pure (by decide)
     apply Exists.intro
     refine ⟨fun x => rfl,?_⟩
     refine detM_none rfl (fun _ => rfl) rfl (fun D x w' hm hW K Q hK => ?_) ?_
     ·have d5:=hm.1
      have hb:=hW.bel d5
      have q4:=hm.2.1 8 (by kernel_rfl)
      have q:Blk w' B8 27 #[.slice l.cb b.coins.length l.cc,.slice l.tb b.ts.length l.tc,.slice l.kb b.cs.length l.kc,v]:=(hb.block B8 b8).trans h8;have z3:=q.cell 3;have y3:=q.frozen 3;simp at z3
      have hst:=WA1.store ⟨by decide,by decide,by decide,by decide⟩ hW q4 d5
      try simp only at hst
      obtain ⟨gr,cr,hx⟩:=owns_some (hW.oa d5 q4)
      try simp only at hx
      rw [hx] at hst
      simp only [Lift.Act.setG,List.foldl_cons,List.foldl_nil,List.setIfInBounds_toArray,List.set_cons_zero,List.set_cons_succ,hx] at hK ⊢
      gi_wp2
      exact hst
     intro x w5 hW
     refine hQ _ _ _ ?_
     clear hQ
     obtain ⟨w1,hb1,hown,rfl⟩:=hW.fin (by decide)
     have hown5:=owns_poke (BO:=B8) (j:=3) (u:=x 44) hown b8
     rw [← upTo_len hl HDY.out hd,← RBook.upTo_some hl (by rw [HDY.out];omega)] at hown5
     replace E:=E.pokeB (j:=3) (v:=x 44) (BO:=B8) h0 hb1 (by omega) (by omega) k2 (by omega)
     replace hM:=(hM.belowN hb1 (by omega)).set (j:=3) (show B8 ≠ BM by omega) (x 44)
     replace h9:=(h9.belowN hb1 b9).set (j:=3) k1 (x 44)
     replace h8:=(h8.belowN hb1 b8).put 3 (x 44)
     simp only [List.setIfInBounds_toArray,List.set_cons_zero,List.set_cons_succ] at h8
     have hNw5:N0 ≤ (w1.setCell ⟨B8,3,none⟩ (x 44)).heap.size:=by rw [World.size_setCell];exact Nat.le_trans hNw hb1.size
     clear hv hW hown hb1 hNw
     generalize World.setCell w1 _ _ = W6 at *
     simp only [inBlockR,thenR]
     simp only [Lift.Act.setG,List.foldl_cons,List.foldl_nil,List.setIfInBounds_toArray,List.set_cons_zero,List.set_cons_succ]
     generalize x 43 = x43 at *
     generalize x 44 = v' at *
     clear x
     refine wpR_loneZ fun wr hs => ?_
     replace E:=E.same hs
     replace hM:=hM.gr (hs.g _)
     replace h8:=hs.blk h8
     replace h9:=hs.blk h9
     replace hown5:=owns_same hown5 hs
     replace hNw5:N0 ≤ wr.heap.size:=by rw [hs.heap];exact hNw5
     clear hs
     have hjm:(j:Int) < 1000000:=by omega
     gi_wp2
     simp only [thenR]
     refine ⟨b.ps.length - (j + 1),by omega,j + 1,by omega,rfl,E,hM,h9,hNw5,⟨_,h8,hown5⟩,?_⟩
     (repeat apply Exists.intro)
     rfl
    ·have hdI:decide (dy ≤ (n:Int)) = false:=decide_eq_false hd
     gi_wp2
     clear g0 g1 g2 g3 ltB
     refine wpR_cond fit (t:=false) rfl ?_
     simp only [Bool.false_eq_true,if_false]
     refine wpR_skip fit ?_
     replace hv:=hv
     have hown5:=hv
     rw [← RBook.upTo_none hl (by rw [HDY.out];omega)] at hown5
     have hNw5:=hNw
     clear hv hNw
     simp only [inBlockR,thenR]
     refine wpR_loneZ fun wr hs => ?_
     replace E:=E.same hs
     replace hM:=hM.gr (hs.g _)
     replace h8:=hs.blk h8
     replace h9:=hs.blk h9
     replace hown5:=owns_same hown5 hs
     replace hNw5:N0 ≤ wr.heap.size:=by rw [hs.heap];exact hNw5
     clear hs
     have hjm:(j:Int) < 1000000:=by omega
     gi_wp2
     simp only [thenR]
     refine ⟨b.ps.length - (j + 1),by omega,j + 1,by omega,rfl,E,hM,h9,hNw5,⟨_,h8,hown5⟩,?_⟩
     (repeat apply Exists.intro)
     rfl
   ·obtain rfl:j = b.ps.length:=by omega
    refine wpR_thenZ fun wr hs => ?_
    replace E:=E.same hs
    replace hM:=hM.gr (hs.g _)
    replace h8:=hs.blk h8
    replace h9:=hs.blk h9
    replace hv:=owns_same hv hs
    replace hNw:N0 ≤ wr.heap.size:=by rw [hs.heap];exact hNw
    clear hs
    have g0:=E.bx.cell 0;have g1:=E.bx.cell 1;have g2:=E.bx.cell 2;have g3:=E.bx.cell 3;simp at g0 g1 g2 g3;have ltB:=E.bx.lt
    gi_wp2
    clear g0 g1 g2 g3 ltB
    refine wpR_cond fit (t:=false) rfl ?_
    simp only [Bool.false_eq_true,if_false]
    refine wpR_exit fit ?_
    simp only [thenR,inBlockR,if_true]
    clear hNw
    refine wpR_thenZ fun w4 hs => ?_
    replace E:=E.same hs
    replace hM:=hM.gr (hs.g _)
    replace h8:=hs.blk h8
    replace h9:=hs.blk h9
    replace hv:=owns_same hv hs
    clear hs
    refine hideQ fun Q' hQ => ?_
    refine wpIn_region_ghosts rfl mixed (by kernel_rfl) (WAA ⟨0,3,5,6,8,46,49,51,52⟩ w4 B9 b.ps m) [46,49,51,52] (x₀:=fun _ => undef) (fun g hg => by simp only [List.mem_cons,List.not_mem_nil,or_false] at hg;rcases hg with rfl | rfl | rfl | rfl <;> rfl) WAA.start ?_
    simp only [List.size_toArray,List.length_cons,List.length_nil,Nat.reduceAdd,List.range,List.range.loop]
    refine detM_mk 46 (by decide) rfl (fun _ => rfl) rfl rfl (fun D x w' hm hW K Q hK => build0_wp rfl (hK _ _ (WAA.build0 rfl hW hm.1 (hm.2.2 8 (by kernel_rfl))))) ?_
    refine detM_at (u0:=fun _ => undef) rfl (fun _ => rfl) (by decide) (fun g hg => by simp only [List.mem_cons,List.not_mem_nil,or_false] at hg;rcases hg with rfl | rfl | rfl | rfl <;> rfl) ?_
    apply Exists.intro
    refine ⟨fun D x w' hm hW K Q hK => ?_,?_⟩
    ·have d5:=hm.2.2 8 (by kernel_rfl)
     have hb:=hW.bel d5
     skip
     simp only [Lift.Act.setG,List.foldl_cons,List.foldl_nil,List.setIfInBounds_toArray,List.set_cons_zero,List.set_cons_succ]
     gi_wp2
     exact hW.pure (by decide)
    apply Exists.intro
    refine ⟨fun x => rfl,?_⟩
    refine detM_at (u0:=fun _ => undef) rfl (fun _ => rfl) (by decide) (fun g hg => by simp only [List.mem_cons,List.not_mem_nil,or_false] at hg;rcases hg with rfl | rfl | rfl | rfl <;> rfl) ?_
    apply Exists.intro
    refine ⟨fun D x w' hm hW K Q hK => ?_,?_⟩
    ·have d5:=hm.2.2 8 (by kernel_rfl)
     have hb:=hW.bel d5
     have q:=E.bx.below (hb.mono (Nat.le_refl _));have q0:=q.cell 0;have q1:=q.cell 1;have q2:=q.cell 2;have q3:=q.cell 3;simp at q0 q1 q2 q3
     simp only [Lift.Act.setG,List.foldl_cons,List.foldl_nil,List.setIfInBounds_toArray,List.set_cons_zero,List.set_cons_succ]
     gi_wp2
     exact hW.pure (by decide)
    apply Exists.intro
    refine ⟨fun x => rfl,?_⟩
    refine detM_mk 49 (by decide) rfl (fun _ => rfl) rfl rfl (fun D x w' hm hW K Q hK => ?_) ?_
    ·have d5:=hm.2.2 8 (by kernel_rfl)
     have hb:=hW.bel d5
     have q1:=hm.2.1 0 (by kernel_rfl)
     have hp:=(E.bk.below (hb.mono E.bk.hN)).paysAt
     exact append_pays (.tmp 46) _ rfl (xs:=[]) rfl (hW.o1 d5 q1 hm.1) rfl hp (by omega) hb.size fun v w'' hown hg => hK v w'' (WAA.app1 rfl hW q1 hm.1 d5 hown hg)
    refine detM_at (u0:=fun _ => undef) rfl (fun _ => rfl) (by decide) (fun g hg => by simp only [List.mem_cons,List.not_mem_nil,or_false] at hg;rcases hg with rfl | rfl | rfl | rfl <;> rfl) ?_
    apply Exists.intro
    refine ⟨fun D x w' hm hW K Q hK => ?_,?_⟩
    ·have d5:=hm.2.2 8 (by kernel_rfl)
     have hb:=hW.bel d5
     have q:=hM.below (hb.mono (Nat.le_refl _));have q0:=q.cell 0;have q1:=q.cell 1;have q2:=q.cell 2;have q3:=q.cell 3;have q4:=q.cell 4;simp at q0 q1 q2 q3 q4
     simp only [Lift.Act.setG,List.foldl_cons,List.foldl_nil,List.setIfInBounds_toArray,List.set_cons_zero,List.set_cons_succ]
     gi_wp2
     exact hW.pure (by decide)
    apply Exists.intro
    refine ⟨fun x => rfl,?_⟩
    refine detM_mk 51 (by decide) rfl (fun _ => rfl) rfl rfl (fun D x w' hm hW K Q hK => build1_wp rfl rfl (hK _ _ (WAA.build1 rfl hW hm.1 (hm.2.2 8 (by kernel_rfl))))) ?_
    refine detM_mk 52 (by decide) rfl (fun _ => rfl) rfl rfl (fun D x w' hm hW K Q hK => ?_) ?_
    ·have d5:=hm.2.2 8 (by kernel_rfl)
     have hb:=hW.bel d5
     have q2:=hm.2.1 3 (by kernel_rfl)
     have q3:=hm.2.1 5 (by kernel_rfl)
     obtain ⟨-,hp⟩:=owns_pays (hW.o3 d5 q3 hm.1)
     exact append_pays (.tmp 49) (.tmp 51) rfl (ys:=[m]) rfl (hW.o2 d5 q2 hm.1) rfl hp (by simp only [List.length_cons,List.length_nil];omega) hb.size fun v w'' hown hg => hK v w'' (WAA.app2 rfl hW q2 q3 hm.1 d5 hown hg)
    refine detM_at (u0:=fun _ => undef) rfl (fun _ => rfl) (by decide) (fun g hg => by simp only [List.mem_cons,List.not_mem_nil,or_false] at hg;rcases hg with rfl | rfl | rfl | rfl <;> rfl) ?_
    apply Exists.intro
    refine ⟨fun D x w' hm hW K Q hK => ?_,?_⟩
    ·have d5:=hm.2.2 8 (by kernel_rfl)
     have hb:=hW.bel d5
     skip
     simp only [Lift.Act.setG,List.foldl_cons,List.foldl_nil,List.setIfInBounds_toArray,List.set_cons_zero,List.set_cons_succ]
     gi_wp2
     exact hW.pure (by decide)
    apply Exists.intro
    refine ⟨fun x => rfl,?_⟩
    refine detM_none rfl (fun _ => rfl) rfl (fun D x w' hm hW K Q hK => ?_) ?_
    ·have d5:=hm.1
     have hb:=hW.bel d5
     have q4:=hm.2.1 6 (by kernel_rfl)
     have q:=h9.below (hb.mono (Nat.le_refl _));have z3:=q.cell 3;have y3:=q.frozen 3;simp at z3
     have hst:=WAA.store rfl hW q4 d5
     simp only at hst
     obtain ⟨gr,cr,hx⟩:=owns_some (hW.o4 d5 q4)
     simp only at hx
     rw [hx] at hst
     simp only [Lift.Act.setG,List.foldl_cons,List.foldl_nil,List.setIfInBounds_toArray,List.set_cons_zero,List.set_cons_succ,hx] at hK ⊢
     gi_wp2
     exact hst
    intro x w5 hW
    refine hQ _ _ _ ?_
    clear hQ
    obtain ⟨w1,hb1,hown,rfl⟩:=hW.fin (by decide)
    simp only at hown
    obtain ⟨go,co,hx⟩:=owns_some hown
    have hown5:=owns_poke (BO:=B9) (j:=3) (u:=x 52) hown h9.lt
    obtain ⟨-,base1,cap1,hv1,hrows⟩:=owns_pays hown5
    replace hv:=owns_poke (BO:=B9) (j:=3) (u:=x 52) (owns_below hv hb1) b9
    obtain ⟨-,base,cap,rfl,hrows0⟩:=owns_pays hv
    clear hv
    replace E:=E.poke (j:=3) (v:=x 52) h0 hb1 k3 (by omega)
    replace hM:=(hM.below hb1).set (j:=3) (show B9 ≠ BM by omega) (x 52)
    replace h8:=(h8.below hb1).set (j:=3) (Ne.symm k1) (x 52)
    replace h9:=(h9.below hb1).put 3 (x 52)
    simp only [Lay.rarr,List.setIfInBounds_toArray,List.set_cons_zero,List.set_cons_succ] at h9
    generalize w1.setCell _ _ = W5 at *
    rw [hx] at hv1 h9
    have hv':base1 = some ⟨go,0,none⟩ ∧ cap1 = co:=by simp at hv1;exact ⟨hv1.1.symm,hv1.2.symm⟩
    obtain ⟨rfl,rfl⟩:=hv'
    have hB1:=E.bk.with_ (cap:=cap1) E.g.size (Nat.le_refl _) hrows
    have hBo:=E.bk.with_ (cap:=cap) E.g.size (Nat.le_refl _) hrows0
    clear hv1 hrows hrows0 hown hown5 hW hb1 hx
    simp only [thenR]
    simp only [Lift.Act.setG,List.foldl_cons,List.foldl_nil,List.setIfInBounds_toArray,List.set_cons_zero,List.set_cons_succ]
    generalize x 46 = x46
    generalize x 49 = x49
    generalize x 51 = x51
    generalize x 52 = x52
    clear x
    refine wpR_seq fit ?_
    refine wpR_seq fit (wpR_region fit ?_)
    simp only [List.size_toArray,List.length_cons,List.length_nil,Nat.reduceAdd,List.range,List.range.loop]
    refine opsR_loneZ rfl rfl fun wr hs => ?_
    replace E:=E.same hs
    replace hM:=hM.gr (hs.g _)
    replace h8:=h8.gr (hs.g _)
    replace h9:=h9.gr (hs.g _)
    replace hBo:=hBo.gr (hs.g _)
    replace hB1:=hB1.gr (hs.g _)
    clear hs
    have g0:=E.bx.cell 0;have g1:=E.bx.cell 1;have g2:=E.bx.cell 2;have g3:=E.bx.cell 3;simp at g0 g1 g2 g3;have ltB:=E.bx.lt
    gi_wp2
    clear g0 g1 g2 g3 ltB
    refine opsR_loneZ rfl rfl fun wr hs => ?_
    replace E:=E.same hs
    replace hM:=hM.gr (hs.g _)
    replace h8:=h8.gr (hs.g _)
    replace h9:=h9.gr (hs.g _)
    replace hBo:=hBo.gr (hs.g _)
    replace hB1:=hB1.gr (hs.g _)
    clear hs
    have o0:=h8.cell 0;have o1:=h8.cell 1;have o2:=h8.cell 2;have o3:=h8.cell 3;simp at o0 o1 o2 o3;have ltO:=h8.lt
    gi_wp2
    clear o0 o1 o2 o3 ltO
    refine opsR_loneZ rfl rfl fun wr hs => ?_
    replace E:=E.same hs
    replace hM:=hM.gr (hs.g _)
    replace h8:=h8.gr (hs.g _)
    replace h9:=h9.gr (hs.g _)
    replace hBo:=hBo.gr (hs.g _)
    replace hB1:=hB1.gr (hs.g _)
    clear hs
    gi_wp2
    have hsame:=fun S => same_on (S:=S) E.bk hBo hR (upTo_right hR n) E.kd (Nat.le_trans hlim E.g.size) hn (upTo_same hR n)
    refine opsR_callZ rfl rfl rfl Tryz.func37 (by kernel_rfl) body37 (vals:=#[.agg (l.rarr b),.agg ({ l with pb:=base,pc:=cap }.rarr { b with ps:=b.upTo n b.ps.length }),.int .i64 n]) (by simp [Act.eval]) (R:=fun v w1 S9 => v = .bool true ∧ GrowS wr.heap.size wr S1 w1 S9) (by exact hsame _) ?_
    clear hsame
    rintro u w5 S5 ⟨rfl,hg5⟩
    replace E:=E.grow hg5
    replace hM:=hM.gr hg5.toGrow
    replace h9:=h9.gr hg5.toGrow
    replace hB1:=hB1.gr hg5.toGrow
    clear hg5 h8 hBo
    refine opsR_loneZ rfl rfl fun wr hs => ?_
    replace E:=E.same hs
    replace hM:=hM.gr (hs.g _)
    replace h9:=h9.gr (hs.g _)
    replace hB1:=hB1.gr (hs.g _)
    clear hs
    gi_wp2
    refine opsR_nil fit ?_
    simp only [thenR]
    refine wpR_cond fit (t:=false) rfl ?_
    simp only [Bool.false_eq_true,if_false]
    refine wpR_skip fit ?_
    simp only [thenR]
    refine wpR_seq fit (wpR_region fit ?_)
    simp only [List.size_toArray,List.length_cons,List.length_nil,Nat.reduceAdd,List.range,List.range.loop]
    obtain ⟨md,hmd⟩:∃ md,m.day = md:=⟨_,rfl⟩
    rw [hmd] at hM
    have HMD:=Lib.hid hmd
    clear hmd
    by_cases hm:md ≤ n
    ·have hmI:decide (md ≤ (n:Int)) = true:=decide_eq_true hm
     refine opsR_loneZ rfl rfl fun wr hs => ?_
     replace E:=E.same hs
     replace hM:=hM.gr (hs.g _)
     clear hs
     gi_wp2
     refine opsR_loneZ rfl rfl fun wr hs => ?_
     replace E:=E.same hs
     replace hM:=hM.gr (hs.g _)
     clear hs
     have m0:=hM.cell 1;simp at m0;have ltM:=hM.lt
     gi_wp2
     clear m0 ltM
     clear hM h9 hB1
     refine opsR_loneZ rfl rfl fun wr hs => ?_
     replace E:=E.same hs
     clear hs
     gi_wp2
     refine opsR_loneZ rfl rfl fun wr hs => ?_
     replace E:=E.same hs
     clear hs
     gi_wp2
     refine opsR_loneZ rfl rfl fun wr hs => ?_
     replace E:=E.same hs
     clear hs
     gi_wp2
     refine opsR_skipZ rfl rfl (fun w' f h => by (simp [Oper.about] at h)) ?_
     refine opsR_skipC rfl rfl rfl (by simp) ?_
     refine opsR_skipZ rfl rfl (fun w' f h => by (simp [Oper.about] at h)) ?_
     refine opsR_loneZ rfl rfl fun wr hs => ?_
     replace E:=E.same hs
     clear hs
     gi_wp2
     refine opsR_loneZ rfl rfl fun wr hs => ?_
     replace E:=E.same hs
     clear hs
     gi_wp2
     refine opsR_skipZ rfl rfl (fun w' f h => by (simp [Oper.about] at h)) ?_
     refine opsR_skipZ rfl rfl (fun w' f h => by (simp [Oper.about] at h)) ?_
     refine opsR_skipZ rfl rfl (fun w' f h => by (simp [Oper.about] at h)) ?_
     refine opsR_skipC rfl rfl rfl (by simp) ?_
     refine opsR_loneZ rfl rfl fun wr hs => ?_
     replace E:=E.same hs
     clear hs
     gi_wp2
     refine opsR_loneZ rfl rfl fun wr hs => ?_
     replace E:=E.same hs
     clear hs
     gi_wp2
     refine opsR_callZ rfl rfl rfl Tryz.func17 (by kernel_rfl) body17 (vals:=#[]) (by simp) (paid_R E.kd (Nat.le_trans hlim E.g.size)) ?_
     rintro u w5 S5 ⟨rfl,hg5⟩
     replace E:=E.grow hg5
     clear hg5
     refine opsR_loneZ rfl rfl fun wr hs => ?_
     replace E:=E.same hs
     clear hs
     gi_wp2
     refine opsR_loneZ rfl rfl fun wr hs => ?_
     replace E:=E.same hs
     clear hs
     gi_wp2
     refine opsR_nil fit ?_
     refine wpR_ret fit ?_
     exact ⟨rfl,.bool true,fun τ d => by rw [results_tmp rfl];rfl,rfl,E.g⟩
    ·have hmI:decide (md ≤ (n:Int)) = false:=decide_eq_false hm
     refine opsR_loneZ rfl rfl fun wr hs => ?_
     replace E:=E.same hs
     replace hM:=hM.gr (hs.g _)
     replace h9:=h9.gr (hs.g _)
     replace hB1:=hB1.gr (hs.g _)
     clear hs
     gi_wp2
     refine opsR_loneZ rfl rfl fun wr hs => ?_
     replace E:=E.same hs
     replace hM:=hM.gr (hs.g _)
     replace h9:=h9.gr (hs.g _)
     replace hB1:=hB1.gr (hs.g _)
     clear hs
     have m0:=hM.cell 1;simp at m0;have ltM:=hM.lt
     gi_wp2
     clear m0 ltM
     clear hM
     refine opsR_loneZ rfl rfl fun wr hs => ?_
     replace E:=E.same hs
     replace h9:=h9.gr (hs.g _)
     replace hB1:=hB1.gr (hs.g _)
     clear hs
     gi_wp2
     refine opsR_loneZ rfl rfl fun wr hs => ?_
     replace E:=E.same hs
     replace h9:=h9.gr (hs.g _)
     replace hB1:=hB1.gr (hs.g _)
     clear hs
     gi_wp2
     refine opsR_loneZ rfl rfl fun wr hs => ?_
     replace E:=E.same hs
     replace h9:=h9.gr (hs.g _)
     replace hB1:=hB1.gr (hs.g _)
     clear hs
     gi_wp2
     refine opsR_loneZ rfl rfl fun wr hs => ?_
     replace E:=E.same hs
     replace h9:=h9.gr (hs.g _)
     replace hB1:=hB1.gr (hs.g _)
     clear hs
     have o0:=h9.cell 0;have o1:=h9.cell 1;have o2:=h9.cell 2;have o3:=h9.cell 3;simp at o0 o1 o2 o3;have ltO:=h9.lt
     gi_wp2
     clear o0 o1 o2 o3 ltO
     refine opsR_loneZ rfl rfl fun wr hs => ?_
     replace E:=E.same hs
     replace h9:=h9.gr (hs.g _)
     replace hB1:=hB1.gr (hs.g _)
     clear hs
     have hcall:=CheckRef_in hB1 hcap (by have:=hR.nc;simp only;omega) (by have:=hR.nt;simp only;omega) (by have:=hR.nk;simp only;omega) (by simp only [List.length_append,List.length_cons,List.length_nil];omega)
     simp only [Lay.rarr,List.length_append,List.length_cons,List.length_nil,Nat.zero_add] at hcall
     gi_wp2_with (gi_at_call 21;with_reducible refine hcall.mono ?_;rintro e w2 ⟨⟨f,rfl,hf0⟩,hb2⟩;replace E:=E.below hb2;replace h9:=h9.gr (Grow.of hb2);replace hB1:=hB1.gr (Grow.of hb2);clear hb2;have HF:=Lib.hid hf0;clear hf0;rcases Decidable.em (f = 0) with rfl | q;rotate_left;have qf:(f == 0) = false:=by simp [q];rotate_left)
     ·clear hcall h9 hB1
      have qf2:(f != 0) = true:=by simp [q]
      have qf3:(!(f == 0)) = true:=by simp [q]
      refine opsR_loneZ rfl rfl fun wr hs => ?_
      replace E:=E.same hs
      clear hs
      gi_wp2
      refine opsR_loneZ rfl rfl fun wr hs => ?_
      replace E:=E.same hs
      clear hs
      gi_wp2
      refine opsR_loneZ rfl rfl fun wr hs => ?_
      replace E:=E.same hs
      clear hs
      gi_wp2
      refine opsR_skipZ rfl rfl (fun w' f h => by (simp [Oper.about] at h)) ?_
      refine opsR_skipZ rfl rfl (fun w' f h => by (simp [Oper.about] at h)) ?_
      refine opsR_skipZ rfl rfl (fun w' f h => by (simp [Oper.about] at h)) ?_
      refine opsR_skipC rfl rfl rfl (by simp) ?_
      refine opsR_loneZ rfl rfl fun wr hs => ?_
      replace E:=E.same hs
      clear hs
      gi_wp2
      refine opsR_loneZ rfl rfl fun wr hs => ?_
      replace E:=E.same hs
      clear hs
      gi_wp2
      refine opsR_callZ rfl rfl rfl Tryz.func17 (by kernel_rfl) body17 (vals:=#[]) (by simp) (paid_R E.kd (Nat.le_trans hlim E.g.size)) ?_
      rintro u w5 S5 ⟨rfl,hg5⟩
      replace E:=E.grow hg5
      clear hg5
      refine opsR_loneZ rfl rfl fun wr hs => ?_
      replace E:=E.same hs
      clear hs
      gi_wp2
      refine opsR_loneZ rfl rfl fun wr hs => ?_
      replace E:=E.same hs
      clear hs
      gi_wp2
      refine opsR_nil fit ?_
      refine wpR_ret fit ?_
      exact ⟨rfl,.bool true,fun τ d => by rw [results_tmp rfl];rfl,rfl,E.g⟩
     ·clear hcall
      have hR1:=HF.out.1 (by trivial)
      refine opsR_loneZ rfl rfl fun wr hs => ?_
      replace E:=E.same hs
      replace h9:=h9.gr (hs.g _)
      replace hB1:=hB1.gr (hs.g _)
      clear hs
      gi_wp2
      refine opsR_loneZ rfl rfl fun wr hs => ?_
      replace E:=E.same hs
      replace h9:=h9.gr (hs.g _)
      replace hB1:=hB1.gr (hs.g _)
      clear hs
      gi_wp2
      refine opsR_loneZ rfl rfl fun wr hs => ?_
      replace E:=E.same hs
      replace h9:=h9.gr (hs.g _)
      replace hB1:=hB1.gr (hs.g _)
      clear hs
      gi_wp2
      refine opsR_loneZ rfl rfl fun wr hs => ?_
      replace E:=E.same hs
      replace h9:=h9.gr (hs.g _)
      replace hB1:=hB1.gr (hs.g _)
      clear hs
      have g0:=E.bx.cell 0;have g1:=E.bx.cell 1;have g2:=E.bx.cell 2;have g3:=E.bx.cell 3;simp at g0 g1 g2 g3;have ltB:=E.bx.lt
      gi_wp2
      clear g0 g1 g2 g3 ltB
      refine opsR_loneZ rfl rfl fun wr hs => ?_
      replace E:=E.same hs
      replace h9:=h9.gr (hs.g _)
      replace hB1:=hB1.gr (hs.g _)
      clear hs
      have o0:=h9.cell 0;have o1:=h9.cell 1;have o2:=h9.cell 2;have o3:=h9.cell 3;simp at o0 o1 o2 o3;have ltO:=h9.lt
      gi_wp2
      clear o0 o1 o2 o3 ltO
      refine opsR_loneZ rfl rfl fun wr hs => ?_
      replace E:=E.same hs
      replace h9:=h9.gr (hs.g _)
      replace hB1:=hB1.gr (hs.g _)
      clear hs
      gi_wp2
      have hsame:=fun S => same_on (S:=S) E.bk hB1 hR hR1 E.kd (Nat.le_trans hlim E.g.size) hn (more_same hR hR1 n (by rw [HMD.out];omega))
      refine opsR_callZ rfl rfl rfl Tryz.func37 (by kernel_rfl) body37 (vals:=#[.agg (l.rarr b),.agg ({ l with pb:=some ⟨go,0,none⟩,pc:=cap1 }.rarr { b with ps:=b.ps ++ [m] }),.int .i64 n]) (by simp [Act.eval]) (R:=fun v w1 S9 => v = .bool true ∧ GrowS wr.heap.size wr S5 w1 S9) (by exact hsame _) ?_
      clear hsame
      rintro u w5 S5 ⟨rfl,hg5⟩
      replace E:=E.grow hg5
      clear hg5 h9 hB1
      refine opsR_loneZ rfl rfl fun wr hs => ?_
      replace E:=E.same hs
      clear hs
      gi_wp2
      refine opsR_loneZ rfl rfl fun wr hs => ?_
      replace E:=E.same hs
      clear hs
      gi_wp2
      refine opsR_callZ rfl rfl rfl Tryz.func17 (by kernel_rfl) body17 (vals:=#[]) (by simp) (paid_R E.kd (Nat.le_trans hlim E.g.size)) ?_
      rintro u w5 S5 ⟨rfl,hg5⟩
      replace E:=E.grow hg5
      clear hg5
      refine opsR_loneZ rfl rfl fun wr hs => ?_
      replace E:=E.same hs
      clear hs
      gi_wp2
      refine opsR_loneZ rfl rfl fun wr hs => ?_
      replace E:=E.same hs
      clear hs
      gi_wp2
      refine opsR_nil fit ?_
      refine wpR_ret fit ?_
      exact ⟨rfl,.bool true,fun τ d => by rw [results_tmp rfl];rfl,rfl,E.g⟩
end Go.Proofs.YtnkejaohnhpbpaaGreatDoor
