/- FeeTakes, beside leavers. PRINTED BY A PROGRAM. -/
import Derived.Test.YtnkejaohnhpbpaaGreatDoorA36
import Derived.Test.YtnkejaohnhpbpaaGreatDoorA65
import Derived.Test.YtnkejaohnhpbpaaGreatDoorA74
set_option linter.all false
namespace Go.Proofs.YtnkejaohnhpbpaaGreatDoor
open Go Go.Conc Go.RowKit Lift
structure WS (i0:Nat) (w0:World) (BO k:Nat) (v:Value) (D:Nat → Bool) (x:Tmp → Value) (w:World):Prop where
 fin:D i0 = true → ∃ w1,Below w0.heap.size w0 w1 ∧ w = w1.setCell ⟨BO,k,none⟩ v
 bel:D i0 = false → Below w0.heap.size w0 w
theorem WS.start {i0 BO k:Nat} {w0:World} {v:Value} {x:Tmp → Value}:WS i0 w0 BO k v (fun _ => false) x { w0 with drawn:=w0.drawn + 1 }:=
 ⟨fun h => by (cases h),fun _ => ⟨rfl,rfl,rfl,Nat.le_refl _,fun _ _ => rfl⟩⟩
theorem WS.step {i0 BO k i:Nat} {w0 w w':World} {v:Value} {x:Tmp → Value} {D:Nat → Bool} (h:WS i0 w0 BO k v D x w) (hi:i ≠ i0) (hd:D i0 = false) (hb:Below w.heap.size w w'):WS i0 w0 BO k v (alsoG D i) x w':=by
 have e:alsoG D i i0 = D i0:=alsoG_ne (Ne.symm hi)
 exact ⟨fun q => nof (e.trans hd) q,fun _ => (h.bel hd).trans (hb.mono (h.bel hd).size)⟩
theorem WS.store {i0 BO k:Nat} {w0 w:World} {v:Value} {x:Tmp → Value} {D:Nat → Bool} (h:WS i0 w0 BO k v D x w) (hd:D i0 = false):WS i0 w0 BO k v (alsoG D i0) x (w.setCell ⟨BO,k,none⟩ v):=
 ⟨fun _ => ⟨w,h.bel hd,rfl⟩,fun q => nof q alsoG_eq⟩
set_option maxHeartbeats 16000000 in
set_option maxRecDepth 1000000 in
theorem law7 [Keep] {w:World} {l:Lay} {b:RBook} (hbk:RBkAt w.heap.size l b w) (hcap:b.coins.length ≤ l.cc) (hkd:KindsAt w) (hlim:Keep.lim ≤ w.heap.size) {day:Int} (d0:0 ≤ day) (d1:day ≤ 65535) :
  Raw Tryz.prog (AtLeave Tryz.prog 7 Tryz.f7 fun v w1 S1 => v = .bool true ∧ GrowS w.heap.size w (fun _ => False) w1 S1) (G (Frame.enter Tryz.prog 7 #[.agg (l.rarr b),.int .u16 day] .normal) []) w (fun _ => False):=by
 refine raw_of_wpR fit (by simp) Tryz.func7 rfl ?_
 generalize (fun _ => False:Blks) = S
 simp only [Tryz.ntmps7,List.size_toArray,List.length_cons,List.length_nil,Nat.reduceAdd,Nat.reduceSub,Array.replicate_succ,Array.replicate_zero,List.push_toArray,List.append_toArray,List.nil_append,List.cons_append]
 refine wpR_thenZ fun wa hs=>?_
 gi_wp2
 have E:LawAt w S w.heap.size l b wa.heap.size (wa.alloc (.cells (l.rarr b) 27)) S:=by
  have hsz:wa.heap.size = w.heap.size:=by rw [hs.heap]
  have hg:Grow w.heap.size w (wa.alloc (.cells (l.rarr b) 27)):=hs.grow ((Below.refl w.heap.size wa).alloc (by omega) _)
  exact ⟨hg.s,hbk.grow hg,Blk.new _ _ _,by omega,hkd.grow hg hkd.lt⟩
 have h0:=hkd.lt
 clear hs hbk hkd
 generalize wa.alloc _ = W at *
 generalize wa.heap.size = B at *
 refine wpR_seq fit ?_
 refine wpR_lawZ E fun wb E=>?_
 have g0:=E.bx.cell 0;have g1:=E.bx.cell 1;have g2:=E.bx.cell 2;have g3:=E.bx.cell 3;simp at g0 g1 g2 g3;have ltB:=E.bx.lt
 have hcall:=Fit_in E.bk hcap
 gi_wp2_with (gi_at_call 35;with_reducible refine hcall.mono ?_;rintro e w2 ⟨⟨r,rfl,hr⟩,hb2⟩;replace E:=E.below hb2;clear g0 g1 g2 g3 ltB hb2;have g0:=E.bx.cell 0;have g1:=E.bx.cell 1;have g2:=E.bx.cell 2;have g3:=E.bx.cell 3;simp at g0 g1 g2 g3;have ltB:=E.bx.lt;rcases r with _ | _)
 ·refine wpR_cond fit (t:=true) rfl ?_
  simp only [if_true]
  refine wpR_seq fit (wpR_region fit ?_)
  simp only [List.size_toArray,List.length_cons,List.length_nil,Nat.reduceAdd,List.range,List.range.loop]
  refine opsR_callZ rfl rfl rfl Tryz.func17 (by kernel_rfl) body17 (vals:=#[]) (by simp) (paid_R E.kd (Nat.le_trans hlim E.g.size)) ?_
  rintro u w5 S5 ⟨rfl,hg5⟩
  replace E:=E.grow hg5
  clear hg5
  refine opsR_loneZ rfl rfl fun wr hs=>?_
  replace E:=E.same hs
  clear hs
  gi_wp2
  refine opsR_nil fit ?_
  refine wpR_ret fit ?_
  exact ⟨rfl,.bool true,fun τ d => by rw [results_tmp rfl];rfl,rfl,E.g⟩
 ·have hR:b.Right:=hr (by trivial)
  have hf:=hR.full
  refine wpR_cond fit (t:=false) rfl ?_
  simp only [Bool.false_eq_true,if_false]
  refine wpR_skip fit ?_
  clear g0 g1 g2 g3 ltB
  clear hr
  refine wpR_lawZ E fun wr E=>?_
  gi_wp2
  obtain ⟨n,en⟩:∃ n:Nat,day % 10000 = n:=⟨(day % 10000).toNat,by omega⟩
  have hn:n ≤ 9999:=by omega
  rw [en]
  clear en
  simp only [thenR]
  refine wpR_seq fit (wpR_mono (Q:=fun e a' w' S' => e = .normal ∧ ∃ BT BH:Nat,LawAt w S w.heap.size l b B w' S' ∧ Blk w' BT 3 (nums (fun _ => 0) b.coins.length) ∧ Blk w' BH 3 (nums (fun _ => 0) b.coins.length) ∧ (BT ≠ BH ∧ w.heap.size ≤ BT ∧ w.heap.size ≤ BH ∧ B < BT ∧ B < BH) ∧ ∃ u3 u8 u9 u10 u11 u12 u13 u14 u15 u16 u17 u18 u19 u20 u21 u22 u23 u24 u25 u26 u27 u28 u29 u30 u31 u32 u33 u34 u35 u36 u37 u38 u39 u40 u41 u42 u43 u44 u45 u46 u47 u48 u49 u50 u51 u52 u53 u54 u55 u56 u57 u58 u59 u60 u61 u62 u63 u64 u65 u66 u67 u68 u69 u70 u71 u72 u73 u74 u75 u76 u77 u78 u79 u80 u81 u82 u83 u84 u85 u86 u87 u88 u89 u90 u91 u92 u93 u94 u95 u96 u97 u98 u99 u100 u101 u102 u103 u104 u105 u106 u107 u108 u109 u110 u111 u112 u113 u114 u115 u116 u117 u118 u119 u120 u121 u122 u123 u124 u125 u126 u127 u128 u129 u130 u131 u132 u133 u134 u135 u136 u137 u138 u139 u140 u141 u142 u143 u144 u145 u146 u147 u148:Value,a' = ⟨#[.agg (l.rarr b),.int .u16 day,.pointer (some ⟨B,0,none⟩),u3,.bool false,.int .i64 n,.slice (some ⟨BT,0,none⟩) b.coins.length b.coins.length,.slice (some ⟨BH,0,none⟩) b.coins.length b.coins.length,u8,u9,u10,u11,u12,u13,u14,u15,u16,u17,u18,u19,u20,u21,u22,u23,u24,u25,u26,u27,u28,u29,u30,u31,u32,u33,u34,u35,u36,u37,u38,u39,u40,u41,u42,u43,u44,u45,u46,u47,u48,u49,u50,u51,u52,u53,u54,u55,u56,u57,u58,u59,u60,u61,u62,u63,u64,u65,u66,u67,u68,u69,u70,u71,u72,u73,u74,u75,u76,u77,u78,u79,u80,u81,u82,u83,u84,u85,u86,u87,u88,u89,u90,u91,u92,u93,u94,u95,u96,u97,u98,u99,u100,u101,u102,u103,u104,u105,u106,u107,u108,u109,u110,u111,u112,u113,u114,u115,u116,u117,u118,u119,u120,u121,u122,u123,u124,u125,u126,u127,u128,u129,u130,u131,u132,u133,u134,u135,u136,u137,u138,u139,u140,u141,u142,u143,u144,u145,u146,u147,u148],[]⟩) ?pre ?post)
  case pre =>
   refine wpR_loneZ fun wr hs=>?_
   replace E:=E.same hs
   clear hs
   have g0:=E.bx.cell 0;have g1:=E.bx.cell 1;have g2:=E.bx.cell 2;have g3:=E.bx.cell 3;simp at g0 g1 g2 g3;have ltB:=E.bx.lt
   have hmk:∀ w,(Instr.makeSlice 44 (.int .i64 b.coins.length) (.int .i64 b.coins.length)).run Tryz.prog w = _:=run_makeInts (by have:=hR.nc;omega)
   refine hideQ fun Q' hQ=>?_
   gi_region
   all_goals
    refine hQ _ _ _ ?_
    clear hQ hmk
    clear g0 g1 g2 g3 ltB
    have hb:Below wr.heap.size wr ((wr.alloc (.cells (nums (fun _ => 0) b.coins.length) 3)).alloc (.cells (nums (fun _ => 0) b.coins.length) 3)).drew:=(((Below.refl _ wr).alloc (Nat.le_refl _) _).alloc (by simp) _).trans ⟨rfl,rfl,rfl,Nat.le_refl _,fun _ _ => rfl⟩
    have h8:Blk ((wr.alloc (.cells (nums (fun _ => 0) b.coins.length) 3)).alloc (.cells (nums (fun _ => 0) b.coins.length) 3)).drew wr.heap.size 3 (nums (fun _ => 0) b.coins.length):=show Blk ((wr.alloc (.cells (nums (fun _ => 0) b.coins.length) 3)).alloc (.cells (nums (fun _ => 0) b.coins.length) 3)) wr.heap.size 3 _ from (Blk.new wr _ _).below ((Below.refl _ _).alloc (Nat.le_refl _) _)
    have h9:Blk ((wr.alloc (.cells (nums (fun _ => 0) b.coins.length) 3)).alloc (.cells (nums (fun _ => 0) b.coins.length) 3)).drew (wr.heap.size + 1) 3 (nums (fun _ => 0) b.coins.length):=by
     have:=Blk.new (wr.alloc (.cells (nums (fun _ => 0) b.coins.length) 3)) (nums (fun _ => 0) b.coins.length) 3
     rwa [World.size_alloc] at this
    have q1:=E.bx.lt
    have q3:=E.g.size
    first
     | exact ⟨rfl,wr.heap.size,wr.heap.size + 1,E.below hb,h8,h9,by omega,by (repeat apply Exists.intro);with_reducible rfl⟩
     | exact ⟨rfl,wr.heap.size + 1,wr.heap.size,E.below hb,h9,h8,by omega,by (repeat apply Exists.intro);with_reducible rfl⟩
  case post =>
   clear E
   rintro e a w1 S1 ⟨rfl,BT,BH,E,hT,hH,⟨k1,k2,k3,k4,k5⟩,h⟩
   obtain ⟨u3,h⟩:=h;obtain ⟨u8,h⟩:=h;obtain ⟨u9,h⟩:=h;obtain ⟨u10,h⟩:=h;obtain ⟨u11,h⟩:=h;obtain ⟨u12,h⟩:=h;obtain ⟨u13,h⟩:=h;obtain ⟨u14,h⟩:=h;obtain ⟨u15,h⟩:=h;obtain ⟨u16,h⟩:=h;obtain ⟨u17,h⟩:=h;obtain ⟨u18,h⟩:=h;obtain ⟨u19,h⟩:=h;obtain ⟨u20,h⟩:=h;obtain ⟨u21,h⟩:=h;obtain ⟨u22,h⟩:=h;obtain ⟨u23,h⟩:=h;obtain ⟨u24,h⟩:=h;obtain ⟨u25,h⟩:=h;obtain ⟨u26,h⟩:=h;obtain ⟨u27,h⟩:=h;obtain ⟨u28,h⟩:=h;obtain ⟨u29,h⟩:=h;obtain ⟨u30,h⟩:=h;obtain ⟨u31,h⟩:=h;obtain ⟨u32,h⟩:=h;obtain ⟨u33,h⟩:=h;obtain ⟨u34,h⟩:=h;obtain ⟨u35,h⟩:=h;obtain ⟨u36,h⟩:=h;obtain ⟨u37,h⟩:=h;obtain ⟨u38,h⟩:=h;obtain ⟨u39,h⟩:=h;obtain ⟨u40,h⟩:=h;obtain ⟨u41,h⟩:=h;obtain ⟨u42,h⟩:=h;obtain ⟨u43,h⟩:=h;obtain ⟨u44,h⟩:=h;obtain ⟨u45,h⟩:=h;obtain ⟨u46,h⟩:=h;obtain ⟨u47,h⟩:=h;obtain ⟨u48,h⟩:=h;obtain ⟨u49,h⟩:=h;obtain ⟨u50,h⟩:=h;obtain ⟨u51,h⟩:=h;obtain ⟨u52,h⟩:=h;obtain ⟨u53,h⟩:=h;obtain ⟨u54,h⟩:=h;obtain ⟨u55,h⟩:=h;obtain ⟨u56,h⟩:=h;obtain ⟨u57,h⟩:=h;obtain ⟨u58,h⟩:=h;obtain ⟨u59,h⟩:=h;obtain ⟨u60,h⟩:=h;obtain ⟨u61,h⟩:=h;obtain ⟨u62,h⟩:=h;obtain ⟨u63,h⟩:=h;obtain ⟨u64,h⟩:=h;obtain ⟨u65,h⟩:=h;obtain ⟨u66,h⟩:=h;obtain ⟨u67,h⟩:=h;obtain ⟨u68,h⟩:=h;obtain ⟨u69,h⟩:=h;obtain ⟨u70,h⟩:=h;obtain ⟨u71,h⟩:=h;obtain ⟨u72,h⟩:=h;obtain ⟨u73,h⟩:=h;obtain ⟨u74,h⟩:=h;obtain ⟨u75,h⟩:=h;obtain ⟨u76,h⟩:=h;obtain ⟨u77,h⟩:=h;obtain ⟨u78,h⟩:=h;obtain ⟨u79,h⟩:=h;obtain ⟨u80,h⟩:=h;obtain ⟨u81,h⟩:=h;obtain ⟨u82,h⟩:=h;obtain ⟨u83,h⟩:=h;obtain ⟨u84,h⟩:=h;obtain ⟨u85,h⟩:=h;obtain ⟨u86,h⟩:=h;obtain ⟨u87,h⟩:=h;obtain ⟨u88,h⟩:=h;obtain ⟨u89,h⟩:=h;obtain ⟨u90,h⟩:=h;obtain ⟨u91,h⟩:=h;obtain ⟨u92,h⟩:=h;obtain ⟨u93,h⟩:=h;obtain ⟨u94,h⟩:=h;obtain ⟨u95,h⟩:=h;obtain ⟨u96,h⟩:=h;obtain ⟨u97,h⟩:=h;obtain ⟨u98,h⟩:=h;obtain ⟨u99,h⟩:=h;obtain ⟨u100,h⟩:=h;obtain ⟨u101,h⟩:=h;obtain ⟨u102,h⟩:=h;obtain ⟨u103,h⟩:=h;obtain ⟨u104,h⟩:=h;obtain ⟨u105,h⟩:=h;obtain ⟨u106,h⟩:=h;obtain ⟨u107,h⟩:=h;obtain ⟨u108,h⟩:=h;obtain ⟨u109,h⟩:=h;obtain ⟨u110,h⟩:=h;obtain ⟨u111,h⟩:=h;obtain ⟨u112,h⟩:=h;obtain ⟨u113,h⟩:=h;obtain ⟨u114,h⟩:=h;obtain ⟨u115,h⟩:=h;obtain ⟨u116,h⟩:=h;obtain ⟨u117,h⟩:=h;obtain ⟨u118,h⟩:=h;obtain ⟨u119,h⟩:=h;obtain ⟨u120,h⟩:=h;obtain ⟨u121,h⟩:=h;obtain ⟨u122,h⟩:=h;obtain ⟨u123,h⟩:=h;obtain ⟨u124,h⟩:=h;obtain ⟨u125,h⟩:=h;obtain ⟨u126,h⟩:=h;obtain ⟨u127,h⟩:=h;obtain ⟨u128,h⟩:=h;obtain ⟨u129,h⟩:=h;obtain ⟨u130,h⟩:=h;obtain ⟨u131,h⟩:=h;obtain ⟨u132,h⟩:=h;obtain ⟨u133,h⟩:=h;obtain ⟨u134,h⟩:=h;obtain ⟨u135,h⟩:=h;obtain ⟨u136,h⟩:=h;obtain ⟨u137,h⟩:=h;obtain ⟨u138,h⟩:=h;obtain ⟨u139,h⟩:=h;obtain ⟨u140,h⟩:=h;obtain ⟨u141,h⟩:=h;obtain ⟨u142,h⟩:=h;obtain ⟨u143,h⟩:=h;obtain ⟨u144,h⟩:=h;obtain ⟨u145,h⟩:=h;obtain ⟨u146,h⟩:=h;obtain ⟨u147,h⟩:=h;obtain ⟨u148,h⟩:=h
   subst h
   simp only [thenR]
   refine wpR_seq fit ?_
   refine wpR_thenZ fun wr hs=>?_
   replace E:=E.same hs
   replace hT:=hs.blk hT
   replace hH:=hs.blk hH
   clear hs
   gi_wp2
   simp only [thenR]
   refine wpR_block fit ?_
   refine wpR_loop fit (fun k a w' S' => ∃ j:Nat,j ≤ b.cs.length ∧ k = b.cs.length - j ∧ LawAt w S w.heap.size l b B w' S' ∧ Blk w' BT 3 (nums (tookL b.to n j) b.coins.length) ∧ Blk w' BH 3 (nums (heldL b.to n j) b.coins.length) ∧ ∃ u3 u9 u10 u11 u12 u13 u14 u15 u16 u17 u18 u19 u20 u21 u22 u23 u24 u25 u26 u27 u28 u29 u30 u31 u32 u33 u34 u35 u36 u37 u38 u39 u40 u41 u42 u43 u44 u45 u46 u47 u48 u49 u50 u51 u52 u53 u54 u55 u56 u57 u58 u59 u60 u61 u62 u63 u64 u65 u66 u67 u68 u69 u70 u71 u72 u73 u74 u75 u76 u77 u78 u79 u80 u81 u82 u83 u84 u85 u86 u87 u88 u89 u90 u91 u92 u93 u94 u95 u96 u97 u98 u99 u100 u101 u102 u103 u104 u105 u106 u107 u108 u109 u110 u111 u112 u113 u114 u115 u116 u117 u118 u119 u120 u121 u122 u123 u124 u125 u126 u127 u128 u129 u130 u131 u132 u133 u134 u135 u136 u137 u138 u139 u140 u141 u142 u143 u144 u145 u146 u147 u148:Value,a = ⟨#[.agg (l.rarr b),.int .u16 day,.pointer (some ⟨B,0,none⟩),u3,.bool false,.int .i64 n,.slice (some ⟨BT,0,none⟩) b.coins.length b.coins.length,.slice (some ⟨BH,0,none⟩) b.coins.length b.coins.length,.int .i64 j,u9,u10,u11,u12,u13,u14,u15,u16,u17,u18,u19,u20,u21,u22,u23,u24,u25,u26,u27,u28,u29,u30,u31,u32,u33,u34,u35,u36,u37,u38,u39,u40,u41,u42,u43,u44,u45,u46,u47,u48,u49,u50,u51,u52,u53,u54,u55,u56,u57,u58,u59,u60,u61,u62,u63,u64,u65,u66,u67,u68,u69,u70,u71,u72,u73,u74,u75,u76,u77,u78,u79,u80,u81,u82,u83,u84,u85,u86,u87,u88,u89,u90,u91,u92,u93,u94,u95,u96,u97,u98,u99,u100,u101,u102,u103,u104,u105,u106,u107,u108,u109,u110,u111,u112,u113,u114,u115,u116,u117,u118,u119,u120,u121,u122,u123,u124,u125,u126,u127,u128,u129,u130,u131,u132,u133,u134,u135,u136,u137,u138,u139,u140,u141,u142,u143,u144,u145,u146,u147,u148],[]⟩) b.cs.length ?start ?_
   case start => refine ⟨0,Nat.zero_le _,rfl,E,hT,hH,?_⟩;(repeat apply Exists.intro);rfl
   clear E hT hH
   rintro k a w1 S1 ⟨j,hj,rfl,E,hT,hH,h⟩
   obtain ⟨u3,h⟩:=h;obtain ⟨u9,h⟩:=h;obtain ⟨u10,h⟩:=h;obtain ⟨u11,h⟩:=h;obtain ⟨u12,h⟩:=h;obtain ⟨u13,h⟩:=h;obtain ⟨u14,h⟩:=h;obtain ⟨u15,h⟩:=h;obtain ⟨u16,h⟩:=h;obtain ⟨u17,h⟩:=h;obtain ⟨u18,h⟩:=h;obtain ⟨u19,h⟩:=h;obtain ⟨u20,h⟩:=h;obtain ⟨u21,h⟩:=h;obtain ⟨u22,h⟩:=h;obtain ⟨u23,h⟩:=h;obtain ⟨u24,h⟩:=h;obtain ⟨u25,h⟩:=h;obtain ⟨u26,h⟩:=h;obtain ⟨u27,h⟩:=h;obtain ⟨u28,h⟩:=h;obtain ⟨u29,h⟩:=h;obtain ⟨u30,h⟩:=h;obtain ⟨u31,h⟩:=h;obtain ⟨u32,h⟩:=h;obtain ⟨u33,h⟩:=h;obtain ⟨u34,h⟩:=h;obtain ⟨u35,h⟩:=h;obtain ⟨u36,h⟩:=h;obtain ⟨u37,h⟩:=h;obtain ⟨u38,h⟩:=h;obtain ⟨u39,h⟩:=h;obtain ⟨u40,h⟩:=h;obtain ⟨u41,h⟩:=h;obtain ⟨u42,h⟩:=h;obtain ⟨u43,h⟩:=h;obtain ⟨u44,h⟩:=h;obtain ⟨u45,h⟩:=h;obtain ⟨u46,h⟩:=h;obtain ⟨u47,h⟩:=h;obtain ⟨u48,h⟩:=h;obtain ⟨u49,h⟩:=h;obtain ⟨u50,h⟩:=h;obtain ⟨u51,h⟩:=h;obtain ⟨u52,h⟩:=h;obtain ⟨u53,h⟩:=h;obtain ⟨u54,h⟩:=h;obtain ⟨u55,h⟩:=h;obtain ⟨u56,h⟩:=h;obtain ⟨u57,h⟩:=h;obtain ⟨u58,h⟩:=h;obtain ⟨u59,h⟩:=h;obtain ⟨u60,h⟩:=h;obtain ⟨u61,h⟩:=h;obtain ⟨u62,h⟩:=h;obtain ⟨u63,h⟩:=h;obtain ⟨u64,h⟩:=h;obtain ⟨u65,h⟩:=h;obtain ⟨u66,h⟩:=h;obtain ⟨u67,h⟩:=h;obtain ⟨u68,h⟩:=h;obtain ⟨u69,h⟩:=h;obtain ⟨u70,h⟩:=h;obtain ⟨u71,h⟩:=h;obtain ⟨u72,h⟩:=h;obtain ⟨u73,h⟩:=h;obtain ⟨u74,h⟩:=h;obtain ⟨u75,h⟩:=h;obtain ⟨u76,h⟩:=h;obtain ⟨u77,h⟩:=h;obtain ⟨u78,h⟩:=h;obtain ⟨u79,h⟩:=h;obtain ⟨u80,h⟩:=h;obtain ⟨u81,h⟩:=h;obtain ⟨u82,h⟩:=h;obtain ⟨u83,h⟩:=h;obtain ⟨u84,h⟩:=h;obtain ⟨u85,h⟩:=h;obtain ⟨u86,h⟩:=h;obtain ⟨u87,h⟩:=h;obtain ⟨u88,h⟩:=h;obtain ⟨u89,h⟩:=h;obtain ⟨u90,h⟩:=h;obtain ⟨u91,h⟩:=h;obtain ⟨u92,h⟩:=h;obtain ⟨u93,h⟩:=h;obtain ⟨u94,h⟩:=h;obtain ⟨u95,h⟩:=h;obtain ⟨u96,h⟩:=h;obtain ⟨u97,h⟩:=h;obtain ⟨u98,h⟩:=h;obtain ⟨u99,h⟩:=h;obtain ⟨u100,h⟩:=h;obtain ⟨u101,h⟩:=h;obtain ⟨u102,h⟩:=h;obtain ⟨u103,h⟩:=h;obtain ⟨u104,h⟩:=h;obtain ⟨u105,h⟩:=h;obtain ⟨u106,h⟩:=h;obtain ⟨u107,h⟩:=h;obtain ⟨u108,h⟩:=h;obtain ⟨u109,h⟩:=h;obtain ⟨u110,h⟩:=h;obtain ⟨u111,h⟩:=h;obtain ⟨u112,h⟩:=h;obtain ⟨u113,h⟩:=h;obtain ⟨u114,h⟩:=h;obtain ⟨u115,h⟩:=h;obtain ⟨u116,h⟩:=h;obtain ⟨u117,h⟩:=h;obtain ⟨u118,h⟩:=h;obtain ⟨u119,h⟩:=h;obtain ⟨u120,h⟩:=h;obtain ⟨u121,h⟩:=h;obtain ⟨u122,h⟩:=h;obtain ⟨u123,h⟩:=h;obtain ⟨u124,h⟩:=h;obtain ⟨u125,h⟩:=h;obtain ⟨u126,h⟩:=h;obtain ⟨u127,h⟩:=h;obtain ⟨u128,h⟩:=h;obtain ⟨u129,h⟩:=h;obtain ⟨u130,h⟩:=h;obtain ⟨u131,h⟩:=h;obtain ⟨u132,h⟩:=h;obtain ⟨u133,h⟩:=h;obtain ⟨u134,h⟩:=h;obtain ⟨u135,h⟩:=h;obtain ⟨u136,h⟩:=h;obtain ⟨u137,h⟩:=h;obtain ⟨u138,h⟩:=h;obtain ⟨u139,h⟩:=h;obtain ⟨u140,h⟩:=h;obtain ⟨u141,h⟩:=h;obtain ⟨u142,h⟩:=h;obtain ⟨u143,h⟩:=h;obtain ⟨u144,h⟩:=h;obtain ⟨u145,h⟩:=h;obtain ⟨u146,h⟩:=h;obtain ⟨u147,h⟩:=h;obtain ⟨u148,h⟩:=h
   subst h
   refine wpR_seq fit ?_
   have hnk:=hR.nk
   have hnc:=hR.nc
   by_cases hl:j < b.cs.length
   ·have hlI:decide ((j:Int) < b.cs.length) = true:=decide_eq_true (by omega)
    refine wpR_thenZ fun wr hs=>?_
    replace E:=E.same hs
    replace hT:=hs.blk hT
    replace hH:=hs.blk hH
    clear hs
    have g0:=E.bx.cell 0;have g1:=E.bx.cell 1;have g2:=E.bx.cell 2;have g3:=E.bx.cell 3;simp at g0 g1 g2 g3;have ltB:=E.bx.lt
    gi_wp2
    clear g0 g1 g2 g3 ltB
    refine wpR_cond fit (t:=true) rfl ?_
    simp only [if_true]
    refine wpR_skip fit ?_
    simp only [thenR]
    refine wpR_seq fit ?_
    refine wpR_block fit ?_
    have hl':j < b.to.cs.length:=by simpa [RBook.to] using hl
    have hTA:=takes_are hf hn
    have HD:=Lib.hid (days_are hf.v hl' hn)
    obtain ⟨x,hx⟩:∃ x,(b.to.after 9999).cases j = x:=⟨_,rfl⟩
    obtain ⟨y,hy⟩:∃ y,(b.to.after n).cases j = y:=⟨_,rfl⟩
    obtain ⟨kp,hkp⟩:∃ kp,(x.state == 1 && x.held == 0) = kp:=⟨_,rfl⟩
    refine wpR_thenZ fun wr hs=>?_
    replace E:=E.same hs
    replace hT:=hs.blk hT
    replace hH:=hs.blk hH
    clear hs
    have g0:=E.bx.cell 0;have g1:=E.bx.cell 1;have g2:=E.bx.cell 2;have g3:=E.bx.cell 3;simp at g0 g1 g2 g3;have ltB:=E.bx.lt
    have hcall:=State_in (E.bk.to hR) hf E.kd hl' (day:=n) (by omega) (by omega)
    rw [RBook.to_val,hy] at hcall
    gi_wp2_with (gi_at_call 22;with_reducible refine hcall.mono ?_;rintro e w4 ⟨rfl,hb4⟩)
    replace E:=E.below hb4
    replace hT:=hT.below hb4
    replace hH:=hH.below hb4
    clear hb4 hcall
    clear g0 g1 g2 g3 ltB
    refine wpR_thenZ fun wr hs=>?_
    replace E:=E.same hs
    replace hT:=hs.blk hT
    replace hH:=hs.blk hH
    clear hs
    have g0:=E.bx.cell 0;have g1:=E.bx.cell 1;have g2:=E.bx.cell 2;have g3:=E.bx.cell 3;simp at g0 g1 g2 g3;have ltB:=E.bx.lt
    have hcall:=Kept_in (E.bk.to hR) hf E.kd hl'
    rw [RBook.to_val,hx,hkp] at hcall
    gi_wp2_with (gi_at_call 24;with_reducible refine hcall.mono ?_;rintro e w4 ⟨rfl,hb4⟩)
    replace E:=E.below hb4
    replace hT:=hT.below hb4
    replace hH:=hH.below hb4
    clear hb4 hcall
    clear g0 g1 g2 g3 ltB
    obtain ⟨xs,xh,xd,xf⟩:=x
    obtain ⟨ys,yh,yd,yf⟩:=y
    have HX:=Lib.hid hx
    have HY:=Lib.hid hy
    clear hx hy
    simp only [thenR]
    refine wpR_seq fit (wpR_mono (Q:=fun e a' w' S' => e = .normal ∧ LawAt w S w.heap.size l b B w' S' ∧ Blk w' BT 3 (nums (tookL b.to n j) b.coins.length) ∧ Blk w' BH 3 (nums (heldL b.to n j) b.coins.length) ∧ ∃ u3 u11 u12 u14 u15 u16 u17 u18 u19 u20 u21 u22 u23 u24 u25 u26 u27 u28 u29 u30 u31 u32 u33 u34 u35 u36 u37 u38 u39 u40 u41 u42 u43 u44 u45 u46 u47 u48 u49 u50 u51 u52 u53 u54 u55 u56 u57 u58 u59 u60 u61 u62 u63 u64 u65 u66 u67 u68 u69 u70 u71 u72 u73 u74 u75 u76 u77 u78 u79 u80 u81 u82 u83 u84 u85 u86 u87 u88 u89 u90 u91 u92 u93 u94 u95 u96 u97 u98 u99 u100 u101 u102 u103 u104 u105 u106 u107 u108 u109 u110 u111 u112 u113 u114 u115 u116 u117 u118 u119 u120 u121 u122 u123 u124 u125 u126 u127 u128 u129 u130 u131 u132 u133 u134 u135 u136 u137 u138 u139 u140 u141 u142 u143 u144 u145 u146 u147 u148:Value,a' = ⟨#[.agg (l.rarr b),.int .u16 day,.pointer (some ⟨B,0,none⟩),u3,.bool false,.int .i64 n,.slice (some ⟨BT,0,none⟩) b.coins.length b.coins.length,.slice (some ⟨BH,0,none⟩) b.coins.length b.coins.length,.int .i64 j,.int .i64 ys,.int .i64 yh,u11,u12,.int .i64 xf,u14,u15,u16,u17,u18,u19,u20,u21,u22,u23,u24,u25,u26,u27,u28,u29,u30,u31,u32,u33,u34,u35,u36,u37,u38,u39,u40,u41,u42,u43,u44,u45,u46,u47,u48,u49,u50,u51,u52,u53,u54,u55,u56,u57,u58,u59,u60,u61,u62,u63,u64,u65,u66,u67,u68,u69,u70,u71,u72,u73,u74,u75,u76,u77,u78,u79,u80,u81,u82,u83,u84,u85,u86,u87,u88,u89,u90,u91,u92,u93,u94,u95,u96,u97,u98,u99,u100,u101,u102,u103,u104,u105,u106,u107,u108,u109,u110,u111,u112,u113,u114,u115,u116,u117,u118,u119,u120,u121,u122,u123,u124,u125,u126,u127,u128,u129,u130,u131,u132,u133,u134,u135,u136,u137,u138,u139,u140,u141,u142,u143,u144,u145,u146,u147,u148],[]⟩) ?ten ?rest)
    case ten =>
     have D:=HD.out
     have Dh:=D.held0
     have Do:=D.opn
     have Ds:=D.shut
     have Dd:=D.day
     have Dy:=D.ys
     have De:=D.same
     rw [HX.out] at Dh Dd De
     rw [HY.out] at Do Ds Dd Dy De
     clear D
     simp only at Dh Do Ds Dd Dy De hkp
     cases kp with
     | false =>
      have hx1:¬ xs = 1:=fun h => by
       have:=Dh h
       subst h this
       simp at hkp
      clear hkp
      rcases Dy with rfl | rfl | rfl
      ·have j1:decide (yh < 0) = false:=decide_eq_false (by have:=(Do rfl).2.2;omega)
       clear Dh Do Ds Dd De
       refine wpR_thenZ fun wr hs=>?_
       replace E:=E.same hs
       replace hT:=hs.blk hT
       replace hH:=hs.blk hH
       clear hs
       gi_wp2
       refine wpR_cond fit (t:=false) rfl ?_
       simp only [Bool.false_eq_true,if_false]
       refine wpR_skip fit ?_
       refine ⟨by trivial,E,hT,hH,?_⟩
       (repeat apply Exists.intro)
       rfl
      ·have:=De rfl
       simp only [Std.mk.injEq] at this
       exact absurd this.1.symm hx1
      ·obtain rfl:=Ds (by decide)
       clear Dh Do Ds Dd De
       refine wpR_thenZ fun wr hs=>?_
       replace E:=E.same hs
       replace hT:=hs.blk hT
       replace hH:=hs.blk hH
       clear hs
       gi_wp2
       refine wpR_cond fit (t:=false) rfl ?_
       simp only [Bool.false_eq_true,if_false]
       refine wpR_skip fit ?_
       refine ⟨by trivial,E,hT,hH,?_⟩
       (repeat apply Exists.intro)
       rfl
     | true =>
      simp only [Bool.and_eq_true,beq_iff_eq] at hkp
      obtain ⟨rfl,rfl⟩:=hkp
      obtain ⟨-,-,d3,d4,-⟩:=Dd rfl
      rcases Dy with rfl | rfl | rfl
      ·have j1:decide (yh < 0) = false:=decide_eq_false (by have:=(Do rfl).2.2;omega)
       have j2:decide (xd ≤ (n:Int)) = false:=decide_eq_false fun q => by have:=d3.2 q;omega
       clear Dh Do Ds Dd De d3 d4
       refine wpR_thenZ fun wr hs=>?_
       replace E:=E.same hs
       replace hT:=hs.blk hT
       replace hH:=hs.blk hH
       clear hs
       gi_wp2
       refine wpR_cond fit (t:=false) rfl ?_
       simp only [Bool.false_eq_true,if_false]
       refine wpR_skip fit ?_
       refine ⟨by trivial,E,hT,hH,?_⟩
       (repeat apply Exists.intro)
       rfl
      ·obtain rfl:=Ds (by decide)
       have j2:decide (xd ≤ (n:Int)) = true:=decide_eq_true (d3.1 rfl)
       clear Dh Do Ds Dd De d3 d4
       refine wpR_thenZ fun wr hs=>?_
       replace E:=E.same hs
       replace hT:=hs.blk hT
       replace hH:=hs.blk hH
       clear hs
       gi_wp2
       refine wpR_cond fit (t:=false) rfl ?_
       simp only [Bool.false_eq_true,if_false]
       refine wpR_skip fit ?_
       refine ⟨by trivial,E,hT,hH,?_⟩
       (repeat apply Exists.intro)
       rfl
      ·exfalso
       by_cases q:xd ≤ (n:Int)
       ·have:=d3.2 q;omega
       ·have:=d4 (by omega);omega
    case rest =>
     clear E hT hH
     rintro e a w1 S1 ⟨rfl,E,hT,hH,h⟩
     obtain ⟨u3,h⟩:=h;obtain ⟨u11,h⟩:=h;obtain ⟨u12,h⟩:=h;obtain ⟨u14,h⟩:=h;obtain ⟨u15,h⟩:=h;obtain ⟨u16,h⟩:=h;obtain ⟨u17,h⟩:=h;obtain ⟨u18,h⟩:=h;obtain ⟨u19,h⟩:=h;obtain ⟨u20,h⟩:=h;obtain ⟨u21,h⟩:=h;obtain ⟨u22,h⟩:=h;obtain ⟨u23,h⟩:=h;obtain ⟨u24,h⟩:=h;obtain ⟨u25,h⟩:=h;obtain ⟨u26,h⟩:=h;obtain ⟨u27,h⟩:=h;obtain ⟨u28,h⟩:=h;obtain ⟨u29,h⟩:=h;obtain ⟨u30,h⟩:=h;obtain ⟨u31,h⟩:=h;obtain ⟨u32,h⟩:=h;obtain ⟨u33,h⟩:=h;obtain ⟨u34,h⟩:=h;obtain ⟨u35,h⟩:=h;obtain ⟨u36,h⟩:=h;obtain ⟨u37,h⟩:=h;obtain ⟨u38,h⟩:=h;obtain ⟨u39,h⟩:=h;obtain ⟨u40,h⟩:=h;obtain ⟨u41,h⟩:=h;obtain ⟨u42,h⟩:=h;obtain ⟨u43,h⟩:=h;obtain ⟨u44,h⟩:=h;obtain ⟨u45,h⟩:=h;obtain ⟨u46,h⟩:=h;obtain ⟨u47,h⟩:=h;obtain ⟨u48,h⟩:=h;obtain ⟨u49,h⟩:=h;obtain ⟨u50,h⟩:=h;obtain ⟨u51,h⟩:=h;obtain ⟨u52,h⟩:=h;obtain ⟨u53,h⟩:=h;obtain ⟨u54,h⟩:=h;obtain ⟨u55,h⟩:=h;obtain ⟨u56,h⟩:=h;obtain ⟨u57,h⟩:=h;obtain ⟨u58,h⟩:=h;obtain ⟨u59,h⟩:=h;obtain ⟨u60,h⟩:=h;obtain ⟨u61,h⟩:=h;obtain ⟨u62,h⟩:=h;obtain ⟨u63,h⟩:=h;obtain ⟨u64,h⟩:=h;obtain ⟨u65,h⟩:=h;obtain ⟨u66,h⟩:=h;obtain ⟨u67,h⟩:=h;obtain ⟨u68,h⟩:=h;obtain ⟨u69,h⟩:=h;obtain ⟨u70,h⟩:=h;obtain ⟨u71,h⟩:=h;obtain ⟨u72,h⟩:=h;obtain ⟨u73,h⟩:=h;obtain ⟨u74,h⟩:=h;obtain ⟨u75,h⟩:=h;obtain ⟨u76,h⟩:=h;obtain ⟨u77,h⟩:=h;obtain ⟨u78,h⟩:=h;obtain ⟨u79,h⟩:=h;obtain ⟨u80,h⟩:=h;obtain ⟨u81,h⟩:=h;obtain ⟨u82,h⟩:=h;obtain ⟨u83,h⟩:=h;obtain ⟨u84,h⟩:=h;obtain ⟨u85,h⟩:=h;obtain ⟨u86,h⟩:=h;obtain ⟨u87,h⟩:=h;obtain ⟨u88,h⟩:=h;obtain ⟨u89,h⟩:=h;obtain ⟨u90,h⟩:=h;obtain ⟨u91,h⟩:=h;obtain ⟨u92,h⟩:=h;obtain ⟨u93,h⟩:=h;obtain ⟨u94,h⟩:=h;obtain ⟨u95,h⟩:=h;obtain ⟨u96,h⟩:=h;obtain ⟨u97,h⟩:=h;obtain ⟨u98,h⟩:=h;obtain ⟨u99,h⟩:=h;obtain ⟨u100,h⟩:=h;obtain ⟨u101,h⟩:=h;obtain ⟨u102,h⟩:=h;obtain ⟨u103,h⟩:=h;obtain ⟨u104,h⟩:=h;obtain ⟨u105,h⟩:=h;obtain ⟨u106,h⟩:=h;obtain ⟨u107,h⟩:=h;obtain ⟨u108,h⟩:=h;obtain ⟨u109,h⟩:=h;obtain ⟨u110,h⟩:=h;obtain ⟨u111,h⟩:=h;obtain ⟨u112,h⟩:=h;obtain ⟨u113,h⟩:=h;obtain ⟨u114,h⟩:=h;obtain ⟨u115,h⟩:=h;obtain ⟨u116,h⟩:=h;obtain ⟨u117,h⟩:=h;obtain ⟨u118,h⟩:=h;obtain ⟨u119,h⟩:=h;obtain ⟨u120,h⟩:=h;obtain ⟨u121,h⟩:=h;obtain ⟨u122,h⟩:=h;obtain ⟨u123,h⟩:=h;obtain ⟨u124,h⟩:=h;obtain ⟨u125,h⟩:=h;obtain ⟨u126,h⟩:=h;obtain ⟨u127,h⟩:=h;obtain ⟨u128,h⟩:=h;obtain ⟨u129,h⟩:=h;obtain ⟨u130,h⟩:=h;obtain ⟨u131,h⟩:=h;obtain ⟨u132,h⟩:=h;obtain ⟨u133,h⟩:=h;obtain ⟨u134,h⟩:=h;obtain ⟨u135,h⟩:=h;obtain ⟨u136,h⟩:=h;obtain ⟨u137,h⟩:=h;obtain ⟨u138,h⟩:=h;obtain ⟨u139,h⟩:=h;obtain ⟨u140,h⟩:=h;obtain ⟨u141,h⟩:=h;obtain ⟨u142,h⟩:=h;obtain ⟨u143,h⟩:=h;obtain ⟨u144,h⟩:=h;obtain ⟨u145,h⟩:=h;obtain ⟨u146,h⟩:=h;obtain ⟨u147,h⟩:=h;obtain ⟨u148,h⟩:=h
     subst h
     simp only [thenR]
     have hcl:b.to.coin j < b.coins.length:=(hf.v.t _ (hf.v.tar hl')).1
     obtain ⟨co,hco⟩:∃ co,b.to.coin j = co:=⟨_,rfl⟩
     rw [hco] at hcl
     have HCO:=Lib.hid hco
     obtain ⟨hv,hhv⟩:∃ hv,heldL b.to n j co = hv:=⟨_,rfl⟩
     have hn1:=heldL_succ b.to n j co
     rw [hco,if_pos rfl,hhv,HY.out] at hn1
     simp only at hn1
     have hb0:=hTA.hb j co (Nat.le_of_lt hl') hcl
     have hb1':=hTA.hb (j + 1) co hl' hcl
     rw [hhv] at hb0
     rw [hn1] at hb1'
     have HN1:=Lib.hid hn1
     have HHV:=Lib.hid hhv
     obtain ⟨r1,r2⟩:=hb0
     obtain ⟨r3,r4⟩:=hb1'
     clear hn1 hco hhv
     refine wpR_thenZ fun w4 hs=>?_
     replace E:=E.same hs
     replace hT:=hs.blk hT
     replace hH:=hs.blk hH
     clear hs
     refine hideQ fun Q' hQ=>?_
     refine wpIn_region_ghosts rfl mixed (by kernel_rfl) (WS 13 w4 BH co (.int .i64 (hv + yh))) [] (x₀:=fun _ => undef) (fun g hg => by cases hg) WS.start ?_
     simp only [List.size_toArray,List.length_cons,List.length_nil,Nat.reduceAdd,List.range,List.range.loop]
     refine detM_at (u0:=fun _ => undef) rfl (fun _ => rfl) (by decide) (fun g hg => by cases hg) ?_
     apply Exists.intro
     refine ⟨fun D x w' hm hW K Q hK=>?_,?_⟩
     ·have d13:=hm.2.2 13 (by kernel_rfl)
      have hb:=hW.bel d13
      skip
      simp only [Lift.Act.setG,List.foldl_cons,List.foldl_nil,List.setIfInBounds_toArray,List.set_cons_zero,List.set_cons_succ]
      gi_wp2
      exact hW.step (by decide) d13 (Below.refl _ _)
     apply Exists.intro
     refine ⟨fun x => rfl,?_⟩
     refine detM_at (u0:=fun _ => undef) rfl (fun _ => rfl) (by decide) (fun g hg => by cases hg) ?_
     apply Exists.intro
     refine ⟨fun D x w' hm hW K Q hK=>?_,?_⟩
     ·have d13:=hm.2.2 13 (by kernel_rfl)
      have hb:=hW.bel d13
      have q:=E.bx.below hb;have q0:=q.cell 0;have q1:=q.cell 1;have q2:=q.cell 2;have q3:=q.cell 3;simp at q0 q1 q2 q3
      simp only [Lift.Act.setG,List.foldl_cons,List.foldl_nil,List.setIfInBounds_toArray,List.set_cons_zero,List.set_cons_succ]
      gi_wp2
      exact hW.step (by decide) d13 (Below.refl _ _)
     apply Exists.intro
     refine ⟨fun x => rfl,?_⟩
     refine detM_at (u0:=fun _ => undef) rfl (fun _ => rfl) (by decide) (fun g hg => by cases hg) ?_
     apply Exists.intro
     refine ⟨fun D x w' hm hW K Q hK=>?_,?_⟩
     ·have d13:=hm.2.2 13 (by kernel_rfl)
      have hb:=hW.bel d13
      skip
      simp only [Lift.Act.setG,List.foldl_cons,List.foldl_nil,List.setIfInBounds_toArray,List.set_cons_zero,List.set_cons_succ]
      gi_wp2
      exact hW.step (by decide) d13 (Below.refl _ _)
     apply Exists.intro
     refine ⟨fun x => rfl,?_⟩
     refine detM_at (u0:=fun _ => undef) rfl (fun _ => rfl) (by decide) (fun g hg => by cases hg) ?_
     apply Exists.intro
     refine ⟨fun D x w' hm hW K Q hK=>?_,?_⟩
     ·have d13:=hm.2.2 13 (by kernel_rfl)
      have hb:=hW.bel d13
      have hcall:=coinOf_in (E.bk.below (hb.mono E.bk.hN)) hR hl;rw [HCO.out] at hcall
      simp only [Lift.Act.setG,List.foldl_cons,List.foldl_nil,List.setIfInBounds_toArray,List.set_cons_zero,List.set_cons_succ]
      gi_wp2_with (gi_at_call 36;with_reducible refine hcall.mono ?_;rintro e w3 ⟨rfl,hb3⟩)
      exact hW.step (by decide) d13 hb3
     apply Exists.intro
     refine ⟨fun x => rfl,?_⟩
     refine detM_at (u0:=fun _ => undef) rfl (fun _ => rfl) (by decide) (fun g hg => by cases hg) ?_
     apply Exists.intro
     refine ⟨fun D x w' hm hW K Q hK=>?_,?_⟩
     ·have d13:=hm.2.2 13 (by kernel_rfl)
      have hb:=hW.bel d13
      skip
      simp only [Lift.Act.setG,List.foldl_cons,List.foldl_nil,List.setIfInBounds_toArray,List.set_cons_zero,List.set_cons_succ]
      gi_wp2
      exact hW.step (by decide) d13 (Below.refl _ _)
     apply Exists.intro
     refine ⟨fun x => rfl,?_⟩
     refine detM_at (u0:=fun _ => undef) rfl (fun _ => rfl) (by decide) (fun g hg => by cases hg) ?_
     apply Exists.intro
     refine ⟨fun D x w' hm hW K Q hK=>?_,?_⟩
     ·have d13:=hm.2.2 13 (by kernel_rfl)
      have hb:=hW.bel d13
      have q:=E.bx.below hb;have q0:=q.cell 0;have q1:=q.cell 1;have q2:=q.cell 2;have q3:=q.cell 3;simp at q0 q1 q2 q3
      simp only [Lift.Act.setG,List.foldl_cons,List.foldl_nil,List.setIfInBounds_toArray,List.set_cons_zero,List.set_cons_succ]
      gi_wp2
      exact hW.step (by decide) d13 (Below.refl _ _)
     apply Exists.intro
     refine ⟨fun x => rfl,?_⟩
     refine detM_at (u0:=fun _ => undef) rfl (fun _ => rfl) (by decide) (fun g hg => by cases hg) ?_
     apply Exists.intro
     refine ⟨fun D x w' hm hW K Q hK=>?_,?_⟩
     ·have d13:=hm.2.2 13 (by kernel_rfl)
      have hb:=hW.bel d13
      skip
      simp only [Lift.Act.setG,List.foldl_cons,List.foldl_nil,List.setIfInBounds_toArray,List.set_cons_zero,List.set_cons_succ]
      gi_wp2
      exact hW.step (by decide) d13 (Below.refl _ _)
     apply Exists.intro
     refine ⟨fun x => rfl,?_⟩
     refine detM_at (u0:=fun _ => undef) rfl (fun _ => rfl) (by decide) (fun g hg => by cases hg) ?_
     apply Exists.intro
     refine ⟨fun D x w' hm hW K Q hK=>?_,?_⟩
     ·have d13:=hm.2.2 13 (by kernel_rfl)
      have hb:=hW.bel d13
      have hcall:=coinOf_in (E.bk.below (hb.mono E.bk.hN)) hR hl;rw [HCO.out] at hcall
      simp only [Lift.Act.setG,List.foldl_cons,List.foldl_nil,List.setIfInBounds_toArray,List.set_cons_zero,List.set_cons_succ]
      gi_wp2_with (gi_at_call 36;with_reducible refine hcall.mono ?_;rintro e w3 ⟨rfl,hb3⟩)
      exact hW.step (by decide) d13 hb3
     apply Exists.intro
     refine ⟨fun x => rfl,?_⟩
     refine detM_at (u0:=fun _ => undef) rfl (fun _ => rfl) (by decide) (fun g hg => by cases hg) ?_
     apply Exists.intro
     refine ⟨fun D x w' hm hW K Q hK=>?_,?_⟩
     ·have d13:=hm.2.2 13 (by kernel_rfl)
      have hb:=hW.bel d13
      skip
      simp only [Lift.Act.setG,List.foldl_cons,List.foldl_nil,List.setIfInBounds_toArray,List.set_cons_zero,List.set_cons_succ]
      gi_wp2
      exact hW.step (by decide) d13 (Below.refl _ _)
     apply Exists.intro
     refine ⟨fun x => rfl,?_⟩
     refine detM_at (u0:=fun _ => undef) rfl (fun _ => rfl) (by decide) (fun g hg => by cases hg) ?_
     apply Exists.intro
     refine ⟨fun D x w' hm hW K Q hK=>?_,?_⟩
     ·have d13:=hm.2.2 13 (by kernel_rfl)
      have hb:=hW.bel d13
      have q:=hH.below hb;have z0:=q.cell co;rw [nums_get hcl,HHV.out] at z0;have ltL:=q.lt;have y0:=q.frozen co
      simp only [Lift.Act.setG,List.foldl_cons,List.foldl_nil,List.setIfInBounds_toArray,List.set_cons_zero,List.set_cons_succ]
      gi_wp2
      exact hW.step (by decide) d13 (Below.refl _ _)
     apply Exists.intro
     refine ⟨fun x => rfl,?_⟩
     refine detM_at (u0:=fun _ => undef) rfl (fun _ => rfl) (by decide) (fun g hg => by cases hg) ?_
     apply Exists.intro
     refine ⟨fun D x w' hm hW K Q hK=>?_,?_⟩
     ·have d13:=hm.2.2 13 (by kernel_rfl)
      have hb:=hW.bel d13
      skip
      simp only [Lift.Act.setG,List.foldl_cons,List.foldl_nil,List.setIfInBounds_toArray,List.set_cons_zero,List.set_cons_succ]
      gi_wp2
      exact hW.step (by decide) d13 (Below.refl _ _)
     apply Exists.intro
     refine ⟨fun x => rfl,?_⟩
     refine detM_at (u0:=fun _ => undef) rfl (fun _ => rfl) (by decide) (fun g hg => by cases hg) ?_
     apply Exists.intro
     refine ⟨fun D x w' hm hW K Q hK=>?_,?_⟩
     ·have d13:=hm.2.2 13 (by kernel_rfl)
      have hb:=hW.bel d13
      skip
      simp only [Lift.Act.setG,List.foldl_cons,List.foldl_nil,List.setIfInBounds_toArray,List.set_cons_zero,List.set_cons_succ]
      gi_wp2
      exact hW.step (by decide) d13 (Below.refl _ _)
     apply Exists.intro
     refine ⟨fun x => rfl,?_⟩
     refine detM_at (u0:=fun _ => undef) rfl (fun _ => rfl) (by decide) (fun g hg => by cases hg) ?_
     apply Exists.intro
     refine ⟨fun D x w' hm hW K Q hK=>?_,?_⟩
     ·have d13:=hm.2.2 13 (by kernel_rfl)
      have hb:=hW.bel d13
      skip
      simp only [Lift.Act.setG,List.foldl_cons,List.foldl_nil,List.setIfInBounds_toArray,List.set_cons_zero,List.set_cons_succ]
      gi_wp2
      exact hW.step (by decide) d13 (Below.refl _ _)
     apply Exists.intro
     refine ⟨fun x => rfl,?_⟩
     refine detM_none rfl (fun _ => rfl) rfl (fun D x w' hm hW K Q hK=>?_) ?_
     ·have d13:=hm.1
      have hb:=hW.bel d13
      have q:=hH.below hb;have z0:=q.cell co;rw [nums_get hcl,HHV.out] at z0;have ltL:=q.lt;have y0:=q.frozen co
      have hst:=hW.store d13
      simp only [Lift.Act.setG,List.foldl_cons,List.foldl_nil,List.setIfInBounds_toArray,List.set_cons_zero,List.set_cons_succ] at hK ⊢
      gi_wp2
      all_goals exact hst
     intro x w5 hW
     refine hQ _ _ _ ?_
     clear hQ
     obtain ⟨w1,hb1,rfl⟩:=hW.fin (by decide)
     replace E:=E.poke (j:=co) (v:=.int .i64 (hv + yh)) h0 hb1 k3 (by omega)
     replace hT:=(hT.below hb1).set (j:=co) (show BH ≠ BT by omega) (.int .i64 (hv + yh))
     replace hH:=(hH.below hb1).put co (.int .i64 (hv + yh))
     rw [nums_set (g:=heldL b.to n (j + 1)) hcl HN1.out fun k _ hk => by rw [heldL_succ,HCO.out,if_neg hk]] at hH
     clear hW hb1 r1 r2 r3 r4
     generalize w1.setCell _ _ = W6 at *
     simp only [thenR]
     simp only [Lift.Act.setG,List.foldl_nil,List.setIfInBounds_toArray,List.set_cons_zero,List.set_cons_succ]
     by_cases hy1:ys = 1
     ·have hyx:yf = xf:=by
       have De:=HD.out.same
       rw [HX.out,HY.out] at De
       have:=De hy1
       simp only [Std.mk.injEq] at this
       exact this.2.2.2
      obtain ⟨tv,htv⟩:∃ tv,tookL b.to n j co = tv:=⟨_,rfl⟩
      have hn1:=tookL_succ b.to n j co
      rw [HCO.out,if_pos rfl,htv] at hn1
      have htk:tookOf (b.to.after n) j = xf:=by unfold tookOf;rw [HY.out];simp only;rw [if_pos hy1,hyx]
      rw [htk] at hn1
      have hb0:=hTA.tb j co (Nat.le_of_lt hl') hcl
      have hb1':=hTA.tb (j + 1) co hl' hcl
      rw [htv] at hb0
      rw [hn1] at hb1'
      have HN2:=Lib.hid hn1
      have HTV:=Lib.hid htv
      obtain ⟨r1,r2⟩:=hb0
      obtain ⟨r3,r4⟩:=hb1'
      clear hn1 htv htk hyx
      subst hy1
      refine wpR_thenZ fun wr hs=>?_
      replace E:=E.same hs
      replace hT:=hs.blk hT
      replace hH:=hs.blk hH
      clear hs
      gi_wp2
      refine wpR_cond fit (t:=true) rfl ?_
      simp only [if_true]
      refine wpR_loneZ fun w4 hs=>?_
      replace E:=E.same hs
      replace hT:=hs.blk hT
      replace hH:=hs.blk hH
      clear hs
      refine hideQ fun Q' hQ=>?_
      refine wpIn_region_ghosts rfl mixed (by kernel_rfl) (WS 13 w4 BT co (.int .i64 (tv + xf))) [] (x₀:=fun _ => undef) (fun g hg => by cases hg) WS.start ?_
      simp only [List.size_toArray,List.length_cons,List.length_nil,Nat.reduceAdd,List.range,List.range.loop]
      refine detM_at (u0:=fun _ => undef) rfl (fun _ => rfl) (by decide) (fun g hg => by cases hg) ?_
      apply Exists.intro
      refine ⟨fun D x w' hm hW K Q hK=>?_,?_⟩
      ·have d13:=hm.2.2 13 (by kernel_rfl)
       have hb:=hW.bel d13
       skip
       simp only [Lift.Act.setG,List.foldl_cons,List.foldl_nil,List.setIfInBounds_toArray,List.set_cons_zero,List.set_cons_succ]
       gi_wp2
       exact hW.step (by decide) d13 (Below.refl _ _)
      apply Exists.intro
      refine ⟨fun x => rfl,?_⟩
      refine detM_at (u0:=fun _ => undef) rfl (fun _ => rfl) (by decide) (fun g hg => by cases hg) ?_
      apply Exists.intro
      refine ⟨fun D x w' hm hW K Q hK=>?_,?_⟩
      ·have d13:=hm.2.2 13 (by kernel_rfl)
       have hb:=hW.bel d13
       have q:=E.bx.below hb;have q0:=q.cell 0;have q1:=q.cell 1;have q2:=q.cell 2;have q3:=q.cell 3;simp at q0 q1 q2 q3
       simp only [Lift.Act.setG,List.foldl_cons,List.foldl_nil,List.setIfInBounds_toArray,List.set_cons_zero,List.set_cons_succ]
       gi_wp2
       exact hW.step (by decide) d13 (Below.refl _ _)
      apply Exists.intro
      refine ⟨fun x => rfl,?_⟩
      refine detM_at (u0:=fun _ => undef) rfl (fun _ => rfl) (by decide) (fun g hg => by cases hg) ?_
      apply Exists.intro
      refine ⟨fun D x w' hm hW K Q hK=>?_,?_⟩
      ·have d13:=hm.2.2 13 (by kernel_rfl)
       have hb:=hW.bel d13
       skip
       simp only [Lift.Act.setG,List.foldl_cons,List.foldl_nil,List.setIfInBounds_toArray,List.set_cons_zero,List.set_cons_succ]
       gi_wp2
       exact hW.step (by decide) d13 (Below.refl _ _)
      apply Exists.intro
      refine ⟨fun x => rfl,?_⟩
      refine detM_at (u0:=fun _ => undef) rfl (fun _ => rfl) (by decide) (fun g hg => by cases hg) ?_
      apply Exists.intro
      refine ⟨fun D x w' hm hW K Q hK=>?_,?_⟩
      ·have d13:=hm.2.2 13 (by kernel_rfl)
       have hb:=hW.bel d13
       have hcall:=coinOf_in (E.bk.below (hb.mono E.bk.hN)) hR hl;rw [HCO.out] at hcall
       simp only [Lift.Act.setG,List.foldl_cons,List.foldl_nil,List.setIfInBounds_toArray,List.set_cons_zero,List.set_cons_succ]
       gi_wp2_with (gi_at_call 36;with_reducible refine hcall.mono ?_;rintro e w3 ⟨rfl,hb3⟩)
       exact hW.step (by decide) d13 hb3
      apply Exists.intro
      refine ⟨fun x => rfl,?_⟩
      refine detM_at (u0:=fun _ => undef) rfl (fun _ => rfl) (by decide) (fun g hg => by cases hg) ?_
      apply Exists.intro
      refine ⟨fun D x w' hm hW K Q hK=>?_,?_⟩
      ·have d13:=hm.2.2 13 (by kernel_rfl)
       have hb:=hW.bel d13
       skip
       simp only [Lift.Act.setG,List.foldl_cons,List.foldl_nil,List.setIfInBounds_toArray,List.set_cons_zero,List.set_cons_succ]
       gi_wp2
       exact hW.step (by decide) d13 (Below.refl _ _)
      apply Exists.intro
      refine ⟨fun x => rfl,?_⟩
      refine detM_at (u0:=fun _ => undef) rfl (fun _ => rfl) (by decide) (fun g hg => by cases hg) ?_
      apply Exists.intro
      refine ⟨fun D x w' hm hW K Q hK=>?_,?_⟩
      ·have d13:=hm.2.2 13 (by kernel_rfl)
       have hb:=hW.bel d13
       have q:=E.bx.below hb;have q0:=q.cell 0;have q1:=q.cell 1;have q2:=q.cell 2;have q3:=q.cell 3;simp at q0 q1 q2 q3
       simp only [Lift.Act.setG,List.foldl_cons,List.foldl_nil,List.setIfInBounds_toArray,List.set_cons_zero,List.set_cons_succ]
       gi_wp2
       exact hW.step (by decide) d13 (Below.refl _ _)
      apply Exists.intro
      refine ⟨fun x => rfl,?_⟩
      refine detM_at (u0:=fun _ => undef) rfl (fun _ => rfl) (by decide) (fun g hg => by cases hg) ?_
      apply Exists.intro
      refine ⟨fun D x w' hm hW K Q hK=>?_,?_⟩
      ·have d13:=hm.2.2 13 (by kernel_rfl)
       have hb:=hW.bel d13
       skip
       simp only [Lift.Act.setG,List.foldl_cons,List.foldl_nil,List.setIfInBounds_toArray,List.set_cons_zero,List.set_cons_succ]
       gi_wp2
       exact hW.step (by decide) d13 (Below.refl _ _)
      apply Exists.intro
      refine ⟨fun x => rfl,?_⟩
      refine detM_at (u0:=fun _ => undef) rfl (fun _ => rfl) (by decide) (fun g hg => by cases hg) ?_
      apply Exists.intro
      refine ⟨fun D x w' hm hW K Q hK=>?_,?_⟩
      ·have d13:=hm.2.2 13 (by kernel_rfl)
       have hb:=hW.bel d13
       have hcall:=coinOf_in (E.bk.below (hb.mono E.bk.hN)) hR hl;rw [HCO.out] at hcall
       simp only [Lift.Act.setG,List.foldl_cons,List.foldl_nil,List.setIfInBounds_toArray,List.set_cons_zero,List.set_cons_succ]
       gi_wp2_with (gi_at_call 36;with_reducible refine hcall.mono ?_;rintro e w3 ⟨rfl,hb3⟩)
       exact hW.step (by decide) d13 hb3
      apply Exists.intro
      refine ⟨fun x => rfl,?_⟩
      refine detM_at (u0:=fun _ => undef) rfl (fun _ => rfl) (by decide) (fun g hg => by cases hg) ?_
      apply Exists.intro
      refine ⟨fun D x w' hm hW K Q hK=>?_,?_⟩
      ·have d13:=hm.2.2 13 (by kernel_rfl)
       have hb:=hW.bel d13
       skip
       simp only [Lift.Act.setG,List.foldl_cons,List.foldl_nil,List.setIfInBounds_toArray,List.set_cons_zero,List.set_cons_succ]
       gi_wp2
       exact hW.step (by decide) d13 (Below.refl _ _)
      apply Exists.intro
      refine ⟨fun x => rfl,?_⟩
      refine detM_at (u0:=fun _ => undef) rfl (fun _ => rfl) (by decide) (fun g hg => by cases hg) ?_
      apply Exists.intro
      refine ⟨fun D x w' hm hW K Q hK=>?_,?_⟩
      ·have d13:=hm.2.2 13 (by kernel_rfl)
       have hb:=hW.bel d13
       have q:=hT.below hb;have z0:=q.cell co;rw [nums_get hcl,HTV.out] at z0;have ltL:=q.lt;have y0:=q.frozen co
       simp only [Lift.Act.setG,List.foldl_cons,List.foldl_nil,List.setIfInBounds_toArray,List.set_cons_zero,List.set_cons_succ]
       gi_wp2
       exact hW.step (by decide) d13 (Below.refl _ _)
      apply Exists.intro
      refine ⟨fun x => rfl,?_⟩
      refine detM_at (u0:=fun _ => undef) rfl (fun _ => rfl) (by decide) (fun g hg => by cases hg) ?_
      apply Exists.intro
      refine ⟨fun D x w' hm hW K Q hK=>?_,?_⟩
      ·have d13:=hm.2.2 13 (by kernel_rfl)
       have hb:=hW.bel d13
       skip
       simp only [Lift.Act.setG,List.foldl_cons,List.foldl_nil,List.setIfInBounds_toArray,List.set_cons_zero,List.set_cons_succ]
       gi_wp2
       exact hW.step (by decide) d13 (Below.refl _ _)
      apply Exists.intro
      refine ⟨fun x => rfl,?_⟩
      refine detM_at (u0:=fun _ => undef) rfl (fun _ => rfl) (by decide) (fun g hg => by cases hg) ?_
      apply Exists.intro
      refine ⟨fun D x w' hm hW K Q hK=>?_,?_⟩
      ·have d13:=hm.2.2 13 (by kernel_rfl)
       have hb:=hW.bel d13
       skip
       simp only [Lift.Act.setG,List.foldl_cons,List.foldl_nil,List.setIfInBounds_toArray,List.set_cons_zero,List.set_cons_succ]
       gi_wp2
       exact hW.step (by decide) d13 (Below.refl _ _)
      apply Exists.intro
      refine ⟨fun x => rfl,?_⟩
      refine detM_at (u0:=fun _ => undef) rfl (fun _ => rfl) (by decide) (fun g hg => by cases hg) ?_
      apply Exists.intro
      refine ⟨fun D x w' hm hW K Q hK=>?_,?_⟩
      ·have d13:=hm.2.2 13 (by kernel_rfl)
       have hb:=hW.bel d13
       skip
       simp only [Lift.Act.setG,List.foldl_cons,List.foldl_nil,List.setIfInBounds_toArray,List.set_cons_zero,List.set_cons_succ]
       gi_wp2
       exact hW.step (by decide) d13 (Below.refl _ _)
      apply Exists.intro
      refine ⟨fun x => rfl,?_⟩
      refine detM_none rfl (fun _ => rfl) rfl (fun D x w' hm hW K Q hK=>?_) ?_
      ·have d13:=hm.1
       have hb:=hW.bel d13
       have q:=hT.below hb;have z0:=q.cell co;rw [nums_get hcl,HTV.out] at z0;have ltL:=q.lt;have y0:=q.frozen co
       have hst:=hW.store d13
       simp only [Lift.Act.setG,List.foldl_cons,List.foldl_nil,List.setIfInBounds_toArray,List.set_cons_zero,List.set_cons_succ] at hK ⊢
       gi_wp2
       all_goals exact hst
      intro x w5 hW
      refine hQ _ _ _ ?_
      clear hQ
      obtain ⟨w1,hb1,rfl⟩:=hW.fin (by decide)
      replace E:=E.poke (j:=co) (v:=.int .i64 (tv + xf)) h0 hb1 k2 (by omega)
      replace hH:=(hH.below hb1).set (j:=co) (show BT ≠ BH by omega) (.int .i64 (tv + xf))
      replace hT:=(hT.below hb1).put co (.int .i64 (tv + xf))
      rw [nums_set (g:=tookL b.to n (j + 1)) hcl HN2.out fun k _ hk => by rw [tookL_succ,HCO.out,if_neg hk]] at hT
      clear hW hb1 r1 r2 r3 r4
      generalize w1.setCell _ _ = W7 at *
      simp only [inBlockR,thenR]
      simp only [Lift.Act.setG,List.foldl_nil,List.setIfInBounds_toArray,List.set_cons_zero,List.set_cons_succ]
      refine wpR_loneZ fun wr hs=>?_
      replace E:=E.same hs
      replace hT:=hs.blk hT
      replace hH:=hs.blk hH
      clear hs
      have hjm:(j:Int) < 1000000:=by omega
      gi_wp2
      simp only [thenR]
      refine ⟨b.cs.length - (j + 1),by omega,j + 1,by omega,rfl,E,hT,hH,?_⟩
      (repeat apply Exists.intro)
      rfl
     ·have hy1b:(ys == 1) = false:=by simp [hy1]
      have htk:tookOf (b.to.after n) j = 0:=by unfold tookOf;rw [HY.out];simp only;rw [if_neg hy1]
      rw [nums_congr (g:=tookL b.to n (j + 1)) fun k _ => by rw [tookL_succ,htk];split <;> omega] at hT
      clear htk
      refine wpR_thenZ fun wr hs=>?_
      replace E:=E.same hs
      replace hT:=hs.blk hT
      replace hH:=hs.blk hH
      clear hs
      gi_wp2
      refine wpR_cond fit (t:=false) rfl ?_
      simp only [Bool.false_eq_true,if_false]
      refine wpR_skip fit ?_
      simp only [inBlockR,thenR]
      refine wpR_loneZ fun wr hs=>?_
      replace E:=E.same hs
      replace hT:=hs.blk hT
      replace hH:=hs.blk hH
      clear hs
      have hjm:(j:Int) < 1000000:=by omega
      gi_wp2
      simp only [thenR]
      refine ⟨b.cs.length - (j + 1),by omega,j + 1,by omega,rfl,E,hT,hH,?_⟩
      (repeat apply Exists.intro)
      rfl
   ·obtain rfl:j = b.cs.length:=by omega
    refine wpR_thenZ fun wr hs=>?_
    replace E:=E.same hs
    replace hT:=hs.blk hT
    replace hH:=hs.blk hH
    clear hs
    have g0:=E.bx.cell 0;have g1:=E.bx.cell 1;have g2:=E.bx.cell 2;have g3:=E.bx.cell 3;simp at g0 g1 g2 g3;have ltB:=E.bx.lt
    gi_wp2
    clear g0 g1 g2 g3 ltB
    refine wpR_cond fit (t:=false) rfl ?_
    simp only [Bool.false_eq_true,if_false]
    refine wpR_exit fit ?_
    simp only [thenR,inBlockR,if_true]
    have hTA:=takes_are hf hn
    refine wpR_seq fit ?_
    refine wpR_thenZ fun wr hs=>?_
    replace E:=E.same hs
    replace hT:=hs.blk hT
    replace hH:=hs.blk hH
    clear hs
    gi_wp2
    simp only [thenR]
    refine wpR_block fit ?_
    refine wpR_loop fit (fun k a w' S' => ∃ c:Nat,c ≤ b.coins.length ∧ k = b.coins.length - c ∧ LawAt w S w.heap.size l b B w' S' ∧ Blk w' BT 3 (nums (tookL b.to n b.cs.length) b.coins.length) ∧ Blk w' BH 3 (nums (heldL b.to n b.cs.length) b.coins.length) ∧ ∃ u3 u8 u9 u10 u11 u12 u13 u14 u15 u17 u18 u19 u20 u21 u22 u23 u24 u25 u26 u27 u28 u29 u30 u31 u32 u33 u34 u35 u36 u37 u38 u39 u40 u41 u42 u43 u44 u45 u46 u47 u48 u49 u50 u51 u52 u53 u54 u55 u56 u57 u58 u59 u60 u61 u62 u63 u64 u65 u66 u67 u68 u69 u70 u71 u72 u73 u74 u75 u76 u77 u78 u79 u80 u81 u82 u83 u84 u85 u86 u87 u88 u89 u90 u91 u92 u93 u94 u95 u96 u97 u98 u99 u100 u101 u102 u103 u104 u105 u106 u107 u108 u109 u110 u111 u112 u113 u114 u115 u116 u117 u118 u119 u120 u121 u122 u123 u124 u125 u126 u127 u128 u129 u130 u131 u132 u133 u134 u135 u136 u137 u138 u139 u140 u141 u142 u143 u144 u145 u146 u147 u148:Value,a = ⟨#[.agg (l.rarr b),.int .u16 day,.pointer (some ⟨B,0,none⟩),u3,.bool false,.int .i64 n,.slice (some ⟨BT,0,none⟩) b.coins.length b.coins.length,.slice (some ⟨BH,0,none⟩) b.coins.length b.coins.length,u8,u9,u10,u11,u12,u13,u14,u15,.int .i64 c,u17,u18,u19,u20,u21,u22,u23,u24,u25,u26,u27,u28,u29,u30,u31,u32,u33,u34,u35,u36,u37,u38,u39,u40,u41,u42,u43,u44,u45,u46,u47,u48,u49,u50,u51,u52,u53,u54,u55,u56,u57,u58,u59,u60,u61,u62,u63,u64,u65,u66,u67,u68,u69,u70,u71,u72,u73,u74,u75,u76,u77,u78,u79,u80,u81,u82,u83,u84,u85,u86,u87,u88,u89,u90,u91,u92,u93,u94,u95,u96,u97,u98,u99,u100,u101,u102,u103,u104,u105,u106,u107,u108,u109,u110,u111,u112,u113,u114,u115,u116,u117,u118,u119,u120,u121,u122,u123,u124,u125,u126,u127,u128,u129,u130,u131,u132,u133,u134,u135,u136,u137,u138,u139,u140,u141,u142,u143,u144,u145,u146,u147,u148],[]⟩) b.coins.length ?start2 ?_
    case start2 => refine ⟨0,Nat.zero_le _,rfl,E,hT,hH,?_⟩;(repeat apply Exists.intro);rfl
    clear E hT hH
    rintro k a w1 S1 ⟨c,hc,rfl,E,hT,hH,h⟩
    obtain ⟨u3,h⟩:=h;obtain ⟨u8,h⟩:=h;obtain ⟨u9,h⟩:=h;obtain ⟨u10,h⟩:=h;obtain ⟨u11,h⟩:=h;obtain ⟨u12,h⟩:=h;obtain ⟨u13,h⟩:=h;obtain ⟨u14,h⟩:=h;obtain ⟨u15,h⟩:=h;obtain ⟨u17,h⟩:=h;obtain ⟨u18,h⟩:=h;obtain ⟨u19,h⟩:=h;obtain ⟨u20,h⟩:=h;obtain ⟨u21,h⟩:=h;obtain ⟨u22,h⟩:=h;obtain ⟨u23,h⟩:=h;obtain ⟨u24,h⟩:=h;obtain ⟨u25,h⟩:=h;obtain ⟨u26,h⟩:=h;obtain ⟨u27,h⟩:=h;obtain ⟨u28,h⟩:=h;obtain ⟨u29,h⟩:=h;obtain ⟨u30,h⟩:=h;obtain ⟨u31,h⟩:=h;obtain ⟨u32,h⟩:=h;obtain ⟨u33,h⟩:=h;obtain ⟨u34,h⟩:=h;obtain ⟨u35,h⟩:=h;obtain ⟨u36,h⟩:=h;obtain ⟨u37,h⟩:=h;obtain ⟨u38,h⟩:=h;obtain ⟨u39,h⟩:=h;obtain ⟨u40,h⟩:=h;obtain ⟨u41,h⟩:=h;obtain ⟨u42,h⟩:=h;obtain ⟨u43,h⟩:=h;obtain ⟨u44,h⟩:=h;obtain ⟨u45,h⟩:=h;obtain ⟨u46,h⟩:=h;obtain ⟨u47,h⟩:=h;obtain ⟨u48,h⟩:=h;obtain ⟨u49,h⟩:=h;obtain ⟨u50,h⟩:=h;obtain ⟨u51,h⟩:=h;obtain ⟨u52,h⟩:=h;obtain ⟨u53,h⟩:=h;obtain ⟨u54,h⟩:=h;obtain ⟨u55,h⟩:=h;obtain ⟨u56,h⟩:=h;obtain ⟨u57,h⟩:=h;obtain ⟨u58,h⟩:=h;obtain ⟨u59,h⟩:=h;obtain ⟨u60,h⟩:=h;obtain ⟨u61,h⟩:=h;obtain ⟨u62,h⟩:=h;obtain ⟨u63,h⟩:=h;obtain ⟨u64,h⟩:=h;obtain ⟨u65,h⟩:=h;obtain ⟨u66,h⟩:=h;obtain ⟨u67,h⟩:=h;obtain ⟨u68,h⟩:=h;obtain ⟨u69,h⟩:=h;obtain ⟨u70,h⟩:=h;obtain ⟨u71,h⟩:=h;obtain ⟨u72,h⟩:=h;obtain ⟨u73,h⟩:=h;obtain ⟨u74,h⟩:=h;obtain ⟨u75,h⟩:=h;obtain ⟨u76,h⟩:=h;obtain ⟨u77,h⟩:=h;obtain ⟨u78,h⟩:=h;obtain ⟨u79,h⟩:=h;obtain ⟨u80,h⟩:=h;obtain ⟨u81,h⟩:=h;obtain ⟨u82,h⟩:=h;obtain ⟨u83,h⟩:=h;obtain ⟨u84,h⟩:=h;obtain ⟨u85,h⟩:=h;obtain ⟨u86,h⟩:=h;obtain ⟨u87,h⟩:=h;obtain ⟨u88,h⟩:=h;obtain ⟨u89,h⟩:=h;obtain ⟨u90,h⟩:=h;obtain ⟨u91,h⟩:=h;obtain ⟨u92,h⟩:=h;obtain ⟨u93,h⟩:=h;obtain ⟨u94,h⟩:=h;obtain ⟨u95,h⟩:=h;obtain ⟨u96,h⟩:=h;obtain ⟨u97,h⟩:=h;obtain ⟨u98,h⟩:=h;obtain ⟨u99,h⟩:=h;obtain ⟨u100,h⟩:=h;obtain ⟨u101,h⟩:=h;obtain ⟨u102,h⟩:=h;obtain ⟨u103,h⟩:=h;obtain ⟨u104,h⟩:=h;obtain ⟨u105,h⟩:=h;obtain ⟨u106,h⟩:=h;obtain ⟨u107,h⟩:=h;obtain ⟨u108,h⟩:=h;obtain ⟨u109,h⟩:=h;obtain ⟨u110,h⟩:=h;obtain ⟨u111,h⟩:=h;obtain ⟨u112,h⟩:=h;obtain ⟨u113,h⟩:=h;obtain ⟨u114,h⟩:=h;obtain ⟨u115,h⟩:=h;obtain ⟨u116,h⟩:=h;obtain ⟨u117,h⟩:=h;obtain ⟨u118,h⟩:=h;obtain ⟨u119,h⟩:=h;obtain ⟨u120,h⟩:=h;obtain ⟨u121,h⟩:=h;obtain ⟨u122,h⟩:=h;obtain ⟨u123,h⟩:=h;obtain ⟨u124,h⟩:=h;obtain ⟨u125,h⟩:=h;obtain ⟨u126,h⟩:=h;obtain ⟨u127,h⟩:=h;obtain ⟨u128,h⟩:=h;obtain ⟨u129,h⟩:=h;obtain ⟨u130,h⟩:=h;obtain ⟨u131,h⟩:=h;obtain ⟨u132,h⟩:=h;obtain ⟨u133,h⟩:=h;obtain ⟨u134,h⟩:=h;obtain ⟨u135,h⟩:=h;obtain ⟨u136,h⟩:=h;obtain ⟨u137,h⟩:=h;obtain ⟨u138,h⟩:=h;obtain ⟨u139,h⟩:=h;obtain ⟨u140,h⟩:=h;obtain ⟨u141,h⟩:=h;obtain ⟨u142,h⟩:=h;obtain ⟨u143,h⟩:=h;obtain ⟨u144,h⟩:=h;obtain ⟨u145,h⟩:=h;obtain ⟨u146,h⟩:=h;obtain ⟨u147,h⟩:=h;obtain ⟨u148,h⟩:=h
    subst h
    refine wpR_seq fit ?_
    by_cases hlt:c < b.coins.length
    ·have hltI:decide ((c:Int) < b.coins.length) = true:=decide_eq_true (by omega)
     refine wpR_thenZ fun wr hs=>?_
     replace E:=E.same hs
     replace hT:=hs.blk hT
     replace hH:=hs.blk hH
     clear hs
     have g0:=E.bx.cell 0;have g1:=E.bx.cell 1;have g2:=E.bx.cell 2;have g3:=E.bx.cell 3;simp at g0 g1 g2 g3;have ltB:=E.bx.lt
     gi_wp2
     clear g0 g1 g2 g3 ltB
     refine wpR_cond fit (t:=true) rfl ?_
     simp only [if_true]
     refine wpR_skip fit ?_
     simp only [thenR]
     refine wpR_seq fit ?_
     refine wpR_block fit ?_
     refine wpR_seq fit ?_
     refine wpR_region fit ?_
     simp only [List.size_toArray,List.length_cons,List.length_nil,Nat.reduceAdd,List.range,List.range.loop]
     refine opsR_loneZ rfl rfl fun wr hs=>?_
     replace E:=E.same hs
     replace hT:=hT.grow (hs.g _) hT.lt
     replace hH:=hH.grow (hs.g _) hH.lt
     clear hs
     have g0:=E.bx.cell 0;have g1:=E.bx.cell 1;have g2:=E.bx.cell 2;have g3:=E.bx.cell 3;simp at g0 g1 g2 g3;have ltB:=E.bx.lt
     gi_wp2
     clear g0 g1 g2 g3 ltB
     refine opsR_loneZ rfl rfl fun wr hs=>?_
     replace E:=E.same hs
     replace hT:=hT.grow (hs.g _) hT.lt
     replace hH:=hH.grow (hs.g _) hH.lt
     clear hs
     gi_wp2
     refine opsR_loneZ rfl rfl fun wr hs=>?_
     replace E:=E.same hs
     replace hT:=hT.grow (hs.g _) hT.lt
     replace hH:=hH.grow (hs.g _) hH.lt
     clear hs
     gi_wp2
     refine opsR_callZ rfl rfl rfl Tryz.func26 (by kernel_rfl) body26 (vals:=#[.agg (l.rarr b),.int .i64 c,.int .i64 n]) (by simp [Act.eval]) (by rw [← RBook.to_val];exact Balance_R (E.bk.to hR) hf E.kd (Nat.le_trans hlim E.g.size) hlt (by omega) (by omega)) ?_
     rintro u w5 S5 ⟨rfl,hg5⟩
     replace E:=E.grow hg5
     replace hT:=hT.grow hg5.toGrow hT.lt
     replace hH:=hH.grow hg5.toGrow hH.lt
     clear hg5
     obtain ⟨xA,hA⟩:∃ xA,(b.to.after n).acc c = xA:=⟨_,rfl⟩
     obtain ⟨xP,hP⟩:∃ xP,(b.to.after n).pd c = xP:=⟨_,rfl⟩
     have hHe:=hTA.held c hlt
     have hTo:=hTA.took c hlt
     obtain ⟨xH,hxH⟩:∃ xH,heldL b.to n b.cs.length c = xH:=⟨_,rfl⟩
     obtain ⟨xT,hxT⟩:∃ xT,tookL b.to n b.cs.length c = xT:=⟨_,rfl⟩
     rw [to_cslen,hxH] at hHe
     rw [to_cslen,hxT] at hTo
     rw [hA,hP,hHe,hTo]
     have HV:=Lib.hid (And.intro hxH hxT)
     clear hA hP hHe hTo hxH hxT
     have G:=Grow.refl w5.heap.size w5
     refine opsR_loneZ rfl rfl fun wr1 hs=>?_
     replace G:=hs.pre G
     clear hs
     gi_wp2
     refine opsR_loneZ rfl rfl fun wr2 hs=>?_
     replace G:=hs.pre G
     clear hs
     gi_wp2
     refine opsR_loneZ rfl rfl fun wr3 hs=>?_
     replace G:=hs.pre G
     clear hs
     gi_wp2
     refine opsR_loneZ rfl rfl fun wc hs=>?_
     replace G:=hs.pre G
     clear hs
     gi_wp2
     have hz:Blk (wc.alloc (.cells zero41 41)) wc.heap.size 41 zero41:=Blk.new wc zero41 41
     have lo:=G.size
     replace G:=G.trans ((Grow.of ((Below.refl _ wc).alloc (Nat.le_refl _) (.cells zero41 41))).mono G.size)
     refine opsR_loneZ rfl rfl fun wd hs=>?_
     replace hz:=hs.blk hz
     replace G:=hs.pre G
     clear hs
     generalize wc.heap.size = nB at *
     have z0:=hz.cell 0;have z1:=hz.cell 1;have z2:=hz.cell 2;have z3:=hz.cell 3
     have y0:=hz.frozen 0;have y1:=hz.frozen 1;have y2:=hz.frozen 2;have y3:=hz.frozen 3
     simp [zero41] at z0 z1 z2 z3
     gi_wp2
     have hX:=(((hz.put 0 (.int .i64 xA)).put 1 (.int .i64 xH)).put 2 (.int .i64 xT)).put 3 (.int .i64 xP)
     simp only [zero41,List.setIfInBounds_toArray,List.set_cons_zero,List.set_cons_succ] at hX
     replace G:=G.trans (Grow.of (((((Below.refl _ wd).setCell (p:=⟨nB,0,none⟩) lo (.int .i64 xA)).setCell (p:=⟨nB,1,none⟩) lo (.int .i64 xH)).setCell (p:=⟨nB,2,none⟩) lo (.int .i64 xT)).setCell (p:=⟨nB,3,none⟩) lo (.int .i64 xP)))
     clear z0 z1 z2 z3 y0 y1 y2 y3 hz
     refine opsR_loneZ rfl rfl fun we hs=>?_
     replace hX:=hs.blk hX
     replace G:=hs.pre G
     clear hs
     gi_wp2
     refine opsR_nil fit ?_
     replace E:=E.grow G.s
     replace hT:=hT.grow G hT.lt
     replace hH:=hH.grow G hH.lt
     clear G lo
     simp only [thenR]
     refine wpR_thenZ fun wr hs=>?_
     replace E:=E.same hs
     replace hX:=hs.blk hX
     replace hT:=hs.blk hT
     replace hH:=hs.blk hH
     clear hs
     have x0:=hX.cell 0;have x1:=hX.cell 1;have x2:=hX.cell 2;have x3:=hX.cell 3;simp at x0 x1 x2 x3;have ltX:=hX.lt
     have zT:=hT.cell c;have zH:=hH.cell c
     rw [nums_get hlt,HV.out.2] at zT
     rw [nums_get hlt,HV.out.1] at zH
     have ltT:=hT.lt;have ltH:=hH.lt
     have hcI:(c:Int) < b.coins.length:=by omega
     gi_wp2_with fail
     gi_big_quiet_th (fail)
     gi_wp2
     replace E:=E.below (below_drewN _ nq)
     replace hT:=hT.below (below_drewN _ nq)
     replace hH:=hH.below (below_drewN _ nq)
     clear x0 x1 x2 x3 ltX zT zH ltT ltH hX
     refine wpR_cond fit (t:=false) rfl ?_
     simp only [Bool.false_eq_true,if_false]
     refine wpR_skip fit ?_
     simp only [inBlockR,thenR]
     refine wpR_loneZ fun wr hs=>?_
     replace E:=E.same hs
     replace hT:=hs.blk hT
     replace hH:=hs.blk hH
     clear hs
     gi_wp2
     simp only [thenR]
     refine ⟨b.coins.length - (c + 1),by omega,c + 1,by omega,rfl,E,hT,hH,?_⟩
     (repeat apply Exists.intro)
     rfl
    ·obtain rfl:c = b.coins.length:=by omega
     refine wpR_thenZ fun wr hs=>?_
     replace E:=E.same hs
     replace hT:=hs.blk hT
     replace hH:=hs.blk hH
     clear hs
     have g0:=E.bx.cell 0;have g1:=E.bx.cell 1;have g2:=E.bx.cell 2;have g3:=E.bx.cell 3;simp at g0 g1 g2 g3;have ltB:=E.bx.lt
     gi_wp2
     clear g0 g1 g2 g3 ltB
     refine wpR_cond fit (t:=false) rfl ?_
     simp only [Bool.false_eq_true,if_false]
     refine wpR_exit fit ?_
     simp only [thenR,inBlockR,if_true]
     refine wpR_seq fit (wpR_region fit ?_)
     simp only [List.size_toArray,List.length_cons,List.length_nil,Nat.reduceAdd,List.range,List.range.loop]
     refine opsR_callZ rfl rfl rfl Tryz.func17 (by kernel_rfl) body17 (vals:=#[]) (by simp) (paid_R E.kd (Nat.le_trans hlim E.g.size)) ?_
     rintro u w5 S5 ⟨rfl,hg5⟩
     replace E:=E.grow hg5
     clear hg5
     refine opsR_loneZ rfl rfl fun wr hs=>?_
     replace E:=E.same hs
     clear hs
     gi_wp2
     refine opsR_nil fit ?_
     refine wpR_ret fit ?_
     exact ⟨rfl,.bool true,fun τ d => by rw [results_tmp rfl];rfl,rfl,E.g⟩
end Go.Proofs.YtnkejaohnhpbpaaGreatDoor
