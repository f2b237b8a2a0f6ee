/- FeeIdle, beside leavers. PRINTED BY A PROGRAM. -/
import Derived.Test.YtnkejaohnhpbpaaGreatDoorA36
import Derived.Test.YtnkejaohnhpbpaaGreatDoorA65
import Derived.Test.YtnkejaohnhpbpaaGreatDoorA66
set_option linter.all false
namespace Go.Proofs.YtnkejaohnhpbpaaGreatDoor
open Go Go.Conc Go.RowKit Lift
set_option maxHeartbeats 16000000 in
set_option maxRecDepth 1000000 in
theorem law13 [Keep] {w:World} {l:Lay} {b:RBook} (hbk:RBkAt w.heap.size l b w) (hcap:b.coins.length ≤ l.cc) (hkd:KindsAt w) (hlim:Keep.lim ≤ w.heap.size) {day:Int} (d0:0 ≤ day) (d1:day ≤ 65535) :
  Raw Tryz.prog (AtLeave Tryz.prog 13 Tryz.f13 fun v w1 S1 => v = .bool true ∧ GrowS w.heap.size w (fun _ => False) w1 S1) (G (Frame.enter Tryz.prog 13 #[.agg (l.rarr b),.int .u16 day] .normal) []) w (fun _ => False):=by
 refine raw_of_wpR fit (by simp) Tryz.func13 rfl ?_
 generalize (fun _ => False:Blks) = S
 simp only [Tryz.ntmps13,List.size_toArray,List.length_cons,List.length_nil,Nat.reduceAdd,Nat.reduceSub,Array.replicate_succ,Array.replicate_zero,List.push_toArray,List.append_toArray,List.nil_append,List.cons_append]
 refine wpR_thenZ fun wa hs => ?_
 gi_wp2
 have E:LawAt w S w.heap.size l b wa.heap.size (wa.alloc (.cells (l.rarr b) 27)) S:=by
  have hsz:wa.heap.size = w.heap.size:=by rw [hs.heap]
  have hg:Grow w.heap.size w (wa.alloc (.cells (l.rarr b) 27)):=hs.grow ((Below.refl w.heap.size wa).alloc (by omega) _)
  exact ⟨hg.s,hbk.grow hg,Blk.new _ _ _,by omega,hkd.grow hg hkd.lt⟩
 have h0:=hkd.lt
 clear hs hbk hkd
 generalize wa.alloc _ = W at *
 generalize wa.heap.size = B at *
 refine wpR_seq fit ?_
 refine wpR_lawZ E fun wb E => ?_
 have g0:=E.bx.cell 0;have g1:=E.bx.cell 1;have g2:=E.bx.cell 2;have g3:=E.bx.cell 3;simp at g0 g1 g2 g3;have ltB:=E.bx.lt
 have hcall:=Fit_in E.bk hcap
 gi_wp2_with (gi_at_call 35;with_reducible refine hcall.mono ?_;rintro e w2 ⟨⟨r,rfl,hr⟩,hb2⟩;replace E:=E.below hb2;clear g0 g1 g2 g3 ltB hb2;have g0:=E.bx.cell 0;have g1:=E.bx.cell 1;have g2:=E.bx.cell 2;have g3:=E.bx.cell 3;simp at g0 g1 g2 g3;have ltB:=E.bx.lt;rcases r with _ | _)
 ·refine wpR_cond fit (t:=true) rfl ?_
  simp only [if_true]
  refine wpR_seq fit (wpR_region fit ?_)
  simp only [List.size_toArray,List.length_cons,List.length_nil,Nat.reduceAdd,List.range,List.range.loop]
  refine opsR_callZ rfl rfl rfl Tryz.func17 (by kernel_rfl) body17 (vals:=#[]) (by simp) (paid_R E.kd (Nat.le_trans hlim E.g.size)) ?_
  rintro u w5 S5 ⟨rfl,hg5⟩
  replace E:=E.grow hg5
  clear hg5
  refine opsR_loneZ rfl rfl fun wr hs => ?_
  replace E:=E.same hs
  clear hs
  gi_wp2
  refine opsR_nil fit ?_
  refine wpR_ret fit ?_
  exact ⟨rfl,.bool true,fun τ d => by rw [results_tmp rfl];rfl,rfl,E.g⟩
 ·have hR:b.Right:=hr (by trivial)
  have hf:=hR.full
  refine wpR_cond fit (t:=false) rfl ?_
  simp only [Bool.false_eq_true,if_false]
  refine wpR_skip fit ?_
  clear g0 g1 g2 g3 ltB
  clear hr
  have hVA:=voids_are hf.v
  have hVl:(b.to.after 9999).voids.length < 20:=by have h1:=hVA.len;have h2:=hR.np;rw [to_pslen] at h1;omega
  have hVS:=hVA.perm (sortI_perm _)
  have hVO:=sortI_sorted _ hVA.nd
  have hVn:=sortI_length (b.to.after 9999).voids
  refine wpR_lawZ E fun wr E => ?_
  have g0:=E.bx.cell 0;have g1:=E.bx.cell 1;have g2:=E.bx.cell 2;have g3:=E.bx.cell 3;simp at g0 g1 g2 g3;have ltB:=E.bx.lt
  have hcall:=Voids_in (E.bk.to hR) hf E.kd hVl
  rw [RBook.to_val] at hcall
  gi_wp2_with (gi_at_call 28;with_reducible refine hcall.mono ?_;rintro e w4 ⟨vl,rfl,hvl,hb4⟩)
  clear g0 g1 g2 g3 ltB
  replace E:=E.below hb4
  replace hvl:=owns_seq hvl hVn.symm
  clear hcall hb4 hVA
  generalize sortI (b.to.after 9999).voids = V at *
  clear hVl hVn
  simp only [thenR]
  have hVlen:=hVS.len
  rw [to_pslen] at hVlen
  have hL:SeqN w4.heap.size w4 vl V:=hvl
  clear hvl
  have hVV:w.heap.size ≤ w4.heap.size:=E.g.size
  have hBV:B < w4.heap.size:=E.bx.lt
  have hNV:w4.heap.size ≤ w4.heap.size:=Nat.le_refl _
  generalize hNVe:w4.heap.size = NV at hL hVV hBV
  rw [hNVe] at hNV
  replace hNV:NV ≤ w4.heap.size:=by rw [hNVe];exact Nat.le_refl _
  clear hNVe
  refine wpR_seq fit ?_
  refine wpR_thenZ fun wr hs => ?_
  replace E:=E.same hs
  replace hL:=hL.same hs
  replace hNV:NV ≤ wr.heap.size:=by rw [hs.heap];exact hNV
  clear hs
  gi_wp2
  refine wpR_cond fit (t:=false) rfl ?_
  simp only [Bool.false_eq_true,if_false]
  refine wpR_skip fit ?_
  simp only [thenR]
  refine wpR_thenZ fun wr hs => ?_
  replace E:=E.same hs
  replace hL:=hL.same hs
  replace hNV:NV ≤ wr.heap.size:=by rw [hs.heap];exact hNV
  clear hs
  have g0:=E.bx.cell 0;have g1:=E.bx.cell 1;have g2:=E.bx.cell 2;have g3:=E.bx.cell 3;simp at g0 g1 g2 g3;have ltB:=E.bx.lt
  gi_wp2
  clear g0 g1 g2 g3 ltB
  have ha:Below wr.heap.size wr (wr.alloc (.cells (l.rarr b) 27)):=(Below.refl _ wr).alloc (Nat.le_refl _) _
  have h7:=Blk.new wr (l.rarr b) 27
  have k1:B < wr.heap.size:=E.bx.lt
  have k2:w.heap.size ≤ wr.heap.size:=E.g.size
  replace E:=E.below ha
  replace hL:=hL.grow (Grow.of ha) hNV
  have hVB:=hNV
  clear ha hNV
  generalize wr.alloc _ = W at *
  generalize wr.heap.size = B7 at *
  simp only [thenR]
  refine wpR_thenZ fun wr hs => ?_
  replace E:=E.same hs
  replace hL:=hL.same hs
  replace h7:=hs.blk h7
  clear hs
  have z3:=h7.cell 3;have y3:=h7.frozen 3;simp at z3;have lt7:=h7.lt
  gi_wp2
  clear z3 y3
  replace E:=E.pokeG (j:=3) (v:=.slice none 0 0) h0 (Grow.refl _ _) k2 (by omega)
  replace hL:=hL.poke (j:=3) (u:=.slice none 0 0) hVB
  replace h7:=h7.put 3 (.slice none 0 0)
  simp only [Lay.rarr,List.setIfInBounds_toArray,List.set_cons_zero,List.set_cons_succ] at h7
  obtain ⟨N0,hN0⟩:∃ N0,(wr.setCell ⟨B7,3,none⟩ (.slice none 0 0)).heap.size = N0:=⟨_,rfl⟩
  have b7:B7 < N0:=by rw [← hN0,World.size_setCell];exact lt7
  clear lt7
  generalize wr.setCell _ _ = W5 at *
  simp only [thenR]
  refine wpR_seq fit ?_
  refine wpR_thenZ fun wr hs => ?_
  replace E:=E.same hs
  replace h7:=hs.blk h7
  replace hL:=hL.same hs
  have hNw:N0 ≤ wr.heap.size:=by rw [hs.heap];omega
  clear hs hN0
  gi_wp2
  simp only [thenR]
  refine wpR_block fit ?_
  refine wpR_loop fit (fun k a w' S' => ∃ j:Nat,j ≤ b.ps.length ∧ k = b.ps.length - j ∧ LawAt w S w.heap.size l b B w' S' ∧ SeqN NV w' vl V ∧ N0 ≤ w'.heap.size ∧ (∃ v,Blk w' B7 27 #[.slice l.cb b.coins.length l.cc,.slice l.tb b.ts.length l.tc,.slice l.kb b.cs.length l.kc,v] ∧ w'.ownsRow N0 56 5 v (b.without V j).length (payCells (b.without V j))) ∧ ∃ u3 u9 u10 u11 u12 u13 u14 u15 u16 u17 u18 u19 u20 u21 u22 u23 u24 u25 u26 u27 u28 u29 u30 u31 u32 u33 u34 u35 u36 u37 u38 u39 u40 u41 u42 u43 u44 u45 u46 u47 u48 u49 u50 u51 u52 u53 u54 u55 u56 u57 u58 u59 u60 u61 u62 u63 u64 u65 u66 u67 u68 u69 u70 u71 u72 u73 u74 u75 u76 u77 u78 u79 u80 u81 u82 u83 u84 u85 u86 u87 u88 u89 u90 u91 u92 u93 u94 u95 u96 u97 u98 u99 u100 u101 u102 u103 u104 u105 u106 u107 u108 u109 u110 u111 u112 u113 u114 u115 u116:Value,a = ⟨#[.agg (l.rarr b),.int .u16 day,.pointer (some ⟨B,0,none⟩),u3,.bool false,vl,.int .i64 0,.pointer (some ⟨B7,0,none⟩),.int .i64 j,u9,u10,u11,u12,u13,u14,u15,u16,u17,u18,u19,u20,u21,u22,u23,u24,u25,u26,u27,u28,u29,u30,u31,u32,u33,u34,u35,u36,u37,u38,u39,u40,u41,u42,u43,u44,u45,u46,u47,u48,u49,u50,u51,u52,u53,u54,u55,u56,u57,u58,u59,u60,u61,u62,u63,u64,u65,u66,u67,u68,u69,u70,u71,u72,u73,u74,u75,u76,u77,u78,u79,u80,u81,u82,u83,u84,u85,u86,u87,u88,u89,u90,u91,u92,u93,u94,u95,u96,u97,u98,u99,u100,u101,u102,u103,u104,u105,u106,u107,u108,u109,u110,u111,u112,u113,u114,u115,u116],[]⟩) b.ps.length ?start ?_
  case start => refine ⟨0,Nat.zero_le _,rfl,E,hL,hNw,⟨_,h7,World.ownsRow_nil _ _ _ _⟩,?_⟩;(repeat apply Exists.intro);rfl
  clear E hL h7 hNw
  rintro k a w1 S1 ⟨j,hj,rfl,E,hL,hNw,⟨v,h7,hv⟩,hfr⟩
  obtain ⟨u3,hfr⟩:=hfr;obtain ⟨u9,hfr⟩:=hfr;obtain ⟨u10,hfr⟩:=hfr;obtain ⟨u11,hfr⟩:=hfr;obtain ⟨u12,hfr⟩:=hfr;obtain ⟨u13,hfr⟩:=hfr;obtain ⟨u14,hfr⟩:=hfr;obtain ⟨u15,hfr⟩:=hfr;obtain ⟨u16,hfr⟩:=hfr;obtain ⟨u17,hfr⟩:=hfr;obtain ⟨u18,hfr⟩:=hfr;obtain ⟨u19,hfr⟩:=hfr;obtain ⟨u20,hfr⟩:=hfr;obtain ⟨u21,hfr⟩:=hfr;obtain ⟨u22,hfr⟩:=hfr;obtain ⟨u23,hfr⟩:=hfr;obtain ⟨u24,hfr⟩:=hfr;obtain ⟨u25,hfr⟩:=hfr;obtain ⟨u26,hfr⟩:=hfr;obtain ⟨u27,hfr⟩:=hfr;obtain ⟨u28,hfr⟩:=hfr;obtain ⟨u29,hfr⟩:=hfr;obtain ⟨u30,hfr⟩:=hfr;obtain ⟨u31,hfr⟩:=hfr;obtain ⟨u32,hfr⟩:=hfr;obtain ⟨u33,hfr⟩:=hfr;obtain ⟨u34,hfr⟩:=hfr;obtain ⟨u35,hfr⟩:=hfr;obtain ⟨u36,hfr⟩:=hfr;obtain ⟨u37,hfr⟩:=hfr;obtain ⟨u38,hfr⟩:=hfr;obtain ⟨u39,hfr⟩:=hfr;obtain ⟨u40,hfr⟩:=hfr;obtain ⟨u41,hfr⟩:=hfr;obtain ⟨u42,hfr⟩:=hfr;obtain ⟨u43,hfr⟩:=hfr;obtain ⟨u44,hfr⟩:=hfr;obtain ⟨u45,hfr⟩:=hfr;obtain ⟨u46,hfr⟩:=hfr;obtain ⟨u47,hfr⟩:=hfr;obtain ⟨u48,hfr⟩:=hfr;obtain ⟨u49,hfr⟩:=hfr;obtain ⟨u50,hfr⟩:=hfr;obtain ⟨u51,hfr⟩:=hfr;obtain ⟨u52,hfr⟩:=hfr;obtain ⟨u53,hfr⟩:=hfr;obtain ⟨u54,hfr⟩:=hfr;obtain ⟨u55,hfr⟩:=hfr;obtain ⟨u56,hfr⟩:=hfr;obtain ⟨u57,hfr⟩:=hfr;obtain ⟨u58,hfr⟩:=hfr;obtain ⟨u59,hfr⟩:=hfr;obtain ⟨u60,hfr⟩:=hfr;obtain ⟨u61,hfr⟩:=hfr;obtain ⟨u62,hfr⟩:=hfr;obtain ⟨u63,hfr⟩:=hfr;obtain ⟨u64,hfr⟩:=hfr;obtain ⟨u65,hfr⟩:=hfr;obtain ⟨u66,hfr⟩:=hfr;obtain ⟨u67,hfr⟩:=hfr;obtain ⟨u68,hfr⟩:=hfr;obtain ⟨u69,hfr⟩:=hfr;obtain ⟨u70,hfr⟩:=hfr;obtain ⟨u71,hfr⟩:=hfr;obtain ⟨u72,hfr⟩:=hfr;obtain ⟨u73,hfr⟩:=hfr;obtain ⟨u74,hfr⟩:=hfr;obtain ⟨u75,hfr⟩:=hfr;obtain ⟨u76,hfr⟩:=hfr;obtain ⟨u77,hfr⟩:=hfr;obtain ⟨u78,hfr⟩:=hfr;obtain ⟨u79,hfr⟩:=hfr;obtain ⟨u80,hfr⟩:=hfr;obtain ⟨u81,hfr⟩:=hfr;obtain ⟨u82,hfr⟩:=hfr;obtain ⟨u83,hfr⟩:=hfr;obtain ⟨u84,hfr⟩:=hfr;obtain ⟨u85,hfr⟩:=hfr;obtain ⟨u86,hfr⟩:=hfr;obtain ⟨u87,hfr⟩:=hfr;obtain ⟨u88,hfr⟩:=hfr;obtain ⟨u89,hfr⟩:=hfr;obtain ⟨u90,hfr⟩:=hfr;obtain ⟨u91,hfr⟩:=hfr;obtain ⟨u92,hfr⟩:=hfr;obtain ⟨u93,hfr⟩:=hfr;obtain ⟨u94,hfr⟩:=hfr;obtain ⟨u95,hfr⟩:=hfr;obtain ⟨u96,hfr⟩:=hfr;obtain ⟨u97,hfr⟩:=hfr;obtain ⟨u98,hfr⟩:=hfr;obtain ⟨u99,hfr⟩:=hfr;obtain ⟨u100,hfr⟩:=hfr;obtain ⟨u101,hfr⟩:=hfr;obtain ⟨u102,hfr⟩:=hfr;obtain ⟨u103,hfr⟩:=hfr;obtain ⟨u104,hfr⟩:=hfr;obtain ⟨u105,hfr⟩:=hfr;obtain ⟨u106,hfr⟩:=hfr;obtain ⟨u107,hfr⟩:=hfr;obtain ⟨u108,hfr⟩:=hfr;obtain ⟨u109,hfr⟩:=hfr;obtain ⟨u110,hfr⟩:=hfr;obtain ⟨u111,hfr⟩:=hfr;obtain ⟨u112,hfr⟩:=hfr;obtain ⟨u113,hfr⟩:=hfr;obtain ⟨u114,hfr⟩:=hfr;obtain ⟨u115,hfr⟩:=hfr;obtain ⟨u116,hfr⟩:=hfr
  subst hfr
  refine wpR_seq fit ?_
  have hnp:=hR.np
  by_cases hl:j < b.ps.length
  ·have hlI:decide ((j:Int) < b.ps.length) = true:=decide_eq_true (by omega)
   refine wpR_thenZ fun wr hs => ?_
   replace E:=E.same hs
   replace h7:=hs.blk h7
   replace hv:=owns_same hv hs
   replace hL:=hL.same hs
   replace hNw:N0 ≤ wr.heap.size:=by rw [hs.heap];exact hNw
   clear hs
   have g0:=E.bx.cell 0;have g1:=E.bx.cell 1;have g2:=E.bx.cell 2;have g3:=E.bx.cell 3;simp at g0 g1 g2 g3;have ltB:=E.bx.lt
   gi_wp2
   clear g0 g1 g2 g3 ltB
   refine wpR_cond fit (t:=true) rfl ?_
   simp only [if_true]
   refine wpR_skip fit ?_
   simp only [thenR]
   refine wpR_seq fit ?_
   refine wpR_block fit ?_
   by_cases hin:(j:Int) ∈ V
   ·have hdi:decide ((j:Int) ∈ V) = true:=decide_eq_true hin
    refine wpR_thenZ fun wr hs => ?_
    replace E:=E.same hs
    replace h7:=hs.blk h7
    replace hv:=owns_same hv hs
    replace hL:=hL.same hs
    replace hNw:N0 ≤ wr.heap.size:=by rw [hs.heap];exact hNw
    clear hs
    have hcall:=hasInt40_in V vl j wr (hL.at (by omega)) (by omega)
    rw [hdi] at hcall
    gi_wp2_with (gi_at_call 40;with_reducible refine hcall.mono ?_;rintro e w4 ⟨rfl,rfl⟩)
    clear hcall
    refine wpR_cond fit (t:=false) rfl ?_
    simp only [Bool.false_eq_true,if_false]
    refine wpR_skip fit ?_
    have hown5:=hv
    rw [← RBook.without_out hin] at hown5
    have hNw5:=hNw
    clear hv hNw
    simp only [inBlockR,thenR]
    refine wpR_loneZ fun wr hs => ?_
    replace E:=E.same hs
    replace h7:=hs.blk h7
    replace hown5:=owns_same hown5 hs
    replace hL:=hL.same hs
    replace hNw5:N0 ≤ wr.heap.size:=by rw [hs.heap];exact hNw5
    clear hs
    have hjm:(j:Int) < 1000000:=by omega
    gi_wp2
    simp only [thenR]
    refine ⟨b.ps.length - (j + 1),by omega,j + 1,by omega,rfl,E,hL,hNw5,⟨_,h7,hown5⟩,?_⟩
    (repeat apply Exists.intro)
    rfl
   ·have hdi:decide ((j:Int) ∈ V) = false:=decide_eq_false hin
    refine wpR_thenZ fun wr hs => ?_
    replace E:=E.same hs
    replace h7:=hs.blk h7
    replace hv:=owns_same hv hs
    replace hL:=hL.same hs
    replace hNw:N0 ≤ wr.heap.size:=by rw [hs.heap];exact hNw
    clear hs
    have hcall:=hasInt40_in V vl j wr (hL.at (by omega)) (by omega)
    rw [hdi] at hcall
    gi_wp2_with (gi_at_call 40;with_reducible refine hcall.mono ?_;rintro e w4 ⟨rfl,rfl⟩)
    clear hcall
    obtain ⟨pb,po,ep,ltp,e3⟩:=E.bk.ps j (b.payAt j).row (by rw [List.getElem?_map,List.getElem?_eq_getElem hl,payAt_get hl];rfl)
    clear e3
    simp only [ep]
    refine wpR_cond fit (t:=true) rfl ?_
    simp only [if_true]
    refine wpR_loneZ fun w4 hs => ?_
    replace E:=E.same hs
    replace h7:=hs.blk h7
    replace hv:=owns_same hv hs
    replace hL:=hL.same hs
    replace hNw:N0 ≤ w4.heap.size:=by rw [hs.heap];exact hNw
    clear hs
    obtain ⟨pb',po',ep',ltp',e3⟩:=E.bk.ps j (b.payAt j).row (by rw [List.getElem?_map,List.getElem?_eq_getElem hl,payAt_get hl];rfl)
    rw [ep] at ep'
    cases ep'
    have c0:=e3 0 _ rfl;have c1:=e3 1 _ rfl;have c2:=e3 2 _ rfl;have c3:=e3 3 _ rfl;have c4:=e3 4 _ rfl
    simp only [Nat.add_zero] at c0
    refine hideQ fun Q' hQ => ?_
    refine wpIn_region_ghosts rfl mixed (by kernel_rfl) (WA1 N0 7 8 10 42 43 w4 B7 v (b.without V j) (b.payAt j)) [42,43] (x₀:=fun t => if t = 42 then u42 else u43) (fun g hg => by simp only [List.mem_cons,List.not_mem_nil,or_false] at hg;rcases hg with rfl | rfl <;> rfl) (WA1.start hNw hv) ?_
    simp only [List.size_toArray,List.length_cons,List.length_nil,Nat.reduceAdd,List.range,List.range.loop]
    refine detM_at (u0:=fun t => if t = 42 then u42 else u43) rfl (fun _ => rfl) (by decide) (fun g hg => by simp only [List.mem_cons,List.not_mem_nil,or_false] at hg;rcases hg with rfl | rfl <;> rfl) ?_
    apply Exists.intro
    refine ⟨fun D x w' hm hW K Q hK => ?_,?_⟩
    ·have d5:=hm.2.2 10 (by kernel_rfl)
     have hb:=hW.bel d5
     skip
     simp only [Lift.Act.setG,List.foldl_cons,List.foldl_nil,List.setIfInBounds_toArray,List.set_cons_zero,List.set_cons_succ]
     gi_wp2
     exact hW.pure (by decide)
    apply Exists.intro
    refine ⟨fun x => rfl,?_⟩
    refine detM_at (u0:=fun t => if t = 42 then u42 else u43) rfl (fun _ => rfl) (by decide) (fun g hg => by simp only [List.mem_cons,List.not_mem_nil,or_false] at hg;rcases hg with rfl | rfl <;> rfl) ?_
    apply Exists.intro
    refine ⟨fun D x w' hm hW K Q hK => ?_,?_⟩
    ·have d5:=hm.2.2 10 (by kernel_rfl)
     have hb:=hW.bel d5
     have q:Blk w' B7 27 #[.slice l.cb b.coins.length l.cc,.slice l.tb b.ts.length l.tc,.slice l.kb b.cs.length l.kc,v]:=(hb.block B7 b7).trans h7;have z3:=q.cell 3;have y3:=q.frozen 3;simp at z3
     simp only [Lift.Act.setG,List.foldl_cons,List.foldl_nil,List.setIfInBounds_toArray,List.set_cons_zero,List.set_cons_succ]
     gi_wp2
     exact hW.pure (by decide)
    apply Exists.intro
    refine ⟨fun x => rfl,?_⟩
    refine detM_at (u0:=fun t => if t = 42 then u42 else u43) rfl (fun _ => rfl) (by decide) (fun g hg => by simp only [List.mem_cons,List.not_mem_nil,or_false] at hg;rcases hg with rfl | rfl <;> rfl) ?_
    apply Exists.intro
    refine ⟨fun D x w' hm hW K Q hK => ?_,?_⟩
    ·have d5:=hm.2.2 10 (by kernel_rfl)
     have hb:=hW.bel d5
     skip
     simp only [Lift.Act.setG,List.foldl_cons,List.foldl_nil,List.setIfInBounds_toArray,List.set_cons_zero,List.set_cons_succ]
     gi_wp2
     exact hW.pure (by decide)
    apply Exists.intro
    refine ⟨fun x => rfl,?_⟩
    refine detM_at (u0:=fun t => if t = 42 then u42 else u43) rfl (fun _ => rfl) (by decide) (fun g hg => by simp only [List.mem_cons,List.not_mem_nil,or_false] at hg;rcases hg with rfl | rfl <;> rfl) ?_
    apply Exists.intro
    refine ⟨fun D x w' hm hW K Q hK => ?_,?_⟩
    ·have d5:=hm.2.2 10 (by kernel_rfl)
     have hb:=hW.bel d5
     have q:Blk w' B 27 (l.rarr b):=(hb.block B (by omega)).trans E.bx;have q3:=q.cell 3;simp at q3;rw [ep] at q3
     simp only [Lift.Act.setG,List.foldl_cons,List.foldl_nil,List.setIfInBounds_toArray,List.set_cons_zero,List.set_cons_succ]
     gi_wp2
     exact hW.pure (by decide)
    apply Exists.intro
    refine ⟨fun x => rfl,?_⟩
    refine detM_at (u0:=fun t => if t = 42 then u42 else u43) rfl (fun _ => rfl) (by decide) (fun g hg => by simp only [List.mem_cons,List.not_mem_nil,or_false] at hg;rcases hg with rfl | rfl <;> rfl) ?_
    apply Exists.intro
    refine ⟨fun D x w' hm hW K Q hK => ?_,?_⟩
    ·have d5:=hm.2.2 10 (by kernel_rfl)
     have hb:=hW.bel d5
     skip
     simp only [Lift.Act.setG,List.foldl_cons,List.foldl_nil,List.setIfInBounds_toArray,List.set_cons_zero,List.set_cons_succ]
     gi_wp2
     exact hW.pure (by decide)
    apply Exists.intro
    refine ⟨fun x => rfl,?_⟩
    refine detM_at (u0:=fun t => if t = 42 then u42 else u43) rfl (fun _ => rfl) (by decide) (fun g hg => by simp only [List.mem_cons,List.not_mem_nil,or_false] at hg;rcases hg with rfl | rfl <;> rfl) ?_
    apply Exists.intro
    refine ⟨fun D x w' hm hW K Q hK => ?_,?_⟩
    ·have d5:=hm.2.2 10 (by kernel_rfl)
     have hb:=hW.bel d5
     skip
     simp only [Lift.Act.setG,List.foldl_cons,List.foldl_nil,List.setIfInBounds_toArray,List.set_cons_zero,List.set_cons_succ]
     gi_wp2
     exact hW.pure (by decide)
    apply Exists.intro
    refine ⟨fun x => rfl,?_⟩
    refine detM_at (u0:=fun t => if t = 42 then u42 else u43) rfl (fun _ => rfl) (by decide) (fun g hg => by simp only [List.mem_cons,List.not_mem_nil,or_false] at hg;rcases hg with rfl | rfl <;> rfl) ?_
    apply Exists.intro
    refine ⟨fun D x w' hm hW K Q hK => ?_,?_⟩
    ·have d5:=hm.2.2 10 (by kernel_rfl)
     have hb:=hW.bel d5
     have d0:=(hb.cell (p:=⟨pb,po + j * 5,none⟩) (show pb < N0 by omega)).trans c0;have d1:=(hb.cell (p:=⟨pb,po + j * 5 + 1,none⟩) (show pb < N0 by omega)).trans c1;have d2:=(hb.cell (p:=⟨pb,po + j * 5 + 2,none⟩) (show pb < N0 by omega)).trans c2;have d3:=(hb.cell (p:=⟨pb,po + j * 5 + 3,none⟩) (show pb < N0 by omega)).trans c3;have d4:=(hb.cell (p:=⟨pb,po + j * 5 + 4,none⟩) (show pb < N0 by omega)).trans c4
     simp only [Lift.Act.setG,List.foldl_cons,List.foldl_nil,List.setIfInBounds_toArray,List.set_cons_zero,List.set_cons_succ]
     gi_wp2
     exact hW.pure (by decide)
    apply Exists.intro
    refine ⟨fun x => rfl,?_⟩
    refine detM_mk 42 (by decide) rfl (fun _ => rfl) rfl rfl (fun D x w' hm hW K Q hK => build1_wp rfl rfl (hK _ _ (WA1.build hNw ⟨by decide,by decide,by decide,by decide⟩ hW (hm.2.2 8 (by kernel_rfl)) (hm.2.2 10 (by kernel_rfl))))) ?_
    refine detM_mk 43 (by decide) rfl (fun _ => rfl) rfl rfl (fun D x w' hm hW K Q hK => ?_) ?_
    ·have d5:=hm.2.2 10 (by kernel_rfl)
     have hb:=hW.bel d5
     have q1:=hm.2.1 7 (by kernel_rfl)
     obtain ⟨-,hp⟩:=owns_pays (hW.ob d5 q1 hm.1)
     exact append_pays (.tmp 36) (.tmp 42) rfl (ys:=[(b.payAt j)]) rfl (hW.ov d5 hm.1) rfl hp (by simp only [List.length_cons,List.length_nil];have:=b.without_length V j;omega) (Nat.le_trans hNw hb.size) fun v' w'' hown hg => hK v' w'' (WA1.app ⟨by decide,by decide,by decide,by decide⟩ hNw hW hm.1 d5 hown hg)
    refine detM_at (u0:=fun t => if t = 42 then u42 else u43) rfl (fun _ => rfl) (by decide) (fun g hg => by simp only [List.mem_cons,List.not_mem_nil,or_false] at hg;rcases hg with rfl | rfl <;> rfl) ?_
    apply Exists.intro
    refine ⟨fun D x w' hm hW K Q hK => ?_,?_⟩
    ·have d5:=hm.2.2 10 (by kernel_rfl)
     have hb:=hW.bel d5
     skip
     simp only [Lift.Act.setG,List.foldl_cons,List.foldl_nil,List.setIfInBounds_toArray,List.set_cons_zero,List.set_cons_succ]
     gi_wp2
     exact hW.pure (by decide)
    apply Exists.intro
    refine ⟨fun x => rfl,?_⟩
    refine detM_none rfl (fun _ => rfl) rfl (fun D x w' hm hW K Q hK => ?_) ?_
    ·have d5:=hm.1
     have hb:=hW.bel d5
     have q4:=hm.2.1 8 (by kernel_rfl)
     have q:Blk w' B7 27 #[.slice l.cb b.coins.length l.cc,.slice l.tb b.ts.length l.tc,.slice l.kb b.cs.length l.kc,v]:=(hb.block B7 b7).trans h7;have z3:=q.cell 3;have y3:=q.frozen 3;simp at z3
     have hst:=WA1.store ⟨by decide,by decide,by decide,by decide⟩ hW q4 d5
     try simp only at hst
     obtain ⟨gr,cr,hx⟩:=owns_some (hW.oa d5 q4)
     try simp only at hx
     rw [hx] at hst
     simp only [Lift.Act.setG,List.foldl_cons,List.foldl_nil,List.setIfInBounds_toArray,List.set_cons_zero,List.set_cons_succ,hx] at hK ⊢
     gi_wp2
     exact hst
    intro x w5 hW
    refine hQ _ _ _ ?_
    clear hQ
    obtain ⟨w1,hb1,hown,rfl⟩:=hW.fin (by decide)
    have hown5:=owns_poke (BO:=B7) (j:=3) (u:=x 43) hown b7
    rw [← without_len1 hin,← RBook.without_in hin] at hown5
    replace E:=E.pokeB (j:=3) (v:=x 43) (BO:=B7) h0 hb1 (by omega) (by omega) k2 (by omega)
    replace hL:=(hL.grow (Grow.of hb1) (by omega)).poke (j:=3) (u:=x 43) hVB
    replace h7:=(h7.belowN hb1 b7).put 3 (x 43)
    simp only [List.setIfInBounds_toArray,List.set_cons_zero,List.set_cons_succ] at h7
    have hNw5:N0 ≤ (w1.setCell ⟨B7,3,none⟩ (x 43)).heap.size:=by rw [World.size_setCell];exact Nat.le_trans hNw hb1.size
    clear hv hW hown hb1 hNw
    generalize World.setCell w1 _ _ = W6 at *
    simp only [inBlockR,thenR]
    simp only [Lift.Act.setG,List.foldl_cons,List.foldl_nil,List.setIfInBounds_toArray,List.set_cons_zero,List.set_cons_succ]
    generalize x 42 = x42 at *
    generalize x 43 = v' at *
    clear x
    refine wpR_loneZ fun wr hs => ?_
    replace E:=E.same hs
    replace h7:=hs.blk h7
    replace hown5:=owns_same hown5 hs
    replace hL:=hL.same hs
    replace hNw5:N0 ≤ wr.heap.size:=by rw [hs.heap];exact hNw5
    clear hs
    have hjm:(j:Int) < 1000000:=by omega
    gi_wp2
    simp only [thenR]
    refine ⟨b.ps.length - (j + 1),by omega,j + 1,by omega,rfl,E,hL,hNw5,⟨_,h7,hown5⟩,?_⟩
    (repeat apply Exists.intro)
    rfl
  ·obtain rfl:j = b.ps.length:=by omega
   refine wpR_thenZ fun wr hs => ?_
   replace E:=E.same hs
   replace h7:=hs.blk h7
   replace hv:=owns_same hv hs
   replace hL:=hL.same hs
   replace hNw:N0 ≤ wr.heap.size:=by rw [hs.heap];exact hNw
   clear hs
   have g0:=E.bx.cell 0;have g1:=E.bx.cell 1;have g2:=E.bx.cell 2;have g3:=E.bx.cell 3;simp at g0 g1 g2 g3;have ltB:=E.bx.lt
   gi_wp2
   clear g0 g1 g2 g3 ltB
   refine wpR_cond fit (t:=false) rfl ?_
   simp only [Bool.false_eq_true,if_false]
   refine wpR_exit fit ?_
   simp only [thenR,inBlockR,if_true]
   clear hNw
   obtain ⟨-,base,cap,rfl,hrows⟩:=owns_pays hv
   have hBo:=E.bk.with_ (cap:=cap) E.g.size (Nat.le_refl _) hrows
   clear hv hrows
   obtain ⟨hIS,hIV⟩:=idle_of hR hVS
   have hRo:=without_right hR V
   obtain ⟨sb,so,sc,rfl,hcells⟩:=hL
   have hNVw:NV ≤ wr.heap.size:=by have:=h7.lt;omega
   generalize Value.slice l.pb b.ps.length l.pc = x26
   refine wpR_thenZ fun wq hs => ?_
   replace E:=E.same hs
   replace h7:=hs.blk h7
   replace hBo:=hBo.gr (hs.g _)
   replace hcells:SeqN NV wq (.slice sb V.length sc) V:=SeqN.same ⟨sb,so,sc,rfl,hcells⟩ hs
   replace hNVw:NV ≤ wq.heap.size:=by rw [hs.heap];exact hNVw
   clear hs
   gi_wp2
   gi_loopw [9] (fun i wx => Below wq.heap.size wq wx ∧ ∃ m:Nat,m ≤ V.length ∧ i = .int .i64 m) (fun i _ => V.length - (intOf i).toNat)
   case atStart => exact ⟨Below.refl _ _,0,Nat.zero_le _,rfl⟩
   case round =>
    obtain ⟨hb,m,hm,rfl⟩:=hrel
    by_cases hl2:m < V.length
    ·clear h7 hBo hIS hIV
     replace E:=E.below hb
     have hseq:=hcells.grow (Grow.of hb) hNVw
     have hNVr:NV ≤ wr.heap.size:=Nat.le_trans hNVw hb.size
     have HB:=Lib.hid hb
     clear hb hcells
     obtain ⟨sb',so',sc',e0,hcell⟩:=hseq
     obtain ⟨rfl,rfl⟩:sb = sb' ∧ sc = sc':=by simpa using e0
     clear e0
     obtain ⟨SB,rfl,ltS,cM⟩:=hcell m hl2
     obtain ⟨p,hp1,hp2,hp3⟩:=hVS.of V[m] (List.getElem_mem hl2)
     have eM:V.getD m 0 = (p:Int):=by rw [← hp1];simp [hl2]
     rw [eM] at cM
     rw [to_pslen] at hp2
     have hkind:(b.payAt p).kind = 2:=by
      rw [to_payAt hp2] at hp3
      simp only [RPay.to] at hp3;omega
     obtain ⟨pb,po,ep,ltp,e3⟩:=E.bk.ps p (b.payAt p).row (by rw [List.getElem?_map,List.getElem?_eq_getElem hp2,payAt_get hp2];rfl)
     have c0:=e3 0 _ rfl
     rw [hkind] at c0
     simp only [Nat.add_zero] at c0
     have g0:=E.bx.cell 0;have g1:=E.bx.cell 1;have g2:=E.bx.cell 2;have g3:=E.bx.cell 3;simp at g0 g1 g2 g3;have ltB:=E.bx.lt
     rw [ep] at g3
     clear ep
     have ltp':pb < wr.heap.size:=by have:=E.g.size;omega
     have ltS':SB < wr.heap.size:=by omega
     have j1:decide ((p:Int) < 0) = false:=decide_eq_false (by omega)
     have j2:decide ((b.ps.length:Int) ≤ p) = false:=decide_eq_false (by omega)
     have j2n:decide (b.ps.length ≤ p) = false:=decide_eq_false (by omega)
     have j3:(p:Int) < b.ps.length:=by omega
     have j4:(m:Int) < V.length:=by omega
     have HK:=Lib.hid hkind
     have HP1:=Lib.hid hp1
     have HEM:=Lib.hid eM
     clear hkind hp1 hp3 eM e3 ltp
     match m,hm,hl2,cM,hcell,HP1,HEM,j4 with
     | 0,hm,hl2,cM,hcell,HP1,HEM,j4 =>
      simp only [Nat.add_zero] at cM
      clear hcell
      gi_wp2_with fail
      gi_big_quiet_th (fail)
      gi_wp2
      go_roundw
      case rel => exact ⟨HB.out.trans ((below_drewN _ nq).mono HB.out.size),0 + 1,by omega,by go_num⟩
      case measure => simp [intOf];omega
     | k + 1,hm,hl2,cM,hcell,HP1,HEM,j4 =>
      obtain ⟨SB2,eSB,-,cK⟩:=hcell k (by omega)
      obtain rfl:SB = SB2:=by simpa using eSB
      have hlt2:V.getD k 0 < (p:Int):=by
       rw [← HEM.out]
       have:=List.pairwise_iff_getElem.1 hVO k (k + 1) (by omega) hl2 (by omega)
       simpa [hl2,show k < V.length by omega] using this
      obtain ⟨q,hq⟩:∃ q,V.getD k 0 = q:=⟨_,rfl⟩
      rw [hq] at cK hlt2
      have HQ:=Lib.hid hq
      have j5:(k:Int) + 1 - 1 = k:=by omega
      have j6:decide ((p:Int) ≤ q) = false:=decide_eq_false (by omega)
      have j7:decide ((0:Int) < (k:Int) + 1) = true:=decide_eq_true (by omega)
      clear hq hcell eSB
      gi_wp2_with fail
      gi_big_quiet_th (fail)
      gi_wp2
      go_roundw
      case rel => exact ⟨HB.out.trans ((below_drewN _ nq).mono HB.out.size),(k + 1) + 1,by omega,by go_num⟩
      case measure => simp [intOf];omega
    ·obtain rfl:m = V.length:=by omega
     replace E:=E.below hb
     replace h7:=h7.below hb
     replace hBo:=hBo.gr (Grow.of hb)
     clear hb hcells hl2
     gi_wp2
     simp only [inBlockR,thenR]
     refine wpR_thenZ fun wr hs => ?_
     replace E:=E.same hs
     replace h7:=hs.blk h7
     replace hBo:=hBo.gr (hs.g _)
     clear hs
     have o0:=h7.cell 0;have o1:=h7.cell 1;have o2:=h7.cell 2;have o3:=h7.cell 3;simp at o0 o1 o2 o3;have ltO:=h7.lt
     have hcall:=Voids_in (hBo.to hRo) hRo.full E.kd (by rw [hIV];decide)
     rw [RBook.to_val,hIV] at hcall
     simp only [Lay.rarr,List.length_nil] at hcall
     gi_wp2_with (gi_at_call 28;with_reducible refine hcall.mono ?_;rintro e w4 ⟨vk,rfl,hvk,hb4⟩)
     clear hcall
     replace E:=E.below hb4
     replace h7:=h7.below hb4
     replace hBo:=hBo.gr (Grow.of hb4)
     clear o0 o1 o2 o3 ltO
     clear hb4
     obtain ⟨kb,kc,rfl⟩:∃ kb kc,vk = .slice kb 0 kc:=by
      rcases hvk.2 with ⟨rfl,_⟩ | ⟨g,cap,cur,rfl,_⟩
      ·exact ⟨none,0,rfl⟩
      ·exact ⟨_,_,rfl⟩
     clear hvk
     obtain ⟨n,en⟩:∃ n:Nat,day % 10000 = n:=⟨(day % 10000).toNat,by omega⟩
     have hn:n ≤ 9999:=by omega
     simp only [thenR]
     refine wpR_seq fit (wpR_region fit ?_)
     simp only [List.size_toArray,List.length_cons,List.length_nil,Nat.reduceAdd,List.range,List.range.loop]
     refine opsR_loneZ rfl rfl fun wr hs => ?_
     replace E:=E.same hs
     replace h7:=h7.gr (hs.g _)
     replace hBo:=hBo.gr (hs.g _)
     clear hs
     gi_wp2
     refine opsR_loneZ rfl rfl fun wr hs => ?_
     replace E:=E.same hs
     replace h7:=h7.gr (hs.g _)
     replace hBo:=hBo.gr (hs.g _)
     clear hs
     gi_wp2
     refine opsR_loneZ rfl rfl fun wr hs => ?_
     replace E:=E.same hs
     replace h7:=h7.gr (hs.g _)
     replace hBo:=hBo.gr (hs.g _)
     clear hs
     gi_wp2
     refine opsR_loneZ rfl rfl fun wr hs => ?_
     replace E:=E.same hs
     replace h7:=h7.gr (hs.g _)
     replace hBo:=hBo.gr (hs.g _)
     clear hs
     gi_wp2
     refine opsR_loneZ rfl rfl fun wr hs => ?_
     replace E:=E.same hs
     replace h7:=h7.gr (hs.g _)
     replace hBo:=hBo.gr (hs.g _)
     clear hs
     gi_wp2
     refine opsR_loneZ rfl rfl fun wr hs => ?_
     replace E:=E.same hs
     replace h7:=h7.gr (hs.g _)
     replace hBo:=hBo.gr (hs.g _)
     clear hs
     gi_wp2
     refine opsR_loneZ rfl rfl fun wr hs => ?_
     replace E:=E.same hs
     replace h7:=h7.gr (hs.g _)
     replace hBo:=hBo.gr (hs.g _)
     clear hs
     gi_wp2
     refine opsR_loneZ rfl rfl fun wr hs => ?_
     replace E:=E.same hs
     replace h7:=h7.gr (hs.g _)
     replace hBo:=hBo.gr (hs.g _)
     clear hs
     gi_wp2
     refine opsR_loneZ rfl rfl fun wr hs => ?_
     replace E:=E.same hs
     replace h7:=h7.gr (hs.g _)
     replace hBo:=hBo.gr (hs.g _)
     clear hs
     have g0:=E.bx.cell 0;have g1:=E.bx.cell 1;have g2:=E.bx.cell 2;have g3:=E.bx.cell 3;simp at g0 g1 g2 g3;have ltB:=E.bx.lt
     gi_wp2
     clear g0 g1 g2 g3 ltB
     refine opsR_loneZ rfl rfl fun wr hs => ?_
     replace E:=E.same hs
     replace h7:=h7.gr (hs.g _)
     replace hBo:=hBo.gr (hs.g _)
     clear hs
     have o0:=h7.cell 0;have o1:=h7.cell 1;have o2:=h7.cell 2;have o3:=h7.cell 3;simp at o0 o1 o2 o3;have ltO:=h7.lt
     gi_wp2
     clear o0 o1 o2 o3 ltO
     refine opsR_loneZ rfl rfl fun wr hs => ?_
     replace E:=E.same hs
     replace h7:=h7.gr (hs.g _)
     replace hBo:=hBo.gr (hs.g _)
     clear hs
     gi_wp2
     refine opsR_loneZ rfl rfl fun wr hs => ?_
     replace E:=E.same hs
     replace h7:=h7.gr (hs.g _)
     replace hBo:=hBo.gr (hs.g _)
     clear hs
     gi_wp2
     refine opsR_loneZ rfl rfl fun wr hs => ?_
     replace E:=E.same hs
     replace h7:=h7.gr (hs.g _)
     replace hBo:=hBo.gr (hs.g _)
     clear hs
     gi_wp2
     rw [en]
     clear en
     have hsame:=fun S => same_on (S:=S) E.bk hBo hR hRo E.kd (Nat.le_trans hlim E.g.size) hn (hIS n)
     refine opsR_callZ rfl rfl rfl Tryz.func37 (by kernel_rfl) body37 (vals:=#[.agg (l.rarr b),.agg ({ l with pb:=base,pc:=cap }.rarr { b with ps:=b.without V b.ps.length }),.int .i64 n]) (by simp [Act.eval]) (R:=fun v w1 S9 => v = .bool true ∧ GrowS wr.heap.size wr S1 w1 S9) (by exact hsame _) ?_
     clear hsame
     rintro u w5 S5 ⟨rfl,hg5⟩
     replace E:=E.grow hg5
     clear hg5 h7 hBo
     refine opsR_loneZ rfl rfl fun wr hs => ?_
     replace E:=E.same hs
     clear hs
     gi_wp2
     refine opsR_loneZ rfl rfl fun wr hs => ?_
     replace E:=E.same hs
     clear hs
     gi_wp2
     refine opsR_callZ rfl rfl rfl Tryz.func17 (by kernel_rfl) body17 (vals:=#[]) (by simp) (paid_R E.kd (Nat.le_trans hlim E.g.size)) ?_
     rintro u w5 S5 ⟨rfl,hg5⟩
     replace E:=E.grow hg5
     clear hg5
     refine opsR_loneZ rfl rfl fun wr hs => ?_
     replace E:=E.same hs
     clear hs
     gi_wp2
     refine opsR_loneZ rfl rfl fun wr hs => ?_
     replace E:=E.same hs
     clear hs
     gi_wp2
     refine opsR_nil fit ?_
     refine wpR_ret fit ?_
     exact ⟨rfl,.bool true,fun τ d => by rw [results_tmp rfl];rfl,rfl,E.g⟩
end Go.Proofs.YtnkejaohnhpbpaaGreatDoor
