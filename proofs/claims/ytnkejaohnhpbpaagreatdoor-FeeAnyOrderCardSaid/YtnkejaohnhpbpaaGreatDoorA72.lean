/- FeeAnyOrder, beside leavers. PRINTED BY A PROGRAM. -/
import Derived.Test.YtnkejaohnhpbpaaGreatDoorA36
import Derived.Test.YtnkejaohnhpbpaaGreatDoorA71
set_option linter.all false
namespace Go.Proofs.YtnkejaohnhpbpaaGreatDoor
open Go Go.Conc Go.RowKit Lift
set_option maxHeartbeats 16000000 in
set_option maxRecDepth 1000000 in
theorem law9 [Keep] {w:World} {l:Lay} {b:RBook} (hbk:RBkAt w.heap.size l b w) (hcap:b.coins.length ≤ l.cc) (hkd:KindsAt w) (hlim:Keep.lim ≤ w.heap.size) {by_ day:Int} (c0:0 ≤ by_) (c1:by_ ≤ 255) (d0:0 ≤ day) (d1:day ≤ 65535) :
  Raw Tryz.prog (AtLeave Tryz.prog 9 Tryz.f9 fun v w1 S1 => v = .bool true ∧ GrowS w.heap.size w (fun _ => False) w1 S1) (G (Frame.enter Tryz.prog 9 #[.agg (l.rarr b),.int .u8 by_,.int .u16 day] .normal) []) w (fun _ => False):=by
 refine raw_of_wpR fit (by simp) Tryz.func9 rfl ?_
 generalize (fun _ => False:Blks) = S
 simp only [Tryz.ntmps9,List.size_toArray,List.length_cons,List.length_nil,Nat.reduceAdd,Nat.reduceSub,Array.replicate_succ,Array.replicate_zero,List.push_toArray,List.append_toArray,List.nil_append,List.cons_append]
 refine wpR_thenZ fun wa hs => ?_
 gi_wp2
 have E:LawAt w S w.heap.size l b wa.heap.size (wa.alloc (.cells (l.rarr b) 27)) S:=by
  have hsz:wa.heap.size = w.heap.size:=by rw [hs.heap]
  have hg:Grow w.heap.size w (wa.alloc (.cells (l.rarr b) 27)):=hs.grow ((Below.refl w.heap.size wa).alloc (by omega) _)
  exact ⟨hg.s,hbk.grow hg,Blk.new _ _ _,by omega,hkd.grow hg hkd.lt⟩
 have h0:=hkd.lt
 clear hs hbk hkd
 generalize wa.alloc _ = W at *
 generalize wa.heap.size = B at *
 by_cases hz:b.ps.length = 0
 ·have hzb:((b.ps.length:Int) == 0) = true:=by simp [hz]
  clear hz
  refine wpR_seq fit ?_
  refine wpR_lawZ E fun wb E => ?_
  have g0:=E.bx.cell 0;have g1:=E.bx.cell 1;have g2:=E.bx.cell 2;have g3:=E.bx.cell 3;simp at g0 g1 g2 g3;have ltB:=E.bx.lt
  have hcall:=Fit_in E.bk hcap
  gi_wp2_with (gi_at_call 35;with_reducible refine hcall.mono ?_;rintro e w2 ⟨⟨r,rfl,hr⟩,hb2⟩;replace E:=E.below hb2;clear g0 g1 g2 g3 ltB hb2;have g0:=E.bx.cell 0;have g1:=E.bx.cell 1;have g2:=E.bx.cell 2;have g3:=E.bx.cell 3;simp at g0 g1 g2 g3;have ltB:=E.bx.lt;rcases r with _ | _)
  all_goals
   refine wpR_cond fit (t:=true) rfl ?_
   simp only [if_true]
   refine wpR_seq fit (wpR_region fit ?_)
   simp only [List.size_toArray,List.length_cons,List.length_nil,Nat.reduceAdd,List.range,List.range.loop]
   refine opsR_callZ rfl rfl rfl Tryz.func17 (by kernel_rfl) body17 (vals:=#[]) (by simp) (paid_R E.kd (Nat.le_trans hlim E.g.size)) ?_
   rintro u w5 S5 ⟨rfl,hg5⟩
   replace E:=E.grow hg5
   clear hg5
   refine opsR_loneZ rfl rfl fun wr hs => ?_
   replace E:=E.same hs
   clear hs
   gi_wp2
   refine opsR_nil fit ?_
   refine wpR_ret fit ?_
   exact ⟨rfl,.bool true,fun τ d => by rw [results_tmp rfl];rfl,rfl,E.g⟩
 ·have hzb:((b.ps.length:Int) == 0) = false:=by simp [hz]
  have HP:=Lib.hid hz
  clear hz
  refine wpR_seq fit ?_
  refine wpR_lawZ E fun wb E => ?_
  have g0:=E.bx.cell 0;have g1:=E.bx.cell 1;have g2:=E.bx.cell 2;have g3:=E.bx.cell 3;simp at g0 g1 g2 g3;have ltB:=E.bx.lt
  have hcall:=Fit_in E.bk hcap
  gi_wp2_with (gi_at_call 35;with_reducible refine hcall.mono ?_;rintro e w2 ⟨⟨r,rfl,hr⟩,hb2⟩;replace E:=E.below hb2;clear g0 g1 g2 g3 ltB hb2;have g0:=E.bx.cell 0;have g1:=E.bx.cell 1;have g2:=E.bx.cell 2;have g3:=E.bx.cell 3;simp at g0 g1 g2 g3;have ltB:=E.bx.lt;rcases r with _ | _)
  ·refine wpR_cond fit (t:=true) rfl ?_
   simp only [if_true]
   refine wpR_seq fit (wpR_region fit ?_)
   simp only [List.size_toArray,List.length_cons,List.length_nil,Nat.reduceAdd,List.range,List.range.loop]
   refine opsR_callZ rfl rfl rfl Tryz.func17 (by kernel_rfl) body17 (vals:=#[]) (by simp) (paid_R E.kd (Nat.le_trans hlim E.g.size)) ?_
   rintro u w5 S5 ⟨rfl,hg5⟩
   replace E:=E.grow hg5
   clear hg5
   refine opsR_loneZ rfl rfl fun wr hs => ?_
   replace E:=E.same hs
   clear hs
   gi_wp2
   refine opsR_nil fit ?_
   refine wpR_ret fit ?_
   exact ⟨rfl,.bool true,fun τ d => by rw [results_tmp rfl];rfl,rfl,E.g⟩
  ·have hR:b.Right:=hr (by trivial)
   have hf:=hR.full
   refine wpR_cond fit (t:=false) rfl ?_
   simp only [Bool.false_eq_true,if_false]
   refine wpR_skip fit ?_
   clear g0 g1 g2 g3 ltB
   clear hr hzb
   refine wpR_lawZ E fun wr E => ?_
   gi_wp2
   simp only [thenR]
   refine wpR_seq fit ?_
   refine wpR_lawZ E fun wr E => ?_
   obtain ⟨N0,hN0⟩:∃ N0,wr.heap.size = N0:=⟨_,rfl⟩
   have bB:B < N0:=by rw [← hN0];exact E.bx.lt
   have b0:w.heap.size ≤ N0:=by rw [← hN0];exact E.g.size
   have hNw:N0 ≤ wr.heap.size:=by omega
   gi_wp2
   clear hN0
   simp only [thenR]
   refine wpR_block fit ?_
   refine wpR_loop fit (fun k a w' S' => ∃ j:Nat,j ≤ b.ps.length ∧ k = b.ps.length - j ∧ LawAt w S w.heap.size l b B w' S' ∧ N0 ≤ w'.heap.size ∧ ∃ vi vo:Value,Two N0 w' vi vo (b.ins j) (b.outs j) ∧ ∃ u4 u5 u10 u11 u12 u13 u14 u15 u16 u17 u18 u19 u20 u21 u22 u23 u24 u25 u26 u27 u28 u29 u30 u31 u32 u33 u34 u35 u36 u37 u38 u39 u40 u41 u42 u43 u44 u45 u46 u47 u48 u49 u50 u51 u52 u53 u54 u55 u56 u57 u58 u59 u60 u61 u62 u63 u64 u65 u66 u67 u68 u69 u70 u71 u72 u73 u74 u75 u76 u77 u78 u79 u80 u81 u82 u83 u84 u85 u86 u87 u88 u89 u90 u91 u92 u93 u94 u95 u96 u97 u98 u99 u100:Value,a = ⟨#[.agg (l.rarr b),.int .u8 by_,.int .u16 day,.pointer (some ⟨B,0,none⟩),u4,u5,.bool false,vi,vo,.int .i64 j,u10,u11,u12,u13,u14,u15,u16,u17,u18,u19,u20,u21,u22,u23,u24,u25,u26,u27,u28,u29,u30,u31,u32,u33,u34,u35,u36,u37,u38,u39,u40,u41,u42,u43,u44,u45,u46,u47,u48,u49,u50,u51,u52,u53,u54,u55,u56,u57,u58,u59,u60,u61,u62,u63,u64,u65,u66,u67,u68,u69,u70,u71,u72,u73,u74,u75,u76,u77,u78,u79,u80,u81,u82,u83,u84,u85,u86,u87,u88,u89,u90,u91,u92,u93,u94,u95,u96,u97,u98,u99,u100],[]⟩) b.ps.length ?start ?_
   case start => refine ⟨0,Nat.zero_le _,rfl,E,hNw,_,_,Two.nil _ _,?_⟩;(repeat apply Exists.intro);rfl
   clear E hNw
   rintro k a w1 S1 ⟨j,hj,rfl,E,hNw,vi,vo,T,hfr⟩
   obtain ⟨u4,hfr⟩:=hfr;obtain ⟨u5,hfr⟩:=hfr;obtain ⟨u10,hfr⟩:=hfr;obtain ⟨u11,hfr⟩:=hfr;obtain ⟨u12,hfr⟩:=hfr;obtain ⟨u13,hfr⟩:=hfr;obtain ⟨u14,hfr⟩:=hfr;obtain ⟨u15,hfr⟩:=hfr;obtain ⟨u16,hfr⟩:=hfr;obtain ⟨u17,hfr⟩:=hfr;obtain ⟨u18,hfr⟩:=hfr;obtain ⟨u19,hfr⟩:=hfr;obtain ⟨u20,hfr⟩:=hfr;obtain ⟨u21,hfr⟩:=hfr;obtain ⟨u22,hfr⟩:=hfr;obtain ⟨u23,hfr⟩:=hfr;obtain ⟨u24,hfr⟩:=hfr;obtain ⟨u25,hfr⟩:=hfr;obtain ⟨u26,hfr⟩:=hfr;obtain ⟨u27,hfr⟩:=hfr;obtain ⟨u28,hfr⟩:=hfr;obtain ⟨u29,hfr⟩:=hfr;obtain ⟨u30,hfr⟩:=hfr;obtain ⟨u31,hfr⟩:=hfr;obtain ⟨u32,hfr⟩:=hfr;obtain ⟨u33,hfr⟩:=hfr;obtain ⟨u34,hfr⟩:=hfr;obtain ⟨u35,hfr⟩:=hfr;obtain ⟨u36,hfr⟩:=hfr;obtain ⟨u37,hfr⟩:=hfr;obtain ⟨u38,hfr⟩:=hfr;obtain ⟨u39,hfr⟩:=hfr;obtain ⟨u40,hfr⟩:=hfr;obtain ⟨u41,hfr⟩:=hfr;obtain ⟨u42,hfr⟩:=hfr;obtain ⟨u43,hfr⟩:=hfr;obtain ⟨u44,hfr⟩:=hfr;obtain ⟨u45,hfr⟩:=hfr;obtain ⟨u46,hfr⟩:=hfr;obtain ⟨u47,hfr⟩:=hfr;obtain ⟨u48,hfr⟩:=hfr;obtain ⟨u49,hfr⟩:=hfr;obtain ⟨u50,hfr⟩:=hfr;obtain ⟨u51,hfr⟩:=hfr;obtain ⟨u52,hfr⟩:=hfr;obtain ⟨u53,hfr⟩:=hfr;obtain ⟨u54,hfr⟩:=hfr;obtain ⟨u55,hfr⟩:=hfr;obtain ⟨u56,hfr⟩:=hfr;obtain ⟨u57,hfr⟩:=hfr;obtain ⟨u58,hfr⟩:=hfr;obtain ⟨u59,hfr⟩:=hfr;obtain ⟨u60,hfr⟩:=hfr;obtain ⟨u61,hfr⟩:=hfr;obtain ⟨u62,hfr⟩:=hfr;obtain ⟨u63,hfr⟩:=hfr;obtain ⟨u64,hfr⟩:=hfr;obtain ⟨u65,hfr⟩:=hfr;obtain ⟨u66,hfr⟩:=hfr;obtain ⟨u67,hfr⟩:=hfr;obtain ⟨u68,hfr⟩:=hfr;obtain ⟨u69,hfr⟩:=hfr;obtain ⟨u70,hfr⟩:=hfr;obtain ⟨u71,hfr⟩:=hfr;obtain ⟨u72,hfr⟩:=hfr;obtain ⟨u73,hfr⟩:=hfr;obtain ⟨u74,hfr⟩:=hfr;obtain ⟨u75,hfr⟩:=hfr;obtain ⟨u76,hfr⟩:=hfr;obtain ⟨u77,hfr⟩:=hfr;obtain ⟨u78,hfr⟩:=hfr;obtain ⟨u79,hfr⟩:=hfr;obtain ⟨u80,hfr⟩:=hfr;obtain ⟨u81,hfr⟩:=hfr;obtain ⟨u82,hfr⟩:=hfr;obtain ⟨u83,hfr⟩:=hfr;obtain ⟨u84,hfr⟩:=hfr;obtain ⟨u85,hfr⟩:=hfr;obtain ⟨u86,hfr⟩:=hfr;obtain ⟨u87,hfr⟩:=hfr;obtain ⟨u88,hfr⟩:=hfr;obtain ⟨u89,hfr⟩:=hfr;obtain ⟨u90,hfr⟩:=hfr;obtain ⟨u91,hfr⟩:=hfr;obtain ⟨u92,hfr⟩:=hfr;obtain ⟨u93,hfr⟩:=hfr;obtain ⟨u94,hfr⟩:=hfr;obtain ⟨u95,hfr⟩:=hfr;obtain ⟨u96,hfr⟩:=hfr;obtain ⟨u97,hfr⟩:=hfr;obtain ⟨u98,hfr⟩:=hfr;obtain ⟨u99,hfr⟩:=hfr;obtain ⟨u100,hfr⟩:=hfr
   subst hfr
   refine wpR_seq fit ?_
   have hnp:=hR.np
   by_cases hl:j < b.ps.length
   ·have hlI:decide ((j:Int) < b.ps.length) = true:=decide_eq_true (by omega)
    refine wpR_thenZ fun wr hs => ?_
    replace E:=E.same hs
    replace T:=T.same hs
    replace hNw:N0 ≤ wr.heap.size:=by rw [hs.heap];exact hNw
    clear hs
    have g0:=E.bx.cell 0;have g1:=E.bx.cell 1;have g2:=E.bx.cell 2;have g3:=E.bx.cell 3;simp at g0 g1 g2 g3;have ltB:=E.bx.lt
    gi_wp2
    clear g0 g1 g2 g3 ltB
    refine wpR_cond fit (t:=true) rfl ?_
    simp only [if_true]
    refine wpR_skip fit ?_
    simp only [thenR]
    refine wpR_seq fit ?_
    refine wpR_block fit ?_
    refine wpR_thenZ fun wr hs => ?_
    replace E:=E.same hs
    replace T:=T.same hs
    replace hNw:N0 ≤ wr.heap.size:=by rw [hs.heap];exact hNw
    clear hs
    have g0:=E.bx.cell 0;have g1:=E.bx.cell 1;have g2:=E.bx.cell 2;have g3:=E.bx.cell 3;simp at g0 g1 g2 g3;have ltB:=E.bx.lt
    obtain ⟨pb,po,ep,ltp,e3⟩:=E.bk.ps j (b.payAt j).row (by rw [List.getElem?_map,List.getElem?_eq_getElem hl,payAt_get hl];rfl)
    have hpl:pb < wr.heap.size:=by have:=E.g.size;omega
    simp only [ep]
    have c0:=e3 0 _ rfl
    simp only [Nat.add_zero] at c0
    rw [ep] at g3
    clear e3
    obtain ⟨kd,hkd⟩:∃ kd,(b.payAt j).kind = kd:=⟨_,rfl⟩
    rw [hkd] at c0
    by_cases hk2:kd = 2
    ·have HK:=Lib.hid (hkd.trans hk2)
     clear hkd
     subst hk2
     gi_wp2
     clear g0 g1 g2 g3 ltB
     clear c0 hpl
     refine wpR_cond fit (t:=true) rfl ?_
     simp only [if_true]
     refine wpR_region fit ?_
     simp only [List.size_toArray,List.length_cons,List.length_nil,Nat.reduceAdd,List.range,List.range.loop]
     refine opsR_loneZ rfl rfl fun wr hs => ?_
     replace E:=E.same hs
     replace T:=T.same hs
     replace hNw:N0 ≤ wr.heap.size:=by rw [hs.heap];exact hNw
     clear hs
     gi_wp2
     refine opsR_loneZ rfl rfl fun wr hs => ?_
     replace E:=E.same hs
     replace T:=T.same hs
     replace hNw:N0 ≤ wr.heap.size:=by rw [hs.heap];exact hNw
     clear hs
     gi_wp2
     refine opsR_loneZ rfl rfl fun wr hs => ?_
     replace E:=E.same hs
     replace T:=T.same hs
     replace hNw:N0 ≤ wr.heap.size:=by rw [hs.heap];exact hNw
     clear hs
     have g0:=E.bx.cell 0;have g1:=E.bx.cell 1;have g2:=E.bx.cell 2;have g3:=E.bx.cell 3;simp at g0 g1 g2 g3;have ltB:=E.bx.lt
     rw [ep] at g3
     gi_wp2
     clear g0 g1 g2 g3 ltB
     refine opsR_loneZ rfl rfl fun wr hs => ?_
     replace E:=E.same hs
     replace T:=T.same hs
     replace hNw:N0 ≤ wr.heap.size:=by rw [hs.heap];exact hNw
     clear hs
     gi_wp2
     refine opsR_loneZ rfl rfl fun wr hs => ?_
     replace E:=E.same hs
     replace T:=T.same hs
     replace hNw:N0 ≤ wr.heap.size:=by rw [hs.heap];exact hNw
     clear hs
     gi_wp2
     refine opsR_loneZ rfl rfl fun wr hs => ?_
     replace E:=E.same hs
     replace T:=T.same hs
     replace hNw:N0 ≤ wr.heap.size:=by rw [hs.heap];exact hNw
     clear hs
     obtain ⟨pb',po',ep',ltp',e3⟩:=E.bk.ps j (b.payAt j).row (by rw [List.getElem?_map,List.getElem?_eq_getElem hl,payAt_get hl];rfl)
     rw [ep] at ep'
     cases ep'
     have c0:=e3 0 _ rfl;have c1:=e3 1 _ rfl;have c2:=e3 2 _ rfl;have c3:=e3 3 _ rfl;have c4:=e3 4 _ rfl
     simp only [Nat.add_zero] at c0
     have hpl:pb < wr.heap.size:=by have:=E.g.size;omega
     clear e3
     gi_wp2
     clear c0 c1 c2 c3 c4 hpl
     refine opsR_loneZ rfl rfl fun wr hs => ?_
     replace E:=E.same hs
     replace T:=T.same hs
     replace hNw:N0 ≤ wr.heap.size:=by rw [hs.heap];exact hNw
     clear hs
     refine build1_wp (m:=b.payAt j) rfl rfl ?_
     have hown1:(wr.alloc (.cells (b.payAt j).row.toArray 56)).ownsRow wr.heap.size 56 5 (.slice (some ⟨wr.heap.size,0,none⟩) 1 1) 1 (payCells [b.payAt j]):=by
      have:=World.ownsRow_lit (e:=56) (base:=wr.heap.size) (size:=5) wr (b.payAt j).row.toArray 1 (Nat.le_refl _) (by decide) rfl
      simpa [payCells] using this
     have hP1:=(owns_pays hown1).2
     have hal:Below wr.heap.size wr (wr.alloc (.cells (b.payAt j).row.toArray 56)):=(Below.refl _ wr).alloc (Nat.le_refl _) _
     replace E:=E.below hal
     replace T:=T.below hal
     replace hNw:=Nat.le_trans hNw hal.size
     clear hown1 hal
     generalize wr.alloc _ = W1 at *
     generalize wr.heap.size = nb at *
     refine opsR_loneZ rfl rfl fun wr hs => ?_
     replace E:=E.same hs
     replace T:=T.same hs
     replace hNw:N0 ≤ wr.heap.size:=by rw [hs.heap];exact hNw
     replace hP1:=hP1.gr (hs.g _)
     clear hs
     refine append_pays_at (.tmp 38) (.tmp 44) rfl (ys:=[b.payAt j]) rfl T.o rfl hP1 (by simp only [List.length_cons,List.length_nil];have:=b.ins_outs j hj;omega) hNw fun v' w2 hown hg hat => ?_
     have T2:=(T.swap.push hown hg hat).swap
     have hb2:=owns_bel T.o hg hNw
     replace E:=E.belowN h0 hb2 (by omega) (by omega)
     replace hNw:=Nat.le_trans hNw hb2.size
     clear hP1 hown hg hat hb2 T
     have T:=T2
     clear T2
     refine opsR_loneZ rfl rfl fun wr hs => ?_
     replace E:=E.same hs
     replace T:=T.same hs
     replace hNw:N0 ≤ wr.heap.size:=by rw [hs.heap];exact hNw
     clear hs
     gi_wp2
     refine opsR_nil fit ?_
     have T3:=T
     rw [← (RBook.out_step hl HK.out).1,← (RBook.out_step hl HK.out).2] at T3
     clear T
     simp only [inBlockR,thenR]
     refine wpR_loneZ fun wr hs => ?_
     replace E:=E.same hs
     replace T3:=T3.same hs
     replace hNw:N0 ≤ wr.heap.size:=by rw [hs.heap];exact hNw
     clear hs
     gi_wp2
     simp only [thenR]
     refine ⟨b.ps.length - (j + 1),by omega,j + 1,by omega,rfl,E,hNw,_,_,T3,?_⟩
     (repeat apply Exists.intro)
     rfl
    ·have hk2':(kd == 2) = false:=by simp [hk2]
     have HK:=Lib.hid (show ¬ (b.payAt j).kind = 2 by rw [hkd];exact hk2)
     clear hkd
     gi_wp2
     clear g0 g1 g2 g3 ltB
     clear c0 hpl hk2 hk2'
     refine wpR_cond fit (t:=false) rfl ?_
     simp only [Bool.false_eq_true,if_false]
     refine wpR_region fit ?_
     simp only [List.size_toArray,List.length_cons,List.length_nil,Nat.reduceAdd,List.range,List.range.loop]
     refine opsR_loneZ rfl rfl fun wr hs => ?_
     replace E:=E.same hs
     replace T:=T.same hs
     replace hNw:N0 ≤ wr.heap.size:=by rw [hs.heap];exact hNw
     clear hs
     gi_wp2
     refine opsR_loneZ rfl rfl fun wr hs => ?_
     replace E:=E.same hs
     replace T:=T.same hs
     replace hNw:N0 ≤ wr.heap.size:=by rw [hs.heap];exact hNw
     clear hs
     gi_wp2
     refine opsR_loneZ rfl rfl fun wr hs => ?_
     replace E:=E.same hs
     replace T:=T.same hs
     replace hNw:N0 ≤ wr.heap.size:=by rw [hs.heap];exact hNw
     clear hs
     have g0:=E.bx.cell 0;have g1:=E.bx.cell 1;have g2:=E.bx.cell 2;have g3:=E.bx.cell 3;simp at g0 g1 g2 g3;have ltB:=E.bx.lt
     rw [ep] at g3
     gi_wp2
     clear g0 g1 g2 g3 ltB
     refine opsR_loneZ rfl rfl fun wr hs => ?_
     replace E:=E.same hs
     replace T:=T.same hs
     replace hNw:N0 ≤ wr.heap.size:=by rw [hs.heap];exact hNw
     clear hs
     gi_wp2
     refine opsR_loneZ rfl rfl fun wr hs => ?_
     replace E:=E.same hs
     replace T:=T.same hs
     replace hNw:N0 ≤ wr.heap.size:=by rw [hs.heap];exact hNw
     clear hs
     gi_wp2
     refine opsR_loneZ rfl rfl fun wr hs => ?_
     replace E:=E.same hs
     replace T:=T.same hs
     replace hNw:N0 ≤ wr.heap.size:=by rw [hs.heap];exact hNw
     clear hs
     obtain ⟨pb',po',ep',ltp',e3⟩:=E.bk.ps j (b.payAt j).row (by rw [List.getElem?_map,List.getElem?_eq_getElem hl,payAt_get hl];rfl)
     rw [ep] at ep'
     cases ep'
     have c0:=e3 0 _ rfl;have c1:=e3 1 _ rfl;have c2:=e3 2 _ rfl;have c3:=e3 3 _ rfl;have c4:=e3 4 _ rfl
     simp only [Nat.add_zero] at c0
     have hpl:pb < wr.heap.size:=by have:=E.g.size;omega
     clear e3
     gi_wp2
     clear c0 c1 c2 c3 c4 hpl
     refine opsR_loneZ rfl rfl fun wr hs => ?_
     replace E:=E.same hs
     replace T:=T.same hs
     replace hNw:N0 ≤ wr.heap.size:=by rw [hs.heap];exact hNw
     clear hs
     refine build1_wp (m:=b.payAt j) rfl rfl ?_
     have hown1:(wr.alloc (.cells (b.payAt j).row.toArray 56)).ownsRow wr.heap.size 56 5 (.slice (some ⟨wr.heap.size,0,none⟩) 1 1) 1 (payCells [b.payAt j]):=by
      have:=World.ownsRow_lit (e:=56) (base:=wr.heap.size) (size:=5) wr (b.payAt j).row.toArray 1 (Nat.le_refl _) (by decide) rfl
      simpa [payCells] using this
     have hP1:=(owns_pays hown1).2
     have hal:Below wr.heap.size wr (wr.alloc (.cells (b.payAt j).row.toArray 56)):=(Below.refl _ wr).alloc (Nat.le_refl _) _
     replace E:=E.below hal
     replace T:=T.below hal
     replace hNw:=Nat.le_trans hNw hal.size
     clear hown1 hal
     generalize wr.alloc _ = W1 at *
     generalize wr.heap.size = nb at *
     refine opsR_loneZ rfl rfl fun wr hs => ?_
     replace E:=E.same hs
     replace T:=T.same hs
     replace hNw:N0 ≤ wr.heap.size:=by rw [hs.heap];exact hNw
     replace hP1:=hP1.gr (hs.g _)
     clear hs
     refine append_pays_at (.tmp 46) (.tmp 52) rfl (ys:=[b.payAt j]) rfl T.i rfl hP1 (by simp only [List.length_cons,List.length_nil];have:=b.ins_outs j hj;omega) hNw fun v' w2 hown hg hat => ?_
     have T2:=T.push hown hg hat
     have hb2:=owns_bel T.i hg hNw
     replace E:=E.belowN h0 hb2 (by omega) (by omega)
     replace hNw:=Nat.le_trans hNw hb2.size
     clear hP1 hown hg hat hb2 T
     have T:=T2
     clear T2
     refine opsR_loneZ rfl rfl fun wr hs => ?_
     replace E:=E.same hs
     replace T:=T.same hs
     replace hNw:N0 ≤ wr.heap.size:=by rw [hs.heap];exact hNw
     clear hs
     gi_wp2
     refine opsR_nil fit ?_
     have T3:=T
     rw [← (RBook.in_step hl HK.out).1,← (RBook.in_step hl HK.out).2] at T3
     clear T
     simp only [inBlockR,thenR]
     refine wpR_loneZ fun wr hs => ?_
     replace E:=E.same hs
     replace T3:=T3.same hs
     replace hNw:N0 ≤ wr.heap.size:=by rw [hs.heap];exact hNw
     clear hs
     gi_wp2
     simp only [thenR]
     refine ⟨b.ps.length - (j + 1),by omega,j + 1,by omega,rfl,E,hNw,_,_,T3,?_⟩
     (repeat apply Exists.intro)
     rfl
   ·obtain rfl:j = b.ps.length:=by omega
    refine wpR_thenZ fun wr hs => ?_
    replace E:=E.same hs
    replace T:=T.same hs
    replace hNw:N0 ≤ wr.heap.size:=by rw [hs.heap];exact hNw
    clear hs
    have g0:=E.bx.cell 0;have g1:=E.bx.cell 1;have g2:=E.bx.cell 2;have g3:=E.bx.cell 3;simp at g0 g1 g2 g3;have ltB:=E.bx.lt
    gi_wp2
    clear g0 g1 g2 g3 ltB
    refine wpR_cond fit (t:=false) rfl ?_
    simp only [Bool.false_eq_true,if_false]
    refine wpR_exit fit ?_
    simp only [thenR,inBlockR,if_true]
    refine wpR_seq fit (wpR_mono (Q:=fun e a' w' S' => e = .normal ∧ ∃ (M:Nat) (is:List RPay) (vi vo:Value),(b.ins b.ps.length).Perm is ∧ LawAt w S w.heap.size l b B w' S' ∧ M ≤ w'.heap.size ∧ PaysN M w' vi is ∧ PaysN M w' vo (b.outs b.ps.length) ∧ ∃ u4 u5 u9 u10 u11 u12 u13 u14 u15 u16 u17 u18 u19 u20 u21 u22 u23 u24 u25 u26 u27 u28 u29 u30 u31 u32 u33 u34 u35 u36 u37 u38 u39 u40 u41 u42 u43 u44 u45 u46 u47 u48 u49 u50 u51 u52 u53 u54 u55 u56 u57 u58 u59 u60 u61 u62 u63 u64 u65 u66 u67 u68 u69 u70 u71 u72 u73 u74 u75 u76 u77 u78 u79 u80 u81 u82 u83 u84 u85 u86 u87 u88 u89 u90 u91 u92 u93 u94 u95 u96 u97 u98 u99 u100:Value,a' = ⟨#[.agg (l.rarr b),.int .u8 by_,.int .u16 day,.pointer (some ⟨B,0,none⟩),u4,u5,.bool false,vi,vo,u9,u10,u11,u12,u13,u14,u15,u16,u17,u18,u19,u20,u21,u22,u23,u24,u25,u26,u27,u28,u29,u30,u31,u32,u33,u34,u35,u36,u37,u38,u39,u40,u41,u42,u43,u44,u45,u46,u47,u48,u49,u50,u51,u52,u53,u54,u55,u56,u57,u58,u59,u60,u61,u62,u63,u64,u65,u66,u67,u68,u69,u70,u71,u72,u73,u74,u75,u76,u77,u78,u79,u80,u81,u82,u83,u84,u85,u86,u87,u88,u89,u90,u91,u92,u93,u94,u95,u96,u97,u98,u99,u100],[]⟩) ?turn ?rest)
    case turn =>
     by_cases hi:(b.ins b.ps.length).length = 0
     ·refine wpR_thenZ fun wr hs => ?_
      replace E:=E.same hs
      replace T:=T.same hs
      replace hNw:N0 ≤ wr.heap.size:=by rw [hs.heap];exact hNw
      clear hs
      have hin:vi = .slice none 0 0 ∨ ∃ g c,vi = .slice (some ⟨g,0,none⟩) 0 c:=by
       rcases T.i.2 with ⟨e,_⟩ | ⟨g,cap,cur,e,_⟩
       ·exact .inl e
       ·exact .inr ⟨g,cap,by rw [hi] at e;exact e⟩
      obtain ⟨vb,vc,rfl⟩:∃ vb vc,vi = .slice vb 0 vc:=by rcases hin with e | ⟨g,c,e⟩ <;> exact ⟨_,_,e⟩
      clear hin
      gi_wp2
      refine wpR_cond fit (t:=false) rfl ?_
      simp only [Bool.false_eq_true,if_false]
      refine wpR_skip fit ?_
      refine ⟨rfl,wr.heap.size,b.ins b.ps.length,List.Perm.refl _,E,Nat.le_refl _,_,(owns_pays T.i).2.n,_,(owns_pays T.o).2.n,?_⟩
      (repeat apply Exists.intro)
      rfl
     ·have hi0:(b.ins b.ps.length).length ≠ 0:=hi
      obtain ⟨gi,ci,curi,rfl,lgi,hgi⟩:=owns_some1 T.i hi0
      clear hgi
      have hcap2:(b.ins b.ps.length).length ≤ ci:=by
       rcases T.i.2 with ⟨e,_⟩ | ⟨g,cap,cur,e,_,hh⟩
       ·cases e
       ·cases e;exact hh.2.1
      have hi1:decide ((0:Int) < (b.ins b.ps.length).length) = true:=decide_eq_true (by omega)
      have hi2:decide (0 < (b.ins b.ps.length).length) = true:=decide_eq_true (by omega)
      refine wpR_thenZ fun wr hs => ?_
      replace E:=E.same hs
      replace T:=T.same hs
      replace hNw:N0 ≤ wr.heap.size:=by rw [hs.heap];exact hNw
      clear hs
      gi_wp2
      refine wpR_cond fit (t:=true) rfl ?_
      simp only [if_true]
      have hz':¬ (((b.ins b.ps.length).length:Int) = 0):=by omega
      refine wpR_thenZ fun wr hs => ?_
      replace E:=E.same hs
      replace T:=T.same hs
      replace hNw:N0 ≤ wr.heap.size:=by rw [hs.heap];exact hNw
      clear hs
      gi_wp2
      clear hz'
      obtain ⟨t,et⟩:∃ t:Nat,by_ % ((b.ins b.ps.length).length:Int) = t:=⟨(by_ % ((b.ins b.ps.length).length:Int)).toNat,by have:=Int.emod_nonneg by_ (show ((b.ins b.ps.length).length:Int) ≠ 0 by omega);omega⟩
      have ht:t < (b.ins b.ps.length).length:=by have:=Int.emod_lt_of_pos by_ (show (0:Int) < (b.ins b.ps.length).length by omega);omega
      rw [et]
      clear et
      simp only [thenR]
      refine wpR_loneZ fun w4 hs => ?_
      replace E:=E.same hs
      replace T:=T.same hs
      replace hNw:N0 ≤ w4.heap.size:=by rw [hs.heap];exact hNw
      clear hs
      have hct:¬ (ci = t):=by omega
      refine hideQ fun Q' hQ => ?_
      refine wpIn_region_ghosts rfl mixed (by kernel_rfl) (WT 0 4 8 9 62 66 70 7 w4 (.slice (some ⟨gi,0,none⟩) (b.ins b.ps.length).length ci) ((b.ins b.ps.length).drop t) ((b.ins b.ps.length).take t)) [62,66,70,7] (x₀:=(fun t => if t = 62 then u62 else if t = 66 then u66 else if t = 70 then u70 else .slice (some ⟨gi,0,none⟩) (b.ins b.ps.length).length ci)) (fun g hg => by simp only [List.mem_cons,List.not_mem_nil,or_false] at hg;rcases hg with rfl | rfl | rfl | rfl <;> rfl) (WT.start rfl) ?_
      simp only [List.size_toArray,List.length_cons,List.length_nil,Nat.reduceAdd,List.range,List.range.loop]
      refine detM_mk 62 (by decide) rfl (fun _ => rfl) rfl rfl (fun D x w' hm hW K Q hK => build0_wp rfl (hK _ _ (WT.build ⟨by decide,by decide⟩ hW (hm.2.2 4 (by kernel_rfl)) (hm.2.2 9 (by kernel_rfl))))) ?_
      refine detM_move 7 63 (by decide) (by decide) rfl (fun x => rfl) rfl rfl (by simp) (fun D x w' hm hW => ⟨hW.e0 (hm.2.2 9 (by kernel_rfl)),hW.pure (by decide)⟩) ?_
      simp only [Act.put,List.setIfInBounds_toArray,List.set_cons_zero,List.set_cons_succ]
      refine detM_at (u0:=(fun t => if t = 62 then u62 else if t = 66 then u66 else if t = 70 then u70 else .slice (some ⟨gi,0,none⟩) (b.ins b.ps.length).length ci)) rfl (fun _ => rfl) (by decide) (fun g hg => by simp only [List.mem_cons,List.not_mem_nil,or_false] at hg;rcases hg with rfl | rfl | rfl | rfl <;> rfl) ?_
      apply Exists.intro
      refine ⟨fun D x w' hm hW K Q hK => ?_,?_⟩
      ·skip
       simp only [Lift.Act.setG,List.foldl_cons,List.foldl_nil,List.setIfInBounds_toArray,List.set_cons_zero,List.set_cons_succ]
       gi_wp2
       exact hW.pure (by decide)
      apply Exists.intro
      refine ⟨fun x => rfl,?_⟩
      refine detM_at (u0:=(fun t => if t = 62 then u62 else if t = 66 then u66 else if t = 70 then u70 else .slice (some ⟨gi,0,none⟩) (b.ins b.ps.length).length ci)) rfl (fun _ => rfl) (by decide) (fun g hg => by simp only [List.mem_cons,List.not_mem_nil,or_false] at hg;rcases hg with rfl | rfl | rfl | rfl <;> rfl) ?_
      apply Exists.intro
      refine ⟨fun D x w' hm hW K Q hK => ?_,?_⟩
      ·skip
       simp only [Lift.Act.setG,List.foldl_cons,List.foldl_nil,List.setIfInBounds_toArray,List.set_cons_zero,List.set_cons_succ]
       gi_wp2
       exact hW.pure (by decide)
      apply Exists.intro
      refine ⟨fun x => rfl,?_⟩
      refine detM_mk 66 (by decide) rfl (fun _ => rfl) rfl rfl (fun D x w' hm hW K Q hK => ?_) ?_
      ·have d9:=hm.2.2 9 (by kernel_rfl)
       have d0:=hm.2.1 0 (by kernel_rfl)
       have hb:=hW.bel
       have hp:=((owns_pays T.i).2.below hb).drop (c':=ci - t) (Nat.le_of_lt ht)
       rw [Nat.zero_add] at hp
       exact append_pays (.tmp 62) (.tmp 65) rfl (xs:=[]) rfl (hW.o1 d0 hm.1) rfl hp (by rw [List.length_drop];have:=b.ins_outs b.ps.length (Nat.le_refl _);omega) hb.size fun v w'' hown hg => hK v w'' (WT.app1 ⟨by decide,by decide⟩ hW d0 hm.1 d9 (by simpa using hown) hg)
      refine detM_move 7 67 (by decide) (by decide) rfl (fun x => rfl) rfl rfl (by simp) (fun D x w' hm hW => ⟨hW.e0 (hm.2.2 9 (by kernel_rfl)),hW.pure (by decide)⟩) ?_
      simp only [Act.put,List.setIfInBounds_toArray,List.set_cons_zero,List.set_cons_succ]
      refine detM_at (u0:=(fun t => if t = 62 then u62 else if t = 66 then u66 else if t = 70 then u70 else .slice (some ⟨gi,0,none⟩) (b.ins b.ps.length).length ci)) rfl (fun _ => rfl) (by decide) (fun g hg => by simp only [List.mem_cons,List.not_mem_nil,or_false] at hg;rcases hg with rfl | rfl | rfl | rfl <;> rfl) ?_
      apply Exists.intro
      refine ⟨fun D x w' hm hW K Q hK => ?_,?_⟩
      ·skip
       simp only [Lift.Act.setG,List.foldl_cons,List.foldl_nil,List.setIfInBounds_toArray,List.set_cons_zero,List.set_cons_succ]
       gi_wp2
       exact hW.pure (by decide)
      apply Exists.intro
      refine ⟨fun x => rfl,?_⟩
      refine detM_at (u0:=(fun t => if t = 62 then u62 else if t = 66 then u66 else if t = 70 then u70 else .slice (some ⟨gi,0,none⟩) (b.ins b.ps.length).length ci)) rfl (fun _ => rfl) (by decide) (fun g hg => by simp only [List.mem_cons,List.not_mem_nil,or_false] at hg;rcases hg with rfl | rfl | rfl | rfl <;> rfl) ?_
      apply Exists.intro
      refine ⟨fun D x w' hm hW K Q hK => ?_,?_⟩
      ·skip
       simp only [Lift.Act.setG,List.foldl_cons,List.foldl_nil,List.setIfInBounds_toArray,List.set_cons_zero,List.set_cons_succ]
       gi_wp2
       exact hW.pure (by decide)
      apply Exists.intro
      refine ⟨fun x => rfl,?_⟩
      refine detM_mk 70 (by decide) rfl (fun _ => rfl) rfl rfl (fun D x w' hm hW K Q hK => ?_) ?_
      ·have d9:=hm.2.2 9 (by kernel_rfl)
       have d4:=hm.2.1 4 (by kernel_rfl)
       have hb:=hW.bel
       have hp:=((owns_pays T.i).2.below hb).take (c':=ci) (Nat.le_of_lt ht)
       exact append_pays (.tmp 66) (.tmp 69) rfl (xs:=(b.ins b.ps.length).drop t) rfl (hW.o2 d4 hm.1) rfl hp (by rw [List.length_drop,List.length_take];have:=b.ins_outs b.ps.length (Nat.le_refl _);omega) hb.size fun v w'' hown hg => hK v w'' (WT.app2 ⟨by decide,by decide⟩ hW d4 hm.1 d9 hown hg)
      refine detM_mk 7 (by decide) rfl (fun _ => rfl) rfl rfl (fun D x w' hm hW K Q hK => ?_) ?_
      ·have hk:=WT.assign ⟨by decide,by decide⟩ hW (hm.2.1 4 (by kernel_rfl)) (hm.2.1 8 (by kernel_rfl))
       simp only [Lift.Act.setG,List.foldl_cons,List.foldl_nil,List.setIfInBounds_toArray,List.set_cons_zero,List.set_cons_succ] at hK ⊢
       gi_wp2
       exact hk
      intro x w5 hW
      refine hQ _ _ _ ?_
      clear hQ
      have hown:=hW.o3 (by decide)
      have e7:=(hW.e1 (by decide)).1
      simp only [Lift.Act.setG,List.foldl_cons,List.foldl_nil,List.setIfInBounds_toArray,List.set_cons_zero,List.set_cons_succ]
      simp only [e7]
      refine ⟨by trivial,w5.heap.size,turned t (b.ins b.ps.length),turned_perm t _,E.below hW.bel,Nat.le_refl _,_,(owns_pays hown).2.n,_,((owns_pays T.o).2.below hW.bel).n,?_⟩
      (repeat apply Exists.intro)
      rfl
    case rest =>
     clear T E
     rintro e a w1 S1 ⟨rfl,M,is,vi,vo,hperm,E,hM,hPi,hPo,hfr⟩
     obtain ⟨u4,hfr⟩:=hfr;obtain ⟨u5,hfr⟩:=hfr;obtain ⟨u9,hfr⟩:=hfr;obtain ⟨u10,hfr⟩:=hfr;obtain ⟨u11,hfr⟩:=hfr;obtain ⟨u12,hfr⟩:=hfr;obtain ⟨u13,hfr⟩:=hfr;obtain ⟨u14,hfr⟩:=hfr;obtain ⟨u15,hfr⟩:=hfr;obtain ⟨u16,hfr⟩:=hfr;obtain ⟨u17,hfr⟩:=hfr;obtain ⟨u18,hfr⟩:=hfr;obtain ⟨u19,hfr⟩:=hfr;obtain ⟨u20,hfr⟩:=hfr;obtain ⟨u21,hfr⟩:=hfr;obtain ⟨u22,hfr⟩:=hfr;obtain ⟨u23,hfr⟩:=hfr;obtain ⟨u24,hfr⟩:=hfr;obtain ⟨u25,hfr⟩:=hfr;obtain ⟨u26,hfr⟩:=hfr;obtain ⟨u27,hfr⟩:=hfr;obtain ⟨u28,hfr⟩:=hfr;obtain ⟨u29,hfr⟩:=hfr;obtain ⟨u30,hfr⟩:=hfr;obtain ⟨u31,hfr⟩:=hfr;obtain ⟨u32,hfr⟩:=hfr;obtain ⟨u33,hfr⟩:=hfr;obtain ⟨u34,hfr⟩:=hfr;obtain ⟨u35,hfr⟩:=hfr;obtain ⟨u36,hfr⟩:=hfr;obtain ⟨u37,hfr⟩:=hfr;obtain ⟨u38,hfr⟩:=hfr;obtain ⟨u39,hfr⟩:=hfr;obtain ⟨u40,hfr⟩:=hfr;obtain ⟨u41,hfr⟩:=hfr;obtain ⟨u42,hfr⟩:=hfr;obtain ⟨u43,hfr⟩:=hfr;obtain ⟨u44,hfr⟩:=hfr;obtain ⟨u45,hfr⟩:=hfr;obtain ⟨u46,hfr⟩:=hfr;obtain ⟨u47,hfr⟩:=hfr;obtain ⟨u48,hfr⟩:=hfr;obtain ⟨u49,hfr⟩:=hfr;obtain ⟨u50,hfr⟩:=hfr;obtain ⟨u51,hfr⟩:=hfr;obtain ⟨u52,hfr⟩:=hfr;obtain ⟨u53,hfr⟩:=hfr;obtain ⟨u54,hfr⟩:=hfr;obtain ⟨u55,hfr⟩:=hfr;obtain ⟨u56,hfr⟩:=hfr;obtain ⟨u57,hfr⟩:=hfr;obtain ⟨u58,hfr⟩:=hfr;obtain ⟨u59,hfr⟩:=hfr;obtain ⟨u60,hfr⟩:=hfr;obtain ⟨u61,hfr⟩:=hfr;obtain ⟨u62,hfr⟩:=hfr;obtain ⟨u63,hfr⟩:=hfr;obtain ⟨u64,hfr⟩:=hfr;obtain ⟨u65,hfr⟩:=hfr;obtain ⟨u66,hfr⟩:=hfr;obtain ⟨u67,hfr⟩:=hfr;obtain ⟨u68,hfr⟩:=hfr;obtain ⟨u69,hfr⟩:=hfr;obtain ⟨u70,hfr⟩:=hfr;obtain ⟨u71,hfr⟩:=hfr;obtain ⟨u72,hfr⟩:=hfr;obtain ⟨u73,hfr⟩:=hfr;obtain ⟨u74,hfr⟩:=hfr;obtain ⟨u75,hfr⟩:=hfr;obtain ⟨u76,hfr⟩:=hfr;obtain ⟨u77,hfr⟩:=hfr;obtain ⟨u78,hfr⟩:=hfr;obtain ⟨u79,hfr⟩:=hfr;obtain ⟨u80,hfr⟩:=hfr;obtain ⟨u81,hfr⟩:=hfr;obtain ⟨u82,hfr⟩:=hfr;obtain ⟨u83,hfr⟩:=hfr;obtain ⟨u84,hfr⟩:=hfr;obtain ⟨u85,hfr⟩:=hfr;obtain ⟨u86,hfr⟩:=hfr;obtain ⟨u87,hfr⟩:=hfr;obtain ⟨u88,hfr⟩:=hfr;obtain ⟨u89,hfr⟩:=hfr;obtain ⟨u90,hfr⟩:=hfr;obtain ⟨u91,hfr⟩:=hfr;obtain ⟨u92,hfr⟩:=hfr;obtain ⟨u93,hfr⟩:=hfr;obtain ⟨u94,hfr⟩:=hfr;obtain ⟨u95,hfr⟩:=hfr;obtain ⟨u96,hfr⟩:=hfr;obtain ⟨u97,hfr⟩:=hfr;obtain ⟨u98,hfr⟩:=hfr;obtain ⟨u99,hfr⟩:=hfr;obtain ⟨u100,hfr⟩:=hfr
     subst hfr
     have hlen:is.length + (b.outs b.ps.length).length ≤ 10 ∧ is.length + (b.outs b.ps.length).length = b.ps.length:=by
      have h1:=b.ins_outs b.ps.length (Nat.le_refl _)
      have h2:=hperm.length_eq
      omega
     have HL:=Lib.hid hlen
     clear hlen
     simp only [thenR]
     refine wpR_seq fit (wpR_mono (Q:=fun e a' w' S' => e = .normal ∧ ∃ Bo Bp:Nat,LawAt w S w.heap.size l b B w' S' ∧ M ≤ w'.heap.size ∧ PaysN M w' vi is ∧ PaysN M w' vo (b.outs b.ps.length) ∧ Blk w' Bo 27 (l.rarr b) ∧ Blk w' Bp 27 (l.rarr b) ∧ (Bo ≠ Bp ∧ w.heap.size ≤ Bo ∧ w.heap.size ≤ Bp ∧ B < Bo ∧ B < Bp ∧ M ≤ Bo ∧ M ≤ Bp) ∧ ∃ u4 u5 u9 u10 u13 u14 u15 u16 u17 u18 u19 u20 u21 u22 u23 u24 u25 u26 u27 u28 u29 u30 u31 u32 u33 u34 u35 u36 u37 u38 u39 u40 u41 u42 u43 u44 u45 u46 u47 u48 u49 u50 u51 u52 u53 u54 u55 u56 u57 u58 u59 u60 u61 u62 u63 u64 u65 u66 u67 u68 u69 u70 u71 u72 u73 u74 u75 u76 u77 u78 u79 u80 u81 u82 u83 u84 u85 u86 u87 u88 u89 u90 u91 u92 u93 u94 u95 u96 u97 u98 u99 u100:Value,a' = ⟨#[.agg (l.rarr b),.int .u8 by_,.int .u16 day,.pointer (some ⟨B,0,none⟩),u4,u5,.bool false,vi,vo,u9,u10,.pointer (some ⟨Bo,0,none⟩),.pointer (some ⟨Bp,0,none⟩),u13,u14,u15,u16,u17,u18,u19,u20,u21,u22,u23,u24,u25,u26,u27,u28,u29,u30,u31,u32,u33,u34,u35,u36,u37,u38,u39,u40,u41,u42,u43,u44,u45,u46,u47,u48,u49,u50,u51,u52,u53,u54,u55,u56,u57,u58,u59,u60,u61,u62,u63,u64,u65,u66,u67,u68,u69,u70,u71,u72,u73,u74,u75,u76,u77,u78,u79,u80,u81,u82,u83,u84,u85,u86,u87,u88,u89,u90,u91,u92,u93,u94,u95,u96,u97,u98,u99,u100],[]⟩) ?pre ?post)
     case pre =>
      refine wpR_loneZ fun wr hs => ?_
      replace E:=E.same hs
      replace hM:M ≤ wr.heap.size:=by rw [hs.heap];exact hM
      replace hPi:=hPi.same hs
      replace hPo:=hPo.same hs
      clear hs
      have g0:=E.bx.cell 0;have g1:=E.bx.cell 1;have g2:=E.bx.cell 2;have g3:=E.bx.cell 3;simp at g0 g1 g2 g3;have ltB:=E.bx.lt
      refine hideQ fun Q' hQ => ?_
      gi_region
      all_goals
       refine hQ _ _ _ ?_
       clear hQ
       clear g0 g1 g2 g3 ltB
       have hb:Below wr.heap.size wr ((wr.alloc (.cells (l.rarr b) 27)).alloc (.cells (l.rarr b) 27)).drew:=(((Below.refl _ wr).alloc (Nat.le_refl _) _).alloc (by simp) _).trans ⟨rfl,rfl,rfl,Nat.le_refl _,fun _ _ => rfl⟩
       have h8:Blk ((wr.alloc (.cells (l.rarr b) 27)).alloc (.cells (l.rarr b) 27)).drew wr.heap.size 27 (l.rarr b):=show Blk ((wr.alloc (.cells (l.rarr b) 27)).alloc (.cells (l.rarr b) 27)) wr.heap.size 27 (l.rarr b) from (Blk.new wr _ _).below ((Below.refl _ _).alloc (Nat.le_refl _) _)
       have h9:Blk ((wr.alloc (.cells (l.rarr b) 27)).alloc (.cells (l.rarr b) 27)).drew (wr.heap.size + 1) 27 (l.rarr b):=by
        have:=Blk.new (wr.alloc (.cells (l.rarr b) 27)) (l.rarr b) 27
        rwa [World.size_alloc] at this
       have q1:=E.bx.lt
       have q3:=E.g.size
       have qM:=Nat.le_trans hM hb.size
       first
        | exact ⟨rfl,wr.heap.size,wr.heap.size + 1,E.below hb,qM,hPi.grow (Grow.of hb) hM,hPo.grow (Grow.of hb) hM,h8,h9,by omega,by (repeat apply Exists.intro);with_reducible rfl⟩
        | exact ⟨rfl,wr.heap.size + 1,wr.heap.size,E.below hb,qM,hPi.grow (Grow.of hb) hM,hPo.grow (Grow.of hb) hM,h9,h8,by omega,by (repeat apply Exists.intro);with_reducible rfl⟩
     case post =>
      clear E hM hPi hPo
      rintro e a w1 S1 ⟨rfl,Bo,Bp,E,hM,hPi,hPo,ho,hp,⟨k1,k3,k4,k5,k6,m1,m2⟩,hfr⟩
      obtain ⟨u4,hfr⟩:=hfr;obtain ⟨u5,hfr⟩:=hfr;obtain ⟨u9,hfr⟩:=hfr;obtain ⟨u10,hfr⟩:=hfr;obtain ⟨u13,hfr⟩:=hfr;obtain ⟨u14,hfr⟩:=hfr;obtain ⟨u15,hfr⟩:=hfr;obtain ⟨u16,hfr⟩:=hfr;obtain ⟨u17,hfr⟩:=hfr;obtain ⟨u18,hfr⟩:=hfr;obtain ⟨u19,hfr⟩:=hfr;obtain ⟨u20,hfr⟩:=hfr;obtain ⟨u21,hfr⟩:=hfr;obtain ⟨u22,hfr⟩:=hfr;obtain ⟨u23,hfr⟩:=hfr;obtain ⟨u24,hfr⟩:=hfr;obtain ⟨u25,hfr⟩:=hfr;obtain ⟨u26,hfr⟩:=hfr;obtain ⟨u27,hfr⟩:=hfr;obtain ⟨u28,hfr⟩:=hfr;obtain ⟨u29,hfr⟩:=hfr;obtain ⟨u30,hfr⟩:=hfr;obtain ⟨u31,hfr⟩:=hfr;obtain ⟨u32,hfr⟩:=hfr;obtain ⟨u33,hfr⟩:=hfr;obtain ⟨u34,hfr⟩:=hfr;obtain ⟨u35,hfr⟩:=hfr;obtain ⟨u36,hfr⟩:=hfr;obtain ⟨u37,hfr⟩:=hfr;obtain ⟨u38,hfr⟩:=hfr;obtain ⟨u39,hfr⟩:=hfr;obtain ⟨u40,hfr⟩:=hfr;obtain ⟨u41,hfr⟩:=hfr;obtain ⟨u42,hfr⟩:=hfr;obtain ⟨u43,hfr⟩:=hfr;obtain ⟨u44,hfr⟩:=hfr;obtain ⟨u45,hfr⟩:=hfr;obtain ⟨u46,hfr⟩:=hfr;obtain ⟨u47,hfr⟩:=hfr;obtain ⟨u48,hfr⟩:=hfr;obtain ⟨u49,hfr⟩:=hfr;obtain ⟨u50,hfr⟩:=hfr;obtain ⟨u51,hfr⟩:=hfr;obtain ⟨u52,hfr⟩:=hfr;obtain ⟨u53,hfr⟩:=hfr;obtain ⟨u54,hfr⟩:=hfr;obtain ⟨u55,hfr⟩:=hfr;obtain ⟨u56,hfr⟩:=hfr;obtain ⟨u57,hfr⟩:=hfr;obtain ⟨u58,hfr⟩:=hfr;obtain ⟨u59,hfr⟩:=hfr;obtain ⟨u60,hfr⟩:=hfr;obtain ⟨u61,hfr⟩:=hfr;obtain ⟨u62,hfr⟩:=hfr;obtain ⟨u63,hfr⟩:=hfr;obtain ⟨u64,hfr⟩:=hfr;obtain ⟨u65,hfr⟩:=hfr;obtain ⟨u66,hfr⟩:=hfr;obtain ⟨u67,hfr⟩:=hfr;obtain ⟨u68,hfr⟩:=hfr;obtain ⟨u69,hfr⟩:=hfr;obtain ⟨u70,hfr⟩:=hfr;obtain ⟨u71,hfr⟩:=hfr;obtain ⟨u72,hfr⟩:=hfr;obtain ⟨u73,hfr⟩:=hfr;obtain ⟨u74,hfr⟩:=hfr;obtain ⟨u75,hfr⟩:=hfr;obtain ⟨u76,hfr⟩:=hfr;obtain ⟨u77,hfr⟩:=hfr;obtain ⟨u78,hfr⟩:=hfr;obtain ⟨u79,hfr⟩:=hfr;obtain ⟨u80,hfr⟩:=hfr;obtain ⟨u81,hfr⟩:=hfr;obtain ⟨u82,hfr⟩:=hfr;obtain ⟨u83,hfr⟩:=hfr;obtain ⟨u84,hfr⟩:=hfr;obtain ⟨u85,hfr⟩:=hfr;obtain ⟨u86,hfr⟩:=hfr;obtain ⟨u87,hfr⟩:=hfr;obtain ⟨u88,hfr⟩:=hfr;obtain ⟨u89,hfr⟩:=hfr;obtain ⟨u90,hfr⟩:=hfr;obtain ⟨u91,hfr⟩:=hfr;obtain ⟨u92,hfr⟩:=hfr;obtain ⟨u93,hfr⟩:=hfr;obtain ⟨u94,hfr⟩:=hfr;obtain ⟨u95,hfr⟩:=hfr;obtain ⟨u96,hfr⟩:=hfr;obtain ⟨u97,hfr⟩:=hfr;obtain ⟨u98,hfr⟩:=hfr;obtain ⟨u99,hfr⟩:=hfr;obtain ⟨u100,hfr⟩:=hfr
      subst hfr
      simp only [thenR]
      refine wpR_seq fit (wpR_region fit ?_)
      simp only [List.size_toArray,List.length_cons,List.length_nil,Nat.reduceAdd,List.range,List.range.loop]
      refine opsR_loneZ rfl rfl fun wx hs => ?_
      replace E:=E.same hs
      replace hM:M ≤ wx.heap.size:=by rw [hs.heap];exact hM
      replace hPi:=hPi.same hs
      replace hPo:=hPo.same hs
      replace ho:=hs.blk ho
      replace hp:=hs.blk hp
      clear hs
      have mA:Bp < wx.heap.size:=hp.lt
      refine build0_wp rfl ?_
      have hown0:(wx.alloc (.cells #[] 56)).ownsRow wx.heap.size 56 5 (.slice (some ⟨wx.heap.size,0,none⟩) 0 0) 0 (payCells []):=World.ownsRow_lit wx #[] 0 (Nat.le_refl _) (by decide) rfl
      have HB:Grow wx.heap.size wx (wx.alloc (.cells #[] 56)):=Grow.of ((Below.refl _ wx).alloc (Nat.le_refl _) _)
      generalize wx.alloc _ = W1 at *
      refine opsR_loneZ rfl rfl fun wr hs => ?_
      replace HB:=hs.pre HB
      replace hown0:=owns_same hown0 hs
      clear hs
      gi_wp2
      refine opsR_loneZ rfl rfl fun wr hs => ?_
      replace HB:=hs.pre HB
      replace hown0:=owns_same hown0 hs
      clear hs
      refine append_pays (.tmp 73) (.tmp 74) rfl (xs:=[]) rfl hown0 rfl ((hPi.grow HB hM).at (Nat.le_trans hM HB.size)) (by have:=HL.out;omega) HB.size fun v w2 hown hg => ?_
      replace HB:=HB.trans (Grow.of (owns_bel hown0 hg HB.size))
      rw [Nat.zero_add,List.nil_append] at hown
      clear hg hown0
      have hown0:=hown
      clear hown
      refine opsR_loneZ rfl rfl fun wr hs => ?_
      replace HB:=hs.pre HB
      replace hown0:=owns_same hown0 hs
      clear hs
      gi_wp2
      refine opsR_loneZ rfl rfl fun wr hs => ?_
      replace HB:=hs.pre HB
      replace hown0:=owns_same hown0 hs
      clear hs
      refine append_pays (.tmp 75) (.tmp 76) rfl (xs:=is) rfl hown0 rfl ((hPo.grow HB hM).at (Nat.le_trans hM HB.size)) (by have:=HL.out;omega) HB.size fun v w2 hown hg => ?_
      replace HB:=HB.trans (Grow.of (owns_bel hown0 hg HB.size))
      clear hg hown0
      have hown0:=hown
      clear hown
      obtain ⟨gA,cA,cur,rfl,logp,hcur⟩:=owns_some1 hown0 (by have:=HL.out;have:=HP.out;omega)
      clear hcur
      refine opsR_loneZ rfl rfl fun wr hs => ?_
      replace HB:=hs.pre HB
      replace hown0:=owns_same hown0 hs
      clear hs
      gi_wp2
      refine opsR_loneZ rfl rfl fun wr hs => ?_
      replace HB:=hs.pre HB
      replace hown0:=owns_same hown0 hs
      clear hs
      have z3:=(ho.grow HB ho.lt).cell 3
      have y3:=(ho.grow HB ho.lt).frozen 3
      simp at z3
      gi_wp2
      clear z3 y3
      refine opsR_nil fit ?_
      have hA:=owns_poke (BO:=Bo) (j:=3) (u:=.slice (some ⟨gA,0,none⟩) (is.length + (b.outs b.ps.length).length) cA) hown0 ho.lt
      replace hPi:=(hPi.grow HB hM).poke (BO:=Bo) (j:=3) (u:=.slice (some ⟨gA,0,none⟩) (is.length + (b.outs b.ps.length).length) cA) m1
      replace hPo:=(hPo.grow HB hM).poke (BO:=Bo) (j:=3) (u:=.slice (some ⟨gA,0,none⟩) (is.length + (b.outs b.ps.length).length) cA) m1
      replace E:=E.pokeG (j:=3) (v:=.slice (some ⟨gA,0,none⟩) (is.length + (b.outs b.ps.length).length) cA) h0 HB k3 (by omega)
      replace hp:=(hp.grow HB hp.lt).set (j:=3) (show Bo ≠ Bp by omega) (.slice (some ⟨gA,0,none⟩) (is.length + (b.outs b.ps.length).length) cA)
      replace ho:=(ho.grow HB ho.lt).put 3 (.slice (some ⟨gA,0,none⟩) (is.length + (b.outs b.ps.length).length) cA)
      simp only [Lay.rarr,List.setIfInBounds_toArray,List.set_cons_zero,List.set_cons_succ] at ho
      replace hM:M ≤ (World.setCell wr ⟨Bo,3,none⟩ (.slice (some ⟨gA,0,none⟩) (is.length + (b.outs b.ps.length).length) cA)).heap.size:=by rw [World.size_setCell];exact Nat.le_trans hM HB.size
      clear HB hown0 logp
      generalize World.setCell _ _ _ = W2 at *
      simp only [thenR]
      refine wpR_seq fit (wpR_region fit ?_)
      simp only [List.size_toArray,List.length_cons,List.length_nil,Nat.reduceAdd,List.range,List.range.loop]
      refine opsR_loneZ rfl rfl fun wx hs => ?_
      replace E:=E.same hs
      replace hM:M ≤ wx.heap.size:=by rw [hs.heap];exact hM
      replace hPi:=hPi.same hs
      replace hPo:=hPo.same hs
      replace hp:=hs.blk hp
      replace ho:=hs.blk ho
      replace hA:=owns_same hA hs
      clear hs
      refine build0_wp rfl ?_
      have hown0:(wx.alloc (.cells #[] 56)).ownsRow wx.heap.size 56 5 (.slice (some ⟨wx.heap.size,0,none⟩) 0 0) 0 (payCells []):=World.ownsRow_lit wx #[] 0 (Nat.le_refl _) (by decide) rfl
      have HB:Grow wx.heap.size wx (wx.alloc (.cells #[] 56)):=Grow.of ((Below.refl _ wx).alloc (Nat.le_refl _) _)
      generalize wx.alloc _ = W1 at *
      refine opsR_loneZ rfl rfl fun wr hs => ?_
      replace HB:=hs.pre HB
      replace hown0:=owns_same hown0 hs
      clear hs
      gi_wp2
      refine opsR_loneZ rfl rfl fun wr hs => ?_
      replace HB:=hs.pre HB
      replace hown0:=owns_same hown0 hs
      clear hs
      refine append_pays (.tmp 79) (.tmp 80) rfl (xs:=[]) rfl hown0 rfl ((hPo.grow HB hM).at (Nat.le_trans hM HB.size)) (by have:=HL.out;omega) HB.size fun v w2 hown hg => ?_
      replace HB:=HB.trans (Grow.of (owns_bel hown0 hg HB.size))
      rw [Nat.zero_add,List.nil_append] at hown
      clear hg hown0
      have hown0:=hown
      clear hown
      refine opsR_loneZ rfl rfl fun wr hs => ?_
      replace HB:=hs.pre HB
      replace hown0:=owns_same hown0 hs
      clear hs
      gi_wp2
      refine opsR_loneZ rfl rfl fun wr hs => ?_
      replace HB:=hs.pre HB
      replace hown0:=owns_same hown0 hs
      clear hs
      refine append_pays (.tmp 81) (.tmp 82) rfl (xs:=(b.outs b.ps.length)) rfl hown0 rfl ((hPi.grow HB hM).at (Nat.le_trans hM HB.size)) (by have:=HL.out;omega) HB.size fun v w2 hown hg => ?_
      replace HB:=HB.trans (Grow.of (owns_bel hown0 hg HB.size))
      clear hg hown0
      have hown0:=hown
      clear hown
      obtain ⟨gC,cC,cur,rfl,logp,hcur⟩:=owns_some1 hown0 (by have:=HL.out;have:=HP.out;omega)
      clear hcur
      refine opsR_loneZ rfl rfl fun wr hs => ?_
      replace HB:=hs.pre HB
      replace hown0:=owns_same hown0 hs
      clear hs
      gi_wp2
      refine opsR_loneZ rfl rfl fun wr hs => ?_
      replace HB:=hs.pre HB
      replace hown0:=owns_same hown0 hs
      clear hs
      have z3:=(hp.grow HB hp.lt).cell 3
      have y3:=(hp.grow HB hp.lt).frozen 3
      simp at z3
      gi_wp2
      clear z3 y3
      refine opsR_nil fit ?_
      have hC:=owns_poke (BO:=Bp) (j:=3) (u:=.slice (some ⟨gC,0,none⟩) ((b.outs b.ps.length).length + is.length) cC) hown0 hp.lt
      replace hPi:=(hPi.grow HB hM).poke (BO:=Bp) (j:=3) (u:=.slice (some ⟨gC,0,none⟩) ((b.outs b.ps.length).length + is.length) cC) m2
      replace hPo:=(hPo.grow HB hM).poke (BO:=Bp) (j:=3) (u:=.slice (some ⟨gC,0,none⟩) ((b.outs b.ps.length).length + is.length) cC) m2
      replace E:=E.pokeG (j:=3) (v:=.slice (some ⟨gC,0,none⟩) ((b.outs b.ps.length).length + is.length) cC) h0 HB k4 (by omega)
      replace ho:=(ho.grow HB ho.lt).set (j:=3) (show Bp ≠ Bo by omega) (.slice (some ⟨gC,0,none⟩) ((b.outs b.ps.length).length + is.length) cC)
      replace hA:=owns_poke (BO:=Bp) (j:=3) (u:=.slice (some ⟨gC,0,none⟩) ((b.outs b.ps.length).length + is.length) cC) (owns_gr hA HB) mA
      replace hp:=(hp.grow HB hp.lt).put 3 (.slice (some ⟨gC,0,none⟩) ((b.outs b.ps.length).length + is.length) cC)
      simp only [Lay.rarr,List.setIfInBounds_toArray,List.set_cons_zero,List.set_cons_succ] at hp
      replace hM:M ≤ (World.setCell wr ⟨Bp,3,none⟩ (.slice (some ⟨gC,0,none⟩) ((b.outs b.ps.length).length + is.length) cC)).heap.size:=by rw [World.size_setCell];exact Nat.le_trans hM HB.size
      clear HB hown0 logp
      generalize World.setCell _ _ _ = W2 at *
      simp only [thenR]
      obtain ⟨-,base,cap,hv,hrows⟩:=owns_pays hA
      have hv':base = some ⟨gA,0,none⟩ ∧ cap = cA:=by simp at hv;exact ⟨hv.1.symm,hv.2.symm⟩
      rw [hv'.1] at hrows
      have hBo:=E.bk.with_ (cap:=cA) E.g.size (Nat.le_refl _) hrows
      clear hv hv' hrows base cap
      obtain ⟨-,base,cap,hv,hrows⟩:=owns_pays hC
      have hv':base = some ⟨gC,0,none⟩ ∧ cap = cC:=by simp at hv;exact ⟨hv.1.symm,hv.2.symm⟩
      rw [hv'.1] at hrows
      have hBp:=E.bk.with_ (cap:=cC) E.g.size (Nat.le_refl _) hrows
      clear hv hv' hrows base cap
      clear hA hC hPi hPo
      obtain ⟨n,en⟩:∃ n:Nat,day % 10000 = n:=⟨(day % 10000).toNat,by omega⟩
      have hn:n ≤ 9999:=by omega
      refine wpR_thenZ fun wr hs => ?_
      replace E:=E.same hs
      replace ho:=hs.blk ho
      replace hp:=hs.blk hp
      replace hBo:=hBo.gr (hs.g _)
      replace hBp:=hBp.gr (hs.g _)
      clear hs
      gi_wp2
      rw [en]
      clear en
      simp only [thenR]
      refine wpR_seq fit (wpR_region fit ?_)
      simp only [List.size_toArray,List.length_cons,List.length_nil,Nat.reduceAdd,List.range,List.range.loop]
      refine opsR_loneZ rfl rfl fun wr hs => ?_
      replace E:=E.same hs
      replace ho:=ho.gr (hs.g _)
      replace hp:=hp.gr (hs.g _)
      replace hBo:=hBo.gr (hs.g _)
      replace hBp:=hBp.gr (hs.g _)
      clear hs
      have g0:=E.bx.cell 0;have g1:=E.bx.cell 1;have g2:=E.bx.cell 2;have g3:=E.bx.cell 3;simp at g0 g1 g2 g3;have ltB:=E.bx.lt
      gi_wp2
      clear g0 g1 g2 g3 ltB
      refine opsR_loneZ rfl rfl fun wr hs => ?_
      replace E:=E.same hs
      replace ho:=ho.gr (hs.g _)
      replace hp:=hp.gr (hs.g _)
      replace hBo:=hBo.gr (hs.g _)
      replace hBp:=hBp.gr (hs.g _)
      clear hs
      have o0:=ho.cell 0;have o1:=ho.cell 1;have o2:=ho.cell 2;have o3:=ho.cell 3;simp at o0 o1 o2 o3;have ltO:=ho.lt
      gi_wp2
      clear o0 o1 o2 o3 ltO
      refine opsR_loneZ rfl rfl fun wr hs => ?_
      replace E:=E.same hs
      replace ho:=ho.gr (hs.g _)
      replace hp:=hp.gr (hs.g _)
      replace hBo:=hBo.gr (hs.g _)
      replace hBp:=hBp.gr (hs.g _)
      clear hs
      gi_wp2
      have hsame:=fun S => same_on (S:=S) E.bk hBo hR (first_right hR hperm) E.kd (Nat.le_trans hlim E.g.size) hn (first_same hR hperm n)
      refine opsR_callZ rfl rfl rfl Tryz.func37 (by kernel_rfl) body37 (vals:=#[.agg (l.rarr b),.agg ({ l with pb:=some ⟨gA,0,none⟩,pc:=cA }.rarr { b with ps:=is ++ b.outs b.ps.length }),.int .i64 n]) (by simp [Act.eval]) (R:=fun v w1 S9 => v = .bool true ∧ GrowS wr.heap.size wr S1 w1 S9) (by exact hsame _) ?_
      clear hsame
      rintro u w5 S5 ⟨rfl,hg5⟩
      replace E:=E.grow hg5
      replace hp:=hp.gr hg5.toGrow
      replace hBp:=hBp.gr hg5.toGrow
      clear hg5 ho hBo
      refine opsR_loneZ rfl rfl fun wr hs => ?_
      replace E:=E.same hs
      replace hp:=hp.gr (hs.g _)
      replace hBp:=hBp.gr (hs.g _)
      clear hs
      gi_wp2
      refine opsR_loneZ rfl rfl fun wr hs => ?_
      replace E:=E.same hs
      replace hp:=hp.gr (hs.g _)
      replace hBp:=hBp.gr (hs.g _)
      clear hs
      have g0:=E.bx.cell 0;have g1:=E.bx.cell 1;have g2:=E.bx.cell 2;have g3:=E.bx.cell 3;simp at g0 g1 g2 g3;have ltB:=E.bx.lt
      gi_wp2
      clear g0 g1 g2 g3 ltB
      refine opsR_loneZ rfl rfl fun wr hs => ?_
      replace E:=E.same hs
      replace hp:=hp.gr (hs.g _)
      replace hBp:=hBp.gr (hs.g _)
      clear hs
      have o0:=hp.cell 0;have o1:=hp.cell 1;have o2:=hp.cell 2;have o3:=hp.cell 3;simp at o0 o1 o2 o3;have ltO:=hp.lt
      gi_wp2
      clear o0 o1 o2 o3 ltO
      refine opsR_loneZ rfl rfl fun wr hs => ?_
      replace E:=E.same hs
      replace hp:=hp.gr (hs.g _)
      replace hBp:=hBp.gr (hs.g _)
      clear hs
      gi_wp2
      have hsame:=fun S => same_on (S:=S) E.bk hBp hR (last_right hR hperm) E.kd (Nat.le_trans hlim E.g.size) hn (last_same hR hperm n)
      refine opsR_callZ rfl rfl rfl Tryz.func37 (by kernel_rfl) body37 (vals:=#[.agg (l.rarr b),.agg ({ l with pb:=some ⟨gC,0,none⟩,pc:=cC }.rarr { b with ps:=b.outs b.ps.length ++ is }),.int .i64 n]) (by simp [Act.eval]) (R:=fun v w1 S9 => v = .bool true ∧ GrowS wr.heap.size wr S5 w1 S9) (by exact hsame _) ?_
      clear hsame
      rintro u w5 S5 ⟨rfl,hg5⟩
      replace E:=E.grow hg5
      clear hg5 hp hBp
      refine opsR_loneZ rfl rfl fun wr hs => ?_
      replace E:=E.same hs
      clear hs
      gi_wp2
      refine opsR_loneZ rfl rfl fun wr hs => ?_
      replace E:=E.same hs
      clear hs
      gi_wp2
      refine opsR_callZ rfl rfl rfl Tryz.func17 (by kernel_rfl) body17 (vals:=#[]) (by simp) (paid_R E.kd (Nat.le_trans hlim E.g.size)) ?_
      rintro u w5 S5 ⟨rfl,hg5⟩
      replace E:=E.grow hg5
      clear hg5
      refine opsR_loneZ rfl rfl fun wr hs => ?_
      replace E:=E.same hs
      clear hs
      gi_wp2
      refine opsR_loneZ rfl rfl fun wr hs => ?_
      replace E:=E.same hs
      clear hs
      gi_wp2
      refine opsR_nil fit ?_
      refine wpR_ret fit ?_
      exact ⟨rfl,.bool true,fun τ d => by rw [results_tmp rfl];rfl,rfl,E.g⟩
end Go.Proofs.YtnkejaohnhpbpaaGreatDoor
