/- same, beside leavers: what stands alike is told alike. PRINTED BY A PROGRAM. -/
import Derived.Test.YtnkejaohnhpbpaaGreatDoorA40
import Derived.Test.YtnkejaohnhpbpaaGreatDoorA51
set_option linter.all false
namespace Go.Proofs.YtnkejaohnhpbpaaGreatDoor
open Go Go.RowKit Lift
theorem st_arr (l:Lay) (b:Book):l.val b = .agg (l.arr b):=rfl
structure SameAt (w0:World) (S0:Blks) (N N2:Nat) (l l2:Lay) (b b2:Book) (B B':Nat) (w:World) (S:Blks):Prop where
 g:GrowS w0.heap.size w0 S0 w S
 bk:BkAt N l b w
 bk2:BkAt N2 l2 b2 w
 bx:Blk w B 27 (l.arr b)
 bx2:Blk w B' 27 (l2.arr b2)
 kd:KindsAt w
section
variable {w0 w w':World} {S0 S S':Blks} {N N2 B B':Nat} {l l2:Lay} {b b2:Book}
theorem SameAt.grow (h:SameAt w0 S0 N N2 l l2 b b2 B B' w S) (hg:GrowS w.heap.size w S w' S'):SameAt w0 S0 N N2 l l2 b b2 B B' w' S':=
 ⟨h.g.trans (hg.mono h.g.size),h.bk.grow hg.toGrow,h.bk2.grow hg.toGrow,h.bx.grow hg.toGrow h.bx.lt,h.bx2.grow hg.toGrow h.bx2.lt,h.kd.grow hg.toGrow h.kd.lt⟩
theorem SameAt.same (h:SameAt w0 S0 N N2 l l2 b b2 B B' w S) (hs:SameW w w'):SameAt w0 S0 N N2 l l2 b b2 B B' w' S:=h.grow (hs.g _).s
theorem SameAt.below (h:SameAt w0 S0 N N2 l l2 b b2 B B' w S) (hb:Below w.heap.size w w'):SameAt w0 S0 N N2 l l2 b b2 B B' w' S:=h.grow (Grow.of hb).s
end
variable [Keep]
set_option maxHeartbeats 16000000 in
set_option maxRecDepth 1000000 in
theorem same_R {N N2:Nat} {l l2:Lay} {b b2:Book} {w:World} {S:Blks} (hbk:BkAt N l b w) (hbk2:BkAt N2 l2 b2 w) (hf:Full b) (hf2:Full b2) (hkd:KindsAt w) (hlim:Keep.lim ≤ w.heap.size) {n:Int} (n0:0 ≤ n) (n1:n ≤ 9999)
  (hcs:b.cs.length = b2.cs.length) (hco:b.coins.length = b2.coins.length) (hst:∀ c,c < b.cs.length → ((b.after n).cases c).state = ((b2.after n).cases c).state ∧ ((b.after n).cases c).held = ((b2.after n).cases c).held)
  (hba:∀ k,k < b.coins.length → (b.after n).acc k = (b2.after n).acc k ∧ b.heldOf (b.after n) k = b2.heldOf (b2.after n) k ∧ (b.after n).tkn k = (b2.after n).tkn k ∧ (b.after n).pd k = (b2.after n).pd k) :
  CallsR Tryz.prog Inside 37 #[l.val b,l2.val b2,.int .i64 n] w S fun v w' S' => v = .bool true ∧ GrowS w.heap.size w S w' S':=by
 have hnk:=hf.v.nk
 have hnc:=hf.v.nc
 have HCS:=Lib.hid hcs
 have HCO:=Lib.hid hco
 have HST:=Lib.hid hst
 have HBA:=Lib.hid hba
 clear hcs hco hst hba
 refine callsR_of_wpR fit (by simp) Tryz.func37 rfl ?_
 unfold Lay.val
 simp only [Tryz.ntmps37,List.size_toArray,List.length_cons,List.length_nil,Nat.reduceAdd,Nat.reduceSub,Array.replicate_succ,Array.replicate_zero,List.push_toArray,List.append_toArray,List.nil_append,List.cons_append]
 refine wpR_thenZ fun wa hs => ?_
 gi_wp2
 have ha1:Below wa.heap.size wa (wa.alloc (.cells (l.arr b) 27)):=(Below.refl _ wa).alloc (Nat.le_refl _) _
 have ha2:Below (wa.alloc (.cells (l.arr b) 27)).heap.size (wa.alloc (.cells (l.arr b) 27)) ((wa.alloc (.cells (l.arr b) 27)).alloc (.cells (l2.arr b2) 27)):=(Below.refl _ _).alloc (Nat.le_refl _) _
 have E:SameAt w S N N2 l l2 b b2 wa.heap.size (wa.heap.size + 1) ((wa.alloc (.cells (l.arr b) 27)).alloc (.cells (l2.arr b2) 27)) S:=by
  have hsz:wa.heap.size = w.heap.size:=by rw [hs.heap]
  have hg:Grow w.heap.size w ((wa.alloc (.cells (l.arr b) 27)).alloc (.cells (l2.arr b2) 27)):=hs.grow ((ha1.trans (ha2.mono ha1.size)).mono (by omega))
  have:=Blk.new (wa.alloc (.cells (l.arr b) 27)) (l2.arr b2) 27
  rw [World.size_alloc] at this
  exact ⟨hg.s,hbk.grow hg,hbk2.grow hg,(Blk.new wa _ _).below ha2,this,hkd.grow hg hkd.lt⟩
 clear hs hbk hbk2 hkd ha1 ha2
 generalize (wa.alloc _).alloc _ = W at *
 obtain ⟨B',hB'⟩:∃ B',wa.heap.size + 1 = B':=⟨_,rfl⟩
 rw [hB'] at E ⊢
 clear hB'
 generalize wa.heap.size = B at *
 simp only [thenR]
 refine wpR_thenZ fun wq hs => ?_
 replace E:=E.same hs
 clear hs
 gi_wp2
 gi_loopw [7] (fun i wr => Below wq.heap.size wq wr ∧ ∃ k:Nat,k ≤ b.cs.length ∧ i = .int .i64 k) (fun i _ => b.cs.length - (intOf i).toNat)
 case atStart => exact ⟨Below.refl _ _,0,Nat.zero_le _,rfl⟩
 case round =>
  obtain ⟨hbW,k,hk,rfl⟩:=hrel
  have E0:=Lib.hid E
  replace E:=E.below hbW
  have g0:=E.bx.cell 0;have g1:=E.bx.cell 1;have g2:=E.bx.cell 2;have g3:=E.bx.cell 3;simp at g0 g1 g2 g3;have ltB:=E.bx.lt
  by_cases hl:k < b.cs.length
  ·have hc1:=State_in E.bk hf E.kd hl n0 n1
   have hc2:=fun w4 (h:Below wr.heap.size wr w4) => State_in (E.below h).bk2 hf2 (E.below h).kd (show k < b2.cs.length by have:=HCS.out;omega) n0 n1
   obtain ⟨q1,q2⟩:=HST.out k hl
   rw [q1,q2] at hc1
   clear q1 q2
   generalize ((b2.after n).cases k).state = st at *
   generalize ((b2.after n).cases k).held = he at *
   unfold Lay.val at hc1 hc2
   gi_wp2_with (first
    | (gi_at_call 22;with_reducible refine hc1.mono ?_;rintro e w4 ⟨rfl,hb4⟩;have r:=(E.below hb4).bx2;have r0:=r.cell 0;have r1:=r.cell 1;have r2:=r.cell 2;have r3:=r.cell 3;simp at r0 r1 r2 r3;have ltR:=r.lt)
    | (gi_at_call 22;with_reducible refine (hc2 _ hb4).mono ?_;rintro e w5 ⟨rfl,hb5⟩))
   go_roundw
   case rel => exact ⟨hbW.trans ((hb4.trans (hb5.mono hb4.size)).mono hbW.size),k + 1,by omega,by go_num⟩
   case measure => simp [intOf];omega
  ·obtain rfl:k = b.cs.length:=by omega
   gi_wp2
   clear g0 g1 g2 g3 ltB
   clear E0
   (try simp only [thenR])
   refine wpR_seq fit ?_
   refine wpR_thenZ fun wz hs => ?_
   replace E:=E.same hs
   clear hs
   gi_wp2
   simp only [thenR]
   refine wpR_block fit ?_
   refine wpR_loop fit (fun k a w' S' => ∃ j:Nat,j ≤ b.coins.length ∧ k = b.coins.length - j ∧ SameAt w S N N2 l l2 b b2 B B' w' S' ∧ ∃ u0 u1 u5 u6 u7 u8 u9 u10 u11 u12 u13 u15 u16 u17 u18 u19 u20 u21 u22 u23 u24 u25 u26 u27 u28 u29 u30 u31 u32 u33 u34 u35 u36 u37 u38 u39 u40 u41 u42 u43 u44 u45 u46 u47 u48 u49 u50 u51 u52 u53 u54 u55 u56 u57 u58 u59 u60 u61 u62 u63 u64 u65 u66 u67 u68 u69 u70 u71 u72 u73 u74 u75 u76 u77 u78 u79 u80 u81 u82 u83 u84 u85 u86 u87 u88 u89:Value,a = ⟨#[u0,u1,.int .i64 n,.pointer (some ⟨B,0,none⟩),.pointer (some ⟨B',0,none⟩),u5,u6,u7,u8,u9,u10,u11,u12,u13,.int .i64 j,u15,u16,u17,u18,u19,u20,u21,u22,u23,u24,u25,u26,u27,u28,u29,u30,u31,u32,u33,u34,u35,u36,u37,u38,u39,u40,u41,u42,u43,u44,u45,u46,u47,u48,u49,u50,u51,u52,u53,u54,u55,u56,u57,u58,u59,u60,u61,u62,u63,u64,u65,u66,u67,u68,u69,u70,u71,u72,u73,u74,u75,u76,u77,u78,u79,u80,u81,u82,u83,u84,u85,u86,u87,u88,u89],[]⟩) b.coins.length ?start ?_
   case start => refine ⟨0,Nat.zero_le _,rfl,E,?_⟩;(repeat apply Exists.intro);rfl
   clear E
   rintro k a w1 S1 ⟨j,hj,rfl,E,hfr⟩
   obtain ⟨u0,hfr⟩:=hfr;obtain ⟨u1,hfr⟩:=hfr;obtain ⟨u5,hfr⟩:=hfr;obtain ⟨u6,hfr⟩:=hfr;obtain ⟨u7,hfr⟩:=hfr;obtain ⟨u8,hfr⟩:=hfr;obtain ⟨u9,hfr⟩:=hfr;obtain ⟨u10,hfr⟩:=hfr;obtain ⟨u11,hfr⟩:=hfr;obtain ⟨u12,hfr⟩:=hfr;obtain ⟨u13,hfr⟩:=hfr;obtain ⟨u15,hfr⟩:=hfr;obtain ⟨u16,hfr⟩:=hfr;obtain ⟨u17,hfr⟩:=hfr;obtain ⟨u18,hfr⟩:=hfr;obtain ⟨u19,hfr⟩:=hfr;obtain ⟨u20,hfr⟩:=hfr;obtain ⟨u21,hfr⟩:=hfr;obtain ⟨u22,hfr⟩:=hfr;obtain ⟨u23,hfr⟩:=hfr;obtain ⟨u24,hfr⟩:=hfr;obtain ⟨u25,hfr⟩:=hfr;obtain ⟨u26,hfr⟩:=hfr;obtain ⟨u27,hfr⟩:=hfr;obtain ⟨u28,hfr⟩:=hfr;obtain ⟨u29,hfr⟩:=hfr;obtain ⟨u30,hfr⟩:=hfr;obtain ⟨u31,hfr⟩:=hfr;obtain ⟨u32,hfr⟩:=hfr;obtain ⟨u33,hfr⟩:=hfr;obtain ⟨u34,hfr⟩:=hfr;obtain ⟨u35,hfr⟩:=hfr;obtain ⟨u36,hfr⟩:=hfr;obtain ⟨u37,hfr⟩:=hfr;obtain ⟨u38,hfr⟩:=hfr;obtain ⟨u39,hfr⟩:=hfr;obtain ⟨u40,hfr⟩:=hfr;obtain ⟨u41,hfr⟩:=hfr;obtain ⟨u42,hfr⟩:=hfr;obtain ⟨u43,hfr⟩:=hfr;obtain ⟨u44,hfr⟩:=hfr;obtain ⟨u45,hfr⟩:=hfr;obtain ⟨u46,hfr⟩:=hfr;obtain ⟨u47,hfr⟩:=hfr;obtain ⟨u48,hfr⟩:=hfr;obtain ⟨u49,hfr⟩:=hfr;obtain ⟨u50,hfr⟩:=hfr;obtain ⟨u51,hfr⟩:=hfr;obtain ⟨u52,hfr⟩:=hfr;obtain ⟨u53,hfr⟩:=hfr;obtain ⟨u54,hfr⟩:=hfr;obtain ⟨u55,hfr⟩:=hfr;obtain ⟨u56,hfr⟩:=hfr;obtain ⟨u57,hfr⟩:=hfr;obtain ⟨u58,hfr⟩:=hfr;obtain ⟨u59,hfr⟩:=hfr;obtain ⟨u60,hfr⟩:=hfr;obtain ⟨u61,hfr⟩:=hfr;obtain ⟨u62,hfr⟩:=hfr;obtain ⟨u63,hfr⟩:=hfr;obtain ⟨u64,hfr⟩:=hfr;obtain ⟨u65,hfr⟩:=hfr;obtain ⟨u66,hfr⟩:=hfr;obtain ⟨u67,hfr⟩:=hfr;obtain ⟨u68,hfr⟩:=hfr;obtain ⟨u69,hfr⟩:=hfr;obtain ⟨u70,hfr⟩:=hfr;obtain ⟨u71,hfr⟩:=hfr;obtain ⟨u72,hfr⟩:=hfr;obtain ⟨u73,hfr⟩:=hfr;obtain ⟨u74,hfr⟩:=hfr;obtain ⟨u75,hfr⟩:=hfr;obtain ⟨u76,hfr⟩:=hfr;obtain ⟨u77,hfr⟩:=hfr;obtain ⟨u78,hfr⟩:=hfr;obtain ⟨u79,hfr⟩:=hfr;obtain ⟨u80,hfr⟩:=hfr;obtain ⟨u81,hfr⟩:=hfr;obtain ⟨u82,hfr⟩:=hfr;obtain ⟨u83,hfr⟩:=hfr;obtain ⟨u84,hfr⟩:=hfr;obtain ⟨u85,hfr⟩:=hfr;obtain ⟨u86,hfr⟩:=hfr;obtain ⟨u87,hfr⟩:=hfr;obtain ⟨u88,hfr⟩:=hfr;obtain ⟨u89,hfr⟩:=hfr
   subst hfr
   refine wpR_seq fit ?_
   by_cases hlt:j < b.coins.length
   ·have hltI:decide ((j:Int) < b.coins.length) = true:=decide_eq_true (by omega)
    refine wpR_thenZ fun wr hs => ?_
    replace E:=E.same hs
    clear hs
    have g0:=E.bx.cell 0;have g1:=E.bx.cell 1;have g2:=E.bx.cell 2;have g3:=E.bx.cell 3;simp at g0 g1 g2 g3;have ltB:=E.bx.lt
    gi_wp2
    clear g0 g1 g2 g3 ltB
    refine wpR_cond fit (t:=true) rfl ?_
    simp only [if_true]
    refine wpR_skip fit ?_
    simp only [thenR]
    refine wpR_seq fit ?_
    refine wpR_block fit ?_
    refine wpR_seq fit ?_
    refine wpR_region fit ?_
    simp only [List.size_toArray,List.length_cons,List.length_nil,Nat.reduceAdd,List.range,List.range.loop]
    refine opsR_loneZ rfl rfl fun wr hs => ?_
    replace E:=E.same hs
    clear hs
    have g0:=E.bx.cell 0;have g1:=E.bx.cell 1;have g2:=E.bx.cell 2;have g3:=E.bx.cell 3;simp at g0 g1 g2 g3;have ltB:=E.bx.lt
    gi_wp2
    clear g0 g1 g2 g3 ltB
    refine opsR_loneZ rfl rfl fun wr hs => ?_
    replace E:=E.same hs
    clear hs
    gi_wp2
    refine opsR_loneZ rfl rfl fun wr hs => ?_
    replace E:=E.same hs
    clear hs
    gi_wp2
    refine opsR_callZ rfl rfl rfl Tryz.func26 (by kernel_rfl) body26 (vals:=#[.agg (l.arr b),.int .i64 j,.int .i64 n]) (by simp [Act.eval]) (by rw [← st_arr];exact Balance_R E.bk hf E.kd (Nat.le_trans hlim E.g.size) hlt n0 n1) ?_
    rintro u w5 S5 ⟨rfl,hg5⟩
    replace E:=E.grow hg5
    clear hg5
    obtain ⟨y1,y2,y3,y4⟩:=HBA.out j hlt
    rw [y1,y2,y3,y4]
    clear y1 y2 y3 y4
    obtain ⟨xA,hA⟩:∃ xA,(b2.after n).acc j = xA:=⟨_,rfl⟩
    obtain ⟨xH,hH⟩:∃ xH,b2.heldOf (b2.after n) j = xH:=⟨_,rfl⟩
    obtain ⟨xT,hT⟩:∃ xT,(b2.after n).tkn j = xT:=⟨_,rfl⟩
    obtain ⟨xP,hP⟩:∃ xP,(b2.after n).pd j = xP:=⟨_,rfl⟩
    rw [hA,hH,hT,hP]
    have HV:=Lib.hid (And.intro hA (And.intro hH (And.intro hT hP)))
    clear hA hH hT hP
    have G:=Grow.refl w5.heap.size w5
    refine opsR_loneZ rfl rfl fun wr1 hs => ?_
    replace G:=hs.pre G
    clear hs
    gi_wp2
    refine opsR_loneZ rfl rfl fun wr2 hs => ?_
    replace G:=hs.pre G
    clear hs
    gi_wp2
    refine opsR_loneZ rfl rfl fun wr3 hs => ?_
    replace G:=hs.pre G
    clear hs
    gi_wp2
    refine opsR_loneZ rfl rfl fun wc hs => ?_
    replace G:=hs.pre G
    clear hs
    gi_wp2
    have hz:Blk (wc.alloc (.cells zero41 41)) wc.heap.size 41 zero41:=Blk.new wc zero41 41
    have lo:=G.size
    replace G:=G.trans ((Grow.of ((Below.refl _ wc).alloc (Nat.le_refl _) (.cells zero41 41))).mono G.size)
    refine opsR_loneZ rfl rfl fun wd hs => ?_
    replace hz:=hs.blk hz
    replace G:=hs.pre G
    clear hs
    generalize wc.heap.size = nB at *
    have z0:=hz.cell 0;have z1:=hz.cell 1;have z2:=hz.cell 2;have z3:=hz.cell 3
    have y0:=hz.frozen 0;have y1:=hz.frozen 1;have y2:=hz.frozen 2;have y3:=hz.frozen 3
    simp [zero41] at z0 z1 z2 z3
    gi_wp2
    have hX:=(((hz.put 0 (.int .i64 xA)).put 1 (.int .i64 xH)).put 2 (.int .i64 xT)).put 3 (.int .i64 xP)
    simp only [zero41,List.setIfInBounds_toArray,List.set_cons_zero,List.set_cons_succ] at hX
    replace G:=G.trans (Grow.of (((((Below.refl _ wd).setCell (p:=⟨nB,0,none⟩) lo (.int .i64 xA)).setCell (p:=⟨nB,1,none⟩) lo (.int .i64 xH)).setCell (p:=⟨nB,2,none⟩) lo (.int .i64 xT)).setCell (p:=⟨nB,3,none⟩) lo (.int .i64 xP)))
    clear z0 z1 z2 z3 y0 y1 y2 y3 hz
    refine opsR_loneZ rfl rfl fun we hs => ?_
    replace hX:=hs.blk hX
    replace G:=hs.pre G
    clear hs
    gi_wp2
    refine opsR_nil fit ?_
    replace E:=E.grow G.s
    clear G lo
    simp only [thenR]
    refine wpR_seq fit ?_
    refine wpR_region fit ?_
    simp only [List.size_toArray,List.length_cons,List.length_nil,Nat.reduceAdd,List.range,List.range.loop]
    refine opsR_loneZ rfl rfl fun wr hs => ?_
    replace E:=E.same hs
    replace hX:=hs.blk hX
    clear hs
    have h0:=E.bx2.cell 0;have h1:=E.bx2.cell 1;have h2:=E.bx2.cell 2;have h3:=E.bx2.cell 3;simp at h0 h1 h2 h3;have ltB2:=E.bx2.lt
    gi_wp2
    clear h0 h1 h2 h3 ltB2
    refine opsR_loneZ rfl rfl fun wr hs => ?_
    replace E:=E.same hs
    replace hX:=hX.grow (hs.g _) hX.lt
    clear hs
    gi_wp2
    refine opsR_loneZ rfl rfl fun wr hs => ?_
    replace E:=E.same hs
    replace hX:=hX.grow (hs.g _) hX.lt
    clear hs
    gi_wp2
    refine opsR_callZ rfl rfl rfl Tryz.func26 (by kernel_rfl) body26 (vals:=#[.agg (l2.arr b2),.int .i64 j,.int .i64 n]) (by simp [Act.eval]) (by rw [← st_arr];exact Balance_R E.bk2 hf2 E.kd (Nat.le_trans hlim E.g.size) (by have:=HCO.out;omega) n0 n1) ?_
    rintro u w5 S5 ⟨rfl,hg5⟩
    replace E:=E.grow hg5
    replace hX:=hX.grow hg5.toGrow hX.lt
    clear hg5
    obtain ⟨hA,hH,hT,hP⟩:=HV.out
    rw [hA,hH,hT,hP]
    clear hA hH hT hP HV
    have G:=Grow.refl w5.heap.size w5
    refine opsR_loneZ rfl rfl fun wr1 hs => ?_
    replace G:=hs.pre G
    clear hs
    gi_wp2
    refine opsR_loneZ rfl rfl fun wr2 hs => ?_
    replace G:=hs.pre G
    clear hs
    gi_wp2
    refine opsR_loneZ rfl rfl fun wr3 hs => ?_
    replace G:=hs.pre G
    clear hs
    gi_wp2
    refine opsR_loneZ rfl rfl fun wc hs => ?_
    replace G:=hs.pre G
    clear hs
    gi_wp2
    have hz:Blk (wc.alloc (.cells zero41 41)) wc.heap.size 41 zero41:=Blk.new wc zero41 41
    have lo:=G.size
    replace G:=G.trans ((Grow.of ((Below.refl _ wc).alloc (Nat.le_refl _) (.cells zero41 41))).mono G.size)
    refine opsR_loneZ rfl rfl fun wd hs => ?_
    replace hz:=hs.blk hz
    replace G:=hs.pre G
    clear hs
    generalize wc.heap.size = nB at *
    have z0:=hz.cell 0;have z1:=hz.cell 1;have z2:=hz.cell 2;have z3:=hz.cell 3
    have y0:=hz.frozen 0;have y1:=hz.frozen 1;have y2:=hz.frozen 2;have y3:=hz.frozen 3
    simp [zero41] at z0 z1 z2 z3
    gi_wp2
    have hY:=(((hz.put 0 (.int .i64 xA)).put 1 (.int .i64 xH)).put 2 (.int .i64 xT)).put 3 (.int .i64 xP)
    simp only [zero41,List.setIfInBounds_toArray,List.set_cons_zero,List.set_cons_succ] at hY
    replace G:=G.trans (Grow.of (((((Below.refl _ wd).setCell (p:=⟨nB,0,none⟩) lo (.int .i64 xA)).setCell (p:=⟨nB,1,none⟩) lo (.int .i64 xH)).setCell (p:=⟨nB,2,none⟩) lo (.int .i64 xT)).setCell (p:=⟨nB,3,none⟩) lo (.int .i64 xP)))
    clear z0 z1 z2 z3 y0 y1 y2 y3 hz
    refine opsR_loneZ rfl rfl fun we hs => ?_
    replace hY:=hs.blk hY
    replace G:=hs.pre G
    clear hs
    gi_wp2
    refine opsR_nil fit ?_
    replace E:=E.grow G.s
    replace hX:=hX.grow G hX.lt
    clear G lo
    simp only [thenR]
    refine wpR_loneZ fun wv hs => ?_
    replace E:=E.same hs
    replace hX:=hs.blk hX
    replace hY:=hs.blk hY
    clear hs
    have x0:=hX.cell 0;have x1:=hX.cell 1;have x2:=hX.cell 2;have x3:=hX.cell 3;simp at x0 x1 x2 x3;have ltX:=hX.lt
    have y0:=hY.cell 0;have y1:=hY.cell 1;have y2:=hY.cell 2;have y3:=hY.cell 3;simp at y0 y1 y2 y3;have ltY:=hY.lt
    have he:=eql41
    gi_wp2
    simp only [inBlockR,thenR]
    clear x0 x1 x2 x3 ltX y0 y1 y2 y3 ltY
    refine wpR_loneZ fun wz hs => ?_
    replace E:=E.same hs
    clear hs
    gi_wp2
    simp only [thenR]
    rw [show ((j:Int) + 1) = ((j + 1:Nat):Int) from rfl]
    refine ⟨b.coins.length - (j + 1),by omega,j + 1,by omega,rfl,E,?_⟩
    (repeat apply Exists.intro)
    rfl
   ·obtain rfl:j = b.coins.length:=by omega
    refine wpR_thenZ fun wr hs => ?_
    replace E:=E.same hs
    clear hs
    have g0:=E.bx.cell 0;have g1:=E.bx.cell 1;have g2:=E.bx.cell 2;have g3:=E.bx.cell 3;simp at g0 g1 g2 g3;have ltB:=E.bx.lt
    gi_wp2
    clear g0 g1 g2 g3 ltB
    refine wpR_cond fit (t:=false) rfl ?_
    simp only [Bool.false_eq_true,if_false]
    refine wpR_exit fit ?_
    simp only [thenR,inBlockR,if_true]
    refine wpR_loneZ fun wz hs => ?_
    replace E:=E.same hs
    clear hs
    gi_wp2
    exact ⟨rfl,.bool true,fun τ d => by rw [results_tmp rfl];rfl,rfl,E.g⟩
end Go.Proofs.YtnkejaohnhpbpaaGreatDoor
