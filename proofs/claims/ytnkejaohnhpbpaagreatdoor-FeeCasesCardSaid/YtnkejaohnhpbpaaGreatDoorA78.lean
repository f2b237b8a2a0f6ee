/- The specification's Fee, State and Kept, on any book: inside the fence. PRINTED BY A PROGRAM (qh.py). -/
import Derived.Test.YtnkejaohnhpbpaaGreatDoorA14
import Derived.Test.YtnkejaohnhpbpaaGreatDoorA15
import Derived.Test.YtnkejaohnhpbpaaGreatDoorA16
import Derived.Test.YtnkejaohnhpbpaaGreatDoorA32
import Derived.Test.YtnkejaohnhpbpaaGreatDoorA36
import Derived.Test.YtnkejaohnhpbpaaGreatDoorA69
import Derived.Test.YtnkejaohnhpbpaaGreatDoorA77
set_option linter.all false
section
namespace Go.Proofs.YtnkejaohnhpbpaaGreatDoor
open Go Go.RowKit Lift
def aN.dR(b:aN)(is:Prop)[Decidable is](day:Int):Int:=if b.gY=0 then(if is then(if 0≤day∧day≤9999 then 0 else 1)else 6)else b.gY
section
variable {b:aN} {is:Prop} [Decidable is] {day:Int}
theorem jT(h:¬b.gY=0):b.dR is day=b.gY:=if_neg h
theorem oI(h:b.gY=0)(hi:¬is):b.dR is day=6:=by unfold aN.dR;rw[if_pos h,if_neg hi]
theorem uU(h:b.gY=0)(hi:is)(hd:¬(0≤day∧day≤9999)):b.dR is day=1:=by unfold aN.dR;rw[if_pos h,if_pos hi,if_neg hd]
theorem jZ(h:b.gY=0)(hi:is)(hd:0≤day∧day≤9999):b.dR is day=0:=by unfold aN.dR;rw[if_pos h,if_pos hi,if_pos hd]
theorem jy:b.dR is day=0↔b.gY=0∧is∧0≤day∧day≤9999:=by
 by_cases h:b.gY=0
 ·by_cases hi:is
  ·by_cases hd:0≤day∧day≤9999
   ·exact⟨λ_=>⟨h,hi,hd⟩,λ_=>jZ h hi hd⟩
   ·rw[uU h hi hd];exact⟨λq=>absurd q (by decide),λq=>absurd q.2.2 hd⟩
  ·rw[oI h hi];exact⟨λq=>absurd q (by decide),λq=>absurd q.2.1 hi⟩
 ·rw[jT h];exact⟨λq=>absurd q h,λq=>absurd q.1 h⟩
end
def aN.bZ(b:aN)(c:Int):Prop:=0≤c∧c<b.cs.length
instance (b:aN) (c:Int):Decidable (b.bZ c):=by unfold aN.bZ;exact inferInstance
def aN.fA(b:aN)(c day:Int):Int×Bool×Int:=if b.dR (b.bZ c) day=0 then((b.to.fee c.toNat day).1,(b.to.fee c.toNat day).2,0)else(0,false,b.dR (b.bZ c) day)
def aN.sA(b:aN)(c day:Int):Int×Int×Int:=if b.dR (b.bZ c) day=0 then(((b.to.after day).cases c.toNat).state,((b.to.after day).cases c.toNat).held,0)else(0,0,b.dR (b.bZ c) day)
def aN.kA(b:aN)(c:Int):Int×Int×Bool×Int:=if b.dR (b.bZ c) 0=0 then(((b.to.after 9999).cases c.toNat).day,((b.to.after 9999).cases c.toNat).fee,((b.to.after 9999).cases c.toNat).state==1,0)else(0,0,false,b.dR (b.bZ c) 0)
theorem fA_ok{b:aN}{c day:Int}(h:b.dR (b.bZ c) day=0):b.fA c day=((b.to.fee c.toNat day).1,(b.to.fee c.toNat day).2,0):=if_pos h
theorem fA_no{b:aN}{c day:Int}(h:¬b.dR (b.bZ c) day=0):b.fA c day=(0,false,b.dR (b.bZ c) day):=if_neg h
theorem sA_ok{b:aN}{c day:Int}(h:b.dR (b.bZ c) day=0):b.sA c day=(((b.to.after day).cases c.toNat).state,((b.to.after day).cases c.toNat).held,0):=if_pos h
theorem sA_no{b:aN}{c day:Int}(h:¬b.dR (b.bZ c) day=0):b.sA c day=(0,0,b.dR (b.bZ c) day):=if_neg h
theorem kA_ok{b:aN}{c:Int}(h:b.dR (b.bZ c) 0=0):b.kA c=(((b.to.after 9999).cases c.toNat).day,((b.to.after 9999).cases c.toNat).fee,((b.to.after 9999).cases c.toNat).state==1,0):=if_pos h
theorem kA_no{b:aN}{c:Int}(h:¬b.dR (b.bZ c) 0=0):b.kA c=(0,0,false,b.dR (b.bZ c) 0):=if_neg h
theorem KD{b:Book}(hv:Valid b){c:Nat}(hc:c<b.cs.length)(day:Int):max 0 (b.qx c day)=(b.fee c day).1∧decide (0≤b.qx c day)=(b.fee c day).2:=by
 have hle:=hv.wH hc day;cases hd:(b.fee c day).2 with
 |true=>rw[wF hd];exact⟨by omega,decide_eq_true hle.1⟩
 |false=>
  rw[wG hd];refine⟨?_,rfl⟩;unfold Book.fee jk at hd ⊢;split at hd
  ·cases hd
  ·rename_i h1;split at hd
   ·cases hd
   ·rename_i h2;rw[if_neg h1,if_neg h2];rfl
set_option maxHeartbeats 4000000 in
theorem yR{N:Nat}{l:Lay}{b:aN}{w:World}(hbk:bT N l b w)(hcap:b.coins.length≤l.cc)(hs:b.Small)(c:Int):CallsIn Fz 0 Tryz.prog 46 #[.agg (l.bW b),.int .i64 c] w λe w'=>e=.returned (.int .i64 (b.dR (b.bZ c) 0))∧Below w.heap.size w w':=by
 have hb1:Below w.heap.size w (w.alloc (.cells (l.bW b) 27)):=(Below.refl _ w).alloc (ay _) _;have hA:=Blk.new w (l.bW b) 27;have hN1:=hbk.below (hb1.mono hbk.hN);have hck:=xg hN1 hcap (by have:=hs.1;omega) (by have:=hs.2.1;omega) (by have:=hs.2.2.1;omega) (by have:=hs.2.2.2;omega);have hsk:b.cs.length<1000000:=by have:=hs.2.2.1;omega
 by_cases hf:b.gY=0
 ·rw[hf]at hck;by_cases hc:b.bZ c
  ·have hq:b.dR (b.bZ c) 0=0:=jZ hf hc (by decide);have HQ:=Lib.hid hq;clear hq hf;unfold aN.bZ at hc;gi_enter Tryz.func46,Tryz.ntmps46
   gi_wp2_with (first
    |(gi_at_call 21;with_reducible refine hck.mono ?_;rintro e w2 ⟨rfl,hb2⟩;have hA2:=hA.below hb2;have g0:=hA2.cell 0;have g1:=hA2.cell 1;have g2:=hA2.cell 2;have g3:=hA2.cell 3;simp at g0 g1 g2 g3;have ltg:=hA2.lt)
    |(gi_at_call 77;with_reducible refine(rM (l:=l) (b:=b) hc hsk).mono ?_;rintro e w3 ⟨rfl,hb3⟩))
   go_ret;exact⟨dW HQ.out,hb1.trans ((hb2.trans (hb3.mono hb2.size)).mono hb1.size)⟩
  ·have hq:b.dR (b.bZ c) 0=6:=oI hf hc;have HQ:=Lib.hid hq;clear hq hf;unfold aN.bZ at hc;gi_enter Tryz.func46,Tryz.ntmps46
   gi_wp2_with (first
    |(gi_at_call 21;with_reducible refine hck.mono ?_;rintro e w2 ⟨rfl,hb2⟩;have hA2:=hA.below hb2;have g0:=hA2.cell 0;have g1:=hA2.cell 1;have g2:=hA2.cell 2;have g3:=hA2.cell 3;simp at g0 g1 g2 g3;have ltg:=hA2.lt)
    |(gi_at_call 77;with_reducible refine(wO (l:=l) (b:=b) hc hsk).mono ?_;rintro e w3 ⟨rfl,hb3⟩))
   go_ret;exact⟨dW HQ.out,hb1.trans ((hb2.trans (hb3.mono hb2.size)).mono hb1.size)⟩
 ·have hq:b.dR (b.bZ c) 0=b.gY:=jT hf;generalize b.gY=f at hck hf hq;have HQ:=Lib.hid hq;clear hq;gi_enter Tryz.func46,Tryz.ntmps46
  gi_wp2_with (gi_at_call 21;with_reducible refine hck.mono ?_;rintro e w2 ⟨rfl,hb2⟩)
  go_ret;exact⟨dW HQ.out,hb1.trans (hb2.mono hb1.size)⟩
set_option maxHeartbeats 8000000 in
theorem FeeR_in{N:Nat}{l:Lay}{b:aN}{w:World}(hbk:bT N l b w)(hcap:b.coins.length≤l.cc)(hs:b.Small)(c day:Int):CallsIn Fz 0 Tryz.prog 19 #[.agg (l.bW b),.int .i64 c,.int .i64 day] w λe w'=>e=.returned (.tuple #[.int .i64 (b.fA c day).1,.bool (b.fA c day).2.1,.int .i64 (b.fA c day).2.2])∧Below w.heap.size w w':=by
 have hb1:Below w.heap.size w (w.alloc (.cells (l.bW b) 27)):=(Below.refl _ w).alloc (ay _) _;have hA:=Blk.new w (l.bW b) 27;have hN1:=hbk.below (hb1.mono hbk.hN);have hcc:=yR hN1 hcap hs c;by_cases hF:b.dR (b.bZ c) day=0
 ·obtain⟨hf,hc,hd⟩:=jy.1 hF;rw[jZ hf hc (by decide)]at hcc;have hR:=b.jV.1 hf;have hfull:=hR.full;rw[fA_ok hF];clear hF hf;unfold aN.bZ at hc;obtain⟨k,rfl⟩:∃k:Nat,c=k:=⟨c.toNat,by omega⟩
  rw[Int.toNat_natCast];have hk:k<b.cs.length:=by omega
  have hk':k<b.to.cs.length:=by rw[ou];exact hk
  clear hc;have hfo:=KD hfull.v hk' day;have hfe:=λ{w'} (h:bT N l b w')=>y9 (h.to hR) hfull.v hk' day;rw[aN.wZ]at hfe;generalize b.to.qx k day=m at *;have HFO:=Lib.hid hfo;clear hfo;gi_enter Tryz.func19,Tryz.ntmps19
  gi_wp2_with (first
   |(gi_at_call 46;with_reducible refine hcc.mono ?_;rintro e w2 ⟨rfl,hb2⟩;have hA2:=hA.below hb2;have hN2:=hN1.below (hb2.mono hN1.hN);have g0:=hA2.cell 0;have g1:=hA2.cell 1;have g2:=hA2.cell 2;have g3:=hA2.cell 3;simp at g0 g1 g2 g3;have ltg:=hA2.lt)
   |(gi_at_call 47;with_reducible refine(jO day _ hd).mono ?_;rintro e w4 ⟨rfl,rfl⟩)
   |(gi_at_call 48;with_reducible refine(hfe hN2).mono ?_;rintro e w5 ⟨rfl,hb5⟩))
  (try simp only[Exit.inBlock,Exit.then])
  refine bodyPost_ret (results_tmp3 rfl _ _ _) rfl ?_;exact⟨by rw[← HFO.out.1,← HFO.out.2];rfl,hb1.trans ((hb2.trans (hb5.mono hb2.size)).mono hb1.size)⟩
 ·rw[fA_no hF];by_cases hcf:b.dR (b.bZ c) 0=0
  ·obtain⟨hf,hc,_⟩:=jy.1 hcf;have hd:¬(0≤day∧day≤9999):=λq=>hF (jZ hf hc q);have hq:b.dR (b.bZ c) day=1:=uU hf hc hd;rw[hcf]at hcc;have HQ:=Lib.hid hq;clear hq hF hcf hc hf;gi_enter Tryz.func19,Tryz.ntmps19
   gi_wp2_with (first
    |(gi_at_call 46;with_reducible refine hcc.mono ?_;rintro e w2 ⟨rfl,hb2⟩;have hA2:=hA.below hb2;have hN2:=hN1.below (hb2.mono hN1.hN);have g0:=hA2.cell 0;have g1:=hA2.cell 1;have g2:=hA2.cell 2;have g3:=hA2.cell 3;simp at g0 g1 g2 g3;have ltg:=hA2.lt)
    |(gi_at_call 47;with_reducible refine(En day _ hd).mono ?_;rintro e w3 ⟨rfl,rfl⟩))
   (try simp only[Exit.inBlock,Exit.then])
   refine bodyPost_ret (results_tmp3 rfl _ _ _) rfl ?_;exact⟨by rw[HQ.out];rfl,hb1.trans (hb2.mono hb1.size)⟩
  ·have hq:b.dR (b.bZ c) day=b.dR (b.bZ c) 0:=by
    by_cases hf:b.gY=0
    ·have hc:¬b.bZ c:=λq=>hcf (jZ hf q (by decide));rw[oI hf hc,oI hf hc]
    ·rw[jT hf,jT hf]
   generalize b.dR (b.bZ c) 0=f0 at hcc hcf hq;have HQ:=Lib.hid hq;clear hq hF;gi_enter Tryz.func19,Tryz.ntmps19
   gi_wp2_with (first
    |(gi_at_call 46;with_reducible refine hcc.mono ?_;rintro e w2 ⟨rfl,hb2⟩))
   (try simp only[Exit.inBlock,Exit.then])
   refine bodyPost_ret (results_tmp3 rfl _ _ _) rfl ?_;exact⟨by rw[HQ.out];rfl,hb1.trans (hb2.mono hb1.size)⟩
set_option maxHeartbeats 8000000 in
theorem JQ{N:Nat}{l:Lay}{b:aN}{w:World}(hbk:bT N l b w)(hcap:b.coins.length≤l.cc)(hs:b.Small)(c day:Int):CallsIn Fz 0 Tryz.prog 23 #[.agg (l.bW b),.int .i64 c,.int .i64 day] w λe w'=>e=.returned (.tuple #[.int .i64 (b.sA c day).1,.int .i64 (b.sA c day).2.1,.int .i64 (b.sA c day).2.2])∧Below w.heap.size w w':=by
 have hb1:Below w.heap.size w (w.alloc (.cells (l.bW b) 27)):=(Below.refl _ w).alloc (ay _) _;have hA:=Blk.new w (l.bW b) 27;have hN1:=hbk.below (hb1.mono hbk.hN);have hcc:=yR hN1 hcap hs c;by_cases hF:b.dR (b.bZ c) day=0
 ·obtain⟨hf,hc,hd⟩:=jy.1 hF;rw[jZ hf hc (by decide)]at hcc;have hR:=b.jV.1 hf;have hfull:=hR.full;rw[sA_ok hF];clear hF hf;unfold aN.bZ at hc;obtain⟨k,rfl⟩:∃k:Nat,c=k:=⟨c.toNat,by omega⟩
  rw[Int.toNat_natCast];have hk:k<b.cs.length:=by omega
  have hk':k<b.to.cs.length:=by rw[ou];exact hk
  clear hc;have hrun:=λ{w'} (h:bT N l b w')=>MH (h.to hR) hfull hd.1 hd.2;rw[aN.wZ]at hrun;have h00:0<cnt b.to 0:=Nat.lt_of_le_of_lt (Nat.zero_le _) hk';have h01:0<cnt b.to 1:=Nat.lt_of_le_of_lt (Nat.zero_le _) hk';gi_enter Tryz.func23,Tryz.ntmps23
  gi_wp2_with (first
   |(gi_at_call 46;with_reducible refine hcc.mono ?_;rintro e w2 ⟨rfl,hb2⟩;have hA2:=hA.below hb2;have hN2:=hN1.below (hb2.mono hN1.hN);have g0:=hA2.cell 0;have g1:=hA2.cell 1;have g2:=hA2.cell 2;have g3:=hA2.cell 3;simp at g0 g1 g2 g3;have ltg:=hA2.lt)
   |(gi_at_call 47;with_reducible refine(jO day _ hd).mono ?_;rintro e w4 ⟨rfl,rfl⟩)
   |(gi_at_call 58;with_reducible refine(hrun hN2).mono ?_;rintro e w5 ⟨R,rfl,G5,hb5⟩;have HE0:=Lib.hid (G5.at_ 0 (by omega) h00);have HE1:=Lib.hid (G5.at_ 1 (by omega) h01);have hb6:=(Below.refl w5.heap.size w5).alloc (ay _) (.cells (R.arr b.to) 102);have hR6:=Blk.new w5 (R.arr b.to) 102))
  have G6:=G5.same hb6;generalize w5.alloc _=w6 at *;have s0:=G6.cell (j:=0) (i:=k) (by omega) hk';have lt0:=G6.blt (j:=0) (i:=k) (by omega) hk';have s1:=G6.cell (j:=1) (i:=k) (by omega) hk';have lt1:=G6.blt (j:=1) (i:=k) (by omega) hk';simp only[cval]at s0 s1;have r0:=hR6.cell 0;have r1:=hR6.cell 1;simp at r0 r1;rw[HE0.out]at r0;rw[HE1.out]at r1;have ltR:=hR6.lt;have hkc:k<b.to.cs.length:=hk';gi_big_quiet_th (fail)
  gi_wp2
  (try simp only[Exit.inBlock,Exit.then])
  refine bodyPost_ret (results_tmp3 rfl _ _ _) rfl ?_;exact⟨rfl,hb1.trans ((hb2.trans ((hb5.trans ((hb6.trans (below_drewN _ nq |>.mono hb6.size)).mono hb5.size)).mono hb2.size)).mono hb1.size)⟩
 ·rw[sA_no hF];by_cases hcf:b.dR (b.bZ c) 0=0
  ·obtain⟨hf,hc,_⟩:=jy.1 hcf;have hd:¬(0≤day∧day≤9999):=λq=>hF (jZ hf hc q);have hq:b.dR (b.bZ c) day=1:=uU hf hc hd;rw[hcf]at hcc;have HQ:=Lib.hid hq;clear hq hF hcf hc hf;gi_enter Tryz.func23,Tryz.ntmps23
   gi_wp2_with (first
    |(gi_at_call 46;with_reducible refine hcc.mono ?_;rintro e w2 ⟨rfl,hb2⟩;have hA2:=hA.below hb2;have hN2:=hN1.below (hb2.mono hN1.hN);have g0:=hA2.cell 0;have g1:=hA2.cell 1;have g2:=hA2.cell 2;have g3:=hA2.cell 3;simp at g0 g1 g2 g3;have ltg:=hA2.lt)
    |(gi_at_call 47;with_reducible refine(En day _ hd).mono ?_;rintro e w3 ⟨rfl,rfl⟩))
   (try simp only[Exit.inBlock,Exit.then])
   refine bodyPost_ret (results_tmp3 rfl _ _ _) rfl ?_;exact⟨by rw[HQ.out];rfl,hb1.trans (hb2.mono hb1.size)⟩
  ·have hq:b.dR (b.bZ c) day=b.dR (b.bZ c) 0:=by
    by_cases hf:b.gY=0
    ·have hc:¬b.bZ c:=λq=>hcf (jZ hf q (by decide));rw[oI hf hc,oI hf hc]
    ·rw[jT hf,jT hf]
   generalize b.dR (b.bZ c) 0=f0 at hcc hcf hq;have HQ:=Lib.hid hq;clear hq hF;gi_enter Tryz.func23,Tryz.ntmps23
   gi_wp2_with (first
    |(gi_at_call 46;with_reducible refine hcc.mono ?_;rintro e w2 ⟨rfl,hb2⟩))
   (try simp only[Exit.inBlock,Exit.then])
   refine bodyPost_ret (results_tmp3 rfl _ _ _) rfl ?_;exact⟨by rw[HQ.out];rfl,hb1.trans (hb2.mono hb1.size)⟩
set_option maxHeartbeats 8000000 in
theorem MB{N:Nat}{l:Lay}{b:aN}{w:World}(hbk:bT N l b w)(hcap:b.coins.length≤l.cc)(hs:b.Small)(c:Int):CallsIn Fz 0 Tryz.prog 25 #[.agg (l.bW b),.int .i64 c] w λe w'=>e=.returned (.tuple #[.int .i64 (b.kA c).1,.int .i64 (b.kA c).2.1,.bool (b.kA c).2.2.1,.int .i64 (b.kA c).2.2.2])∧Below w.heap.size w w':=by
 have hb1:Below w.heap.size w (w.alloc (.cells (l.bW b) 27)):=(Below.refl _ w).alloc (ay _) _;have hA:=Blk.new w (l.bW b) 27;have hN1:=hbk.below (hb1.mono hbk.hN);have hcc:=yR hN1 hcap hs c;by_cases hF:b.dR (b.bZ c) 0=0
 ·obtain⟨hf,hc,hd⟩:=jy.1 hF;rw[jZ hf hc (by decide)]at hcc;have hR:=b.jV.1 hf;have hfull:=hR.full;rw[kA_ok hF];clear hF hf;unfold aN.bZ at hc;obtain⟨k,rfl⟩:∃k:Nat,c=k:=⟨c.toNat,by omega⟩
  rw[Int.toNat_natCast];have hk:k<b.cs.length:=by omega
  have hk':k<b.to.cs.length:=by rw[ou];exact hk
  clear hc;have hrun:=λ{w'} (h:bT N l b w')=>MH (h.to hR) hfull (n:=9999) (by decide) (by decide);rw[aN.wZ]at hrun;have h00:0<cnt b.to 0:=Nat.lt_of_le_of_lt (Nat.zero_le _) hk';have h02:0<cnt b.to 2:=Nat.lt_of_le_of_lt (Nat.zero_le _) hk';have h03:0<cnt b.to 3:=Nat.lt_of_le_of_lt (Nat.zero_le _) hk';gi_enter Tryz.func25,Tryz.ntmps25
  gi_wp2_with (first
   |(gi_at_call 46;with_reducible refine hcc.mono ?_;rintro e w2 ⟨rfl,hb2⟩;have hA2:=hA.below hb2;have hN2:=hN1.below (hb2.mono hN1.hN);have g0:=hA2.cell 0;have g1:=hA2.cell 1;have g2:=hA2.cell 2;have g3:=hA2.cell 3;simp at g0 g1 g2 g3;have ltg:=hA2.lt)
   |(gi_at_call 58;with_reducible refine(hrun hN2).mono ?_;rintro e w5 ⟨R,rfl,G5,hb5⟩;have HE0:=Lib.hid (G5.at_ 0 (by omega) h00);have HE2:=Lib.hid (G5.at_ 2 (by omega) h02);have HE3:=Lib.hid (G5.at_ 3 (by omega) h03);have hb6:=(Below.refl w5.heap.size w5).alloc (ay _) (.cells (R.arr b.to) 102);have hR6:=Blk.new w5 (R.arr b.to) 102))
  have G6:=G5.same hb6;generalize w5.alloc _=w6 at *;have s0:=G6.cell (j:=0) (i:=k) (by omega) hk';have lt0:=G6.blt (j:=0) (i:=k) (by omega) hk';have s2:=G6.cell (j:=2) (i:=k) (by omega) hk';have lt2:=G6.blt (j:=2) (i:=k) (by omega) hk';have s3:=G6.cell (j:=3) (i:=k) (by omega) hk';have lt3:=G6.blt (j:=3) (i:=k) (by omega) hk';simp only[cval]at s0 s2 s3;have r0:=hR6.cell 0;have r2:=hR6.cell 2;have r3:=hR6.cell 3;simp at r0 r2 r3;rw[HE0.out]at r0;rw[HE2.out]at r2;rw[HE3.out]at r3;have ltR:=hR6.lt;have hkc:k<b.to.cs.length:=hk';gi_big_quiet_th (fail)
  gi_wp2
  (try simp only[Exit.inBlock,Exit.then])
  refine bodyPost_ret (kZ rfl _ _ _) rfl ?_;exact⟨rfl,hb1.trans ((hb2.trans ((hb5.trans ((hb6.trans (below_drewN _ nq |>.mono hb6.size)).mono hb5.size)).mono hb2.size)).mono hb1.size)⟩
 ·rw[kA_no hF];by_cases hcf:b.dR (b.bZ c) 0=0
  ·exact absurd hcf hF
  ·generalize b.dR (b.bZ c) 0=f0 at hcc hcf hF ⊢;gi_enter Tryz.func25,Tryz.ntmps25
   gi_wp2_with (first
    |(gi_at_call 46;with_reducible refine hcc.mono ?_;rintro e w2 ⟨rfl,hb2⟩))
   (try simp only[Exit.inBlock,Exit.then])
   refine bodyPost_ret (kZ rfl _ _ _) rfl ?_;exact⟨rfl,hb1.trans (hb2.mono hb1.size)⟩
end Go.Proofs.YtnkejaohnhpbpaaGreatDoor
end
section
namespace Go.Proofs.YtnkejaohnhpbpaaGreatDoor
open Go Go.RowKit Lift
theorem tY{b:aN}{p q:Prop}[Decidable p][Decidable q](h:p↔q)(day:Int):b.dR p day=b.dR q day:=by
 unfold aN.dR;by_cases hp:p
 ·rw[if_pos hp,if_pos (h.1 hp)]
 ·rw[if_neg hp,if_neg λz=>hp (h.2 z)]
theorem bT.topR{N:Nat}{l:Lay}{b:aN}{w:World}(h:bT N l b w):bT w.heap.size l b w:=h.top
set_option maxHeartbeats 8000000 in
theorem yO{N:Nat}{l:Lay}{b:aN}{w:World}(hbk:bT N l b w)(hs:b.Small){is:Bool}{day:Int}(hF:¬b.dR (is=true) day=0) :
  CallsIn Fz 0 Tryz.prog 43 #[.agg (l.bW b),.bool is,.int .i64 day] w λe w'=>e=.returned (.tuple #[.agg #[.slice none 0 0,.slice none 0 0,.slice none 0 0,.slice none 0 0],.int .i64 (b.dR (is=true) day)])∧Below w.heap.size w w':=by
 have hb1:Below w.heap.size w (w.alloc (.cells (l.bW b) 27)):=(Below.refl _ w).alloc (ay _) _;have hb2:Below w.heap.size w ((w.alloc (.cells (l.bW b) 27)).alloc (.cells #[.slice none 0 0,.slice none 0 0,.slice none 0 0,.slice none 0 0] 77)):=hb1.alloc (by simp) _;have hT:=Blk.new (w.alloc (.cells (l.bW b) 27)) #[.slice none 0 0,.slice none 0 0,.slice none 0 0,.slice none 0 0] 77;rw[World.size_alloc]at hT;have hc:=check_any (hbk.topR.below hb2) hs;by_cases hf:b.gY=0
 ·cases is with
  |false=>
   have hq:b.dR (false=true) day=6:=oI hf (by decide);rw[hf]at hc;have HQ:=Lib.hid hq;clear hq hF hf;gi_enter Tryz.func43,Tryz.ntmps43
   gi_wp2_with (first
    |(gi_at_call 20;with_reducible refine hc.mono ?_;rintro e w3 ⟨rfl,hb3⟩;have hT3:=hT.below hb3;have t0:=hT3.cell 0;have t1:=hT3.cell 1;have t2:=hT3.cell 2;have t3:=hT3.cell 3;have f0:=hT3.frozen 0;have f1:=hT3.frozen 1;have f2:=hT3.frozen 2;have f3:=hT3.frozen 3;simp at t0 t1 t2 t3;have ltT:=hT3.lt))
   have hF:=(((hT3.put 0 (.slice none 0 0)).put 1 (.slice none 0 0)).put 2 (.slice none 0 0)).put 3 (.slice none 0 0);simp only[aj,au,ak]at hF;have hB4:=(hb2.trans (hb3.mono (by simp;omega)))
   (try simp only[Exit.inBlock,Exit.then])
   refine bodyPost_ret (v:=.tuple #[.agg #[.slice none 0 0,.slice none 0 0,.slice none 0 0,.slice none 0 0],.int .i64 6]) ?_ rfl ⟨by rw[HQ.out],(((hB4.setCell (p:=⟨w.heap.size+1,0,none⟩) (by simp) _).setCell (p:=⟨w.heap.size+1,1,none⟩) (by simp) _).setCell (p:=⟨w.heap.size+1,2,none⟩) (by simp) _).setCell (p:=⟨w.heap.size+1,3,none⟩) (by simp) _⟩;rw[results_cell_tmp rfl];simp[asAddr,Result.andThen,D5 hF]
  |true=>
   have hd:¬(0≤day∧day≤9999):=λq=>hF (jZ hf rfl q);have hq:b.dR (true=true) day=1:=uU hf rfl hd;rw[hf]at hc;have HQ:=Lib.hid hq;clear hq hF hf;gi_enter Tryz.func43,Tryz.ntmps43
   gi_wp2_with (first
    |(gi_at_call 20;with_reducible refine hc.mono ?_;rintro e w3 ⟨rfl,hb3⟩;have hT3:=hT.below hb3;have t0:=hT3.cell 0;have t1:=hT3.cell 1;have t2:=hT3.cell 2;have t3:=hT3.cell 3;have f0:=hT3.frozen 0;have f1:=hT3.frozen 1;have f2:=hT3.frozen 2;have f3:=hT3.frozen 3;simp at t0 t1 t2 t3;have ltT:=hT3.lt)
    |(gi_at_call 75;with_reducible refine(DV day _ hd).mono ?_;rintro e w4 ⟨rfl,rfl⟩))
   have hF:=(((hT3.put 0 (.slice none 0 0)).put 1 (.slice none 0 0)).put 2 (.slice none 0 0)).put 3 (.slice none 0 0);simp only[aj,au,ak]at hF;have hB4:=(hb2.trans (hb3.mono (by simp;omega)))
   (try simp only[Exit.inBlock,Exit.then])
   refine bodyPost_ret (v:=.tuple #[.agg #[.slice none 0 0,.slice none 0 0,.slice none 0 0,.slice none 0 0],.int .i64 1]) ?_ rfl ⟨by rw[HQ.out],(((hB4.setCell (p:=⟨w.heap.size+1,0,none⟩) (by simp) _).setCell (p:=⟨w.heap.size+1,1,none⟩) (by simp) _).setCell (p:=⟨w.heap.size+1,2,none⟩) (by simp) _).setCell (p:=⟨w.heap.size+1,3,none⟩) (by simp) _⟩;rw[results_cell_tmp rfl];simp[asAddr,Result.andThen,D5 hF]
 ·have hq:b.dR (is=true) day=b.gY:=jT hf;generalize b.gY=f at hc hq hf;have HQ:=Lib.hid hq;clear hq hF;gi_enter Tryz.func43,Tryz.ntmps43
  gi_wp2_with (first
   |(gi_at_call 20;with_reducible refine hc.mono ?_;rintro e w3 ⟨rfl,hb3⟩;have hT3:=hT.below hb3;have t0:=hT3.cell 0;have t1:=hT3.cell 1;have t2:=hT3.cell 2;have t3:=hT3.cell 3;have f0:=hT3.frozen 0;have f1:=hT3.frozen 1;have f2:=hT3.frozen 2;have f3:=hT3.frozen 3;simp at t0 t1 t2 t3;have ltT:=hT3.lt))
  have hF:=(((hT3.put 0 (.slice none 0 0)).put 1 (.slice none 0 0)).put 2 (.slice none 0 0)).put 3 (.slice none 0 0);simp only[aj,au,ak]at hF;have hB4:=(hb2.trans (hb3.mono (by simp;omega)))
  (try simp only[Exit.inBlock,Exit.then])
  refine bodyPost_ret (v:=.tuple #[.agg #[.slice none 0 0,.slice none 0 0,.slice none 0 0,.slice none 0 0],.int .i64 f]) ?_ rfl ⟨by rw[HQ.out],(((hB4.setCell (p:=⟨w.heap.size+1,0,none⟩) (by simp) _).setCell (p:=⟨w.heap.size+1,1,none⟩) (by simp) _).setCell (p:=⟨w.heap.size+1,2,none⟩) (by simp) _).setCell (p:=⟨w.heap.size+1,3,none⟩) (by simp) _⟩;rw[results_cell_tmp rfl];simp[asAddr,Result.andThen,D5 hF]
theorem wL(base:Option Addr)(n cap:Nat)(x:Int)(hn:n≤1000){ib:Bool}(h:decide (0≤x∧x<n)=ib)(w:World):CallsIn Fz 0 Tryz.prog 44 #[.slice base n cap,.int .i64 x] w λe w'=>e=.returned (.bool ib)∧w'=w:=by
 by_cases q:0≤x∧x<n
 ·rw[decide_eq_true q]at h;subst h;exact rJ base n cap x hn w q
 ·rw[decide_eq_false q]at h;subst h;exact wM base n cap x hn w q
set_option maxHeartbeats 8000000 in
theorem Fee_un{N:Nat}{l:Lay}{b:aN}{w:World}(hbk:bT N l b w)(hs:b.Small){c day:Int}(hF:¬b.dR (b.bZ c) day=0):CallsIn Fz 0 Tryz.prog 18 #[.agg (l.bW b),.int .i64 c,.int .i64 day] w λe w'=>e=.returned (.tuple #[.int .i64 0,.bool false,.int .i64 (b.dR (b.bZ c) day)])∧Below w.heap.size w w':=by
 have hb1:Below w.heap.size w (w.alloc (.cells (l.bW b) 27)):=(Below.refl _ w).alloc (ay _) _;have hA1:=Blk.new w (l.bW b) 27;obtain⟨ib,hib⟩:∃ib,decide (0≤c∧c<b.cs.length)=ib:=⟨_,rfl⟩
 have hiff:ib=true↔b.bZ c:=by rw[← hib];exact decide_eq_true_iff
 have hidx:=λw'=>wL l.kb b.cs.length l.kc c (by have:=hs.2.2.1;omega) hib w';rw[← tY hiff]at hF ⊢;have hasked:=λw' (h:Below w.heap.size w w')=>yO (hbk.topR.below h) hs hF;generalize b.dR (ib=true) day=F at *;clear hib hiff;unfold Lay.bW at *;gi_enter Tryz.func18,Tryz.ntmps18
 gi_wp2;generalize w.alloc _=W at *;refine dI rfl mixed (by kernel_rfl) (WB W 10 11 fU) 9 (x₀:=undef) rfl ⟨(show Below W.heap.size W { W with drawn:=W.drawn+1 }from⟨rfl,rfl,rfl,ay _,λ_ _=>rfl⟩),λh=>by cases h⟩ ?_;simp only[aF,aC,aG,Nat.reduceAdd,Nat.zero_add,List.range,List.range.loop]
 iterate 2
  refine aV rfl (λ_=>rfl) (by decide) rfl ?_;apply ah;refine⟨λD x w' hm hW K Q hK=>?_,?_⟩
  ·have q:=hA1.below hW.1;have q0:=q.cell 0;have q1:=q.cell 1;have q2:=q.cell 2;have q3:=q.cell 3;simp at q0 q1 q2 q3;simp only[Lift.Act.bG,aj,au,ak];gi_wp2;exact hW.step (by decide) (by decide) (Below.refl _ _)
  apply ah;refine⟨λx=>rfl,?_⟩;refine aV rfl (λ_=>rfl) (by decide) rfl ?_;apply ah;refine⟨λD x w' hm hW K Q hK=>?_,?_⟩
  ·simp only[Lift.Act.bG,aj,au,ak];gi_wp2;exact hW.step (by decide) (by decide) (Below.refl _ _)
  apply ah;refine⟨λx=>rfl,?_⟩
 refine aV rfl (λ_=>rfl) (by decide) rfl ?_;apply ah;refine⟨λD x w' hm hW K Q hK=>?_,?_⟩
 ·simp only[Lift.Act.bG,aj,au,ak]
  gi_wp2_with (gi_at_call 44;refine(hidx _).mono ?_;rintro e w3 ⟨rfl,rfl⟩)
  exact hW.step (by decide) (by decide) (Below.refl _ _)
 apply ah;refine⟨λx=>rfl,?_⟩;refine aV rfl (λ_=>rfl) (by decide) rfl ?_;apply ah;refine⟨λD x w' hm hW K Q hK=>?_,?_⟩
 ·simp only[Lift.Act.bG,aj,au,ak];gi_wp2;exact hW.step (by decide) (by decide) (Below.refl _ _)
 apply ah;refine⟨λx=>rfl,?_⟩;refine aV rfl (λ_=>rfl) (by decide) rfl ?_;apply ah;refine⟨λD x w' hm hW K Q hK=>?_,?_⟩
 ·simp only[Lift.Act.bG,aj,au,ak]
  gi_wp2_with (gi_at_call 43;refine(hasked _ (hb1.trans (hW.1.mono hb1.size))).mono ?_;rintro e w3 ⟨rfl,hb⟩)
  exact hW.step (by decide) (by decide) hb
 iterate 3
  apply ah;refine⟨λx=>rfl,?_⟩;refine aV rfl (λ_=>rfl) (by decide) rfl ?_;apply ah;refine⟨λD x w' hm hW K Q hK=>?_,?_⟩
  ·simp only[Lift.Act.bG,aj,au,ak];gi_wp2;exact hW.step (by decide) (by decide) (Below.refl _ _)
 apply ah;refine⟨λx=>rfl,?_⟩;refine oL rfl (λ_=>rfl) rfl rfl (λD x w' hm hW K Q hK=>jo _ _ _ _ (hK _ _ (WB.make hm (by kernel_rfl) hW))) ?_;refine iV rfl (λ_=>rfl) rfl (λD x w' hm hW K Q hK=>?_) ?_
 ·obtain⟨B,rfl,hB0,hBz,hBk⟩:=WB.store hm (by kernel_rfl) hW;have z0:=hBz.cell 0;have z1:=hBz.cell 1;have z2:=hBz.cell 2;have z3:=hBz.cell 3;have y0:=hBz.frozen 0;have y1:=hBz.frozen 1;have y2:=hBz.frozen 2;have y3:=hBz.frozen 3;simp[fU]at z0 z1 z2 z3;simp only[Lift.Act.bG,aj,au,ak]at hK ⊢;gi_wp2;refine hBk _ ?_ ?_
  ·have:=(((hBz.put 0 (.slice none 0 0)).put 1 (.slice none 0 0)).put 2 (.slice none 0 0)).put 3 (.slice none 0 0);simpa only[fU,aj,au,ak]using this
  ·exact(((hW.1.setCell (p:=⟨B,0,none⟩) hB0 _).setCell (p:=⟨B,1,none⟩) hB0 _).setCell (p:=⟨B,2,none⟩) hB0 _).setCell (p:=⟨B,3,none⟩) hB0 _
 refine aV rfl (λ_=>rfl) (by decide) rfl ?_;apply ah;refine⟨λD x w' hm hW K Q hK=>?_,?_⟩
 ·simp only[Lift.Act.bG,aj,au,ak];gi_wp2;exact hW.step (by decide) (by decide) (Below.refl _ _)
 apply ah;refine⟨λx=>rfl,?_⟩;rintro x w2 ⟨hb2,hx⟩;simp only[Lift.Act.bG,aj,au,ak];gi_wp2
 (try simp only[Exit.inBlock,Exit.then])
 refine bodyPost_ret (results_tmp3 rfl _ _ _) rfl ?_;exact⟨rfl,hb1.trans (hb2.mono hb1.size)⟩
set_option maxHeartbeats 8000000 in
theorem MI{N:Nat}{l:Lay}{b:aN}{w:World}(hbk:bT N l b w)(hs:b.Small){c day:Int}(hF:¬b.dR (b.bZ c) day=0):CallsIn Fz 0 Tryz.prog 22 #[.agg (l.bW b),.int .i64 c,.int .i64 day] w λe w'=>e=.returned (.tuple #[.int .i64 0,.int .i64 0,.int .i64 (b.dR (b.bZ c) day)])∧Below w.heap.size w w':=by
 have hb1:Below w.heap.size w (w.alloc (.cells (l.bW b) 27)):=(Below.refl _ w).alloc (ay _) _;have hA1:=Blk.new w (l.bW b) 27;obtain⟨ib,hib⟩:∃ib,decide (0≤c∧c<b.cs.length)=ib:=⟨_,rfl⟩
 have hiff:ib=true↔b.bZ c:=by rw[← hib];exact decide_eq_true_iff
 have hidx:=λw'=>wL l.kb b.cs.length l.kc c (by have:=hs.2.2.1;omega) hib w';rw[← tY hiff]at hF ⊢;have hasked:=λw' (h:Below w.heap.size w w')=>yO (hbk.topR.below h) hs hF;generalize b.dR (ib=true) day=F at *;clear hib hiff;unfold Lay.bW at *;gi_enter Tryz.func22,Tryz.ntmps22
 gi_wp2;generalize w.alloc _=W at *;refine dI rfl mixed (by kernel_rfl) (WB W 10 11 fU) 9 (x₀:=undef) rfl ⟨(show Below W.heap.size W { W with drawn:=W.drawn+1 }from⟨rfl,rfl,rfl,ay _,λ_ _=>rfl⟩),λh=>by cases h⟩ ?_;simp only[aF,aC,aG,Nat.reduceAdd,Nat.zero_add,List.range,List.range.loop]
 iterate 2
  refine aV rfl (λ_=>rfl) (by decide) rfl ?_;apply ah;refine⟨λD x w' hm hW K Q hK=>?_,?_⟩
  ·have q:=hA1.below hW.1;have q0:=q.cell 0;have q1:=q.cell 1;have q2:=q.cell 2;have q3:=q.cell 3;simp at q0 q1 q2 q3;simp only[Lift.Act.bG,aj,au,ak];gi_wp2;exact hW.step (by decide) (by decide) (Below.refl _ _)
  apply ah;refine⟨λx=>rfl,?_⟩;refine aV rfl (λ_=>rfl) (by decide) rfl ?_;apply ah;refine⟨λD x w' hm hW K Q hK=>?_,?_⟩
  ·simp only[Lift.Act.bG,aj,au,ak];gi_wp2;exact hW.step (by decide) (by decide) (Below.refl _ _)
  apply ah;refine⟨λx=>rfl,?_⟩
 refine aV rfl (λ_=>rfl) (by decide) rfl ?_;apply ah;refine⟨λD x w' hm hW K Q hK=>?_,?_⟩
 ·simp only[Lift.Act.bG,aj,au,ak]
  gi_wp2_with (gi_at_call 44;refine(hidx _).mono ?_;rintro e w3 ⟨rfl,rfl⟩)
  exact hW.step (by decide) (by decide) (Below.refl _ _)
 apply ah;refine⟨λx=>rfl,?_⟩;refine aV rfl (λ_=>rfl) (by decide) rfl ?_;apply ah;refine⟨λD x w' hm hW K Q hK=>?_,?_⟩
 ·simp only[Lift.Act.bG,aj,au,ak];gi_wp2;exact hW.step (by decide) (by decide) (Below.refl _ _)
 apply ah;refine⟨λx=>rfl,?_⟩;refine aV rfl (λ_=>rfl) (by decide) rfl ?_;apply ah;refine⟨λD x w' hm hW K Q hK=>?_,?_⟩
 ·simp only[Lift.Act.bG,aj,au,ak]
  gi_wp2_with (gi_at_call 43;refine(hasked _ (hb1.trans (hW.1.mono hb1.size))).mono ?_;rintro e w3 ⟨rfl,hb⟩)
  exact hW.step (by decide) (by decide) hb
 iterate 3
  apply ah;refine⟨λx=>rfl,?_⟩;refine aV rfl (λ_=>rfl) (by decide) rfl ?_;apply ah;refine⟨λD x w' hm hW K Q hK=>?_,?_⟩
  ·simp only[Lift.Act.bG,aj,au,ak];gi_wp2;exact hW.step (by decide) (by decide) (Below.refl _ _)
 apply ah;refine⟨λx=>rfl,?_⟩;refine oL rfl (λ_=>rfl) rfl rfl (λD x w' hm hW K Q hK=>jo _ _ _ _ (hK _ _ (WB.make hm (by kernel_rfl) hW))) ?_;refine iV rfl (λ_=>rfl) rfl (λD x w' hm hW K Q hK=>?_) ?_
 ·obtain⟨B,rfl,hB0,hBz,hBk⟩:=WB.store hm (by kernel_rfl) hW;have z0:=hBz.cell 0;have z1:=hBz.cell 1;have z2:=hBz.cell 2;have z3:=hBz.cell 3;have y0:=hBz.frozen 0;have y1:=hBz.frozen 1;have y2:=hBz.frozen 2;have y3:=hBz.frozen 3;simp[fU]at z0 z1 z2 z3;simp only[Lift.Act.bG,aj,au,ak]at hK ⊢;gi_wp2;refine hBk _ ?_ ?_
  ·have:=(((hBz.put 0 (.slice none 0 0)).put 1 (.slice none 0 0)).put 2 (.slice none 0 0)).put 3 (.slice none 0 0);simpa only[fU,aj,au,ak]using this
  ·exact(((hW.1.setCell (p:=⟨B,0,none⟩) hB0 _).setCell (p:=⟨B,1,none⟩) hB0 _).setCell (p:=⟨B,2,none⟩) hB0 _).setCell (p:=⟨B,3,none⟩) hB0 _
 refine aV rfl (λ_=>rfl) (by decide) rfl ?_;apply ah;refine⟨λD x w' hm hW K Q hK=>?_,?_⟩
 ·simp only[Lift.Act.bG,aj,au,ak];gi_wp2;exact hW.step (by decide) (by decide) (Below.refl _ _)
 apply ah;refine⟨λx=>rfl,?_⟩;rintro x w2 ⟨hb2,hx⟩;simp only[Lift.Act.bG,aj,au,ak];gi_wp2
 (try simp only[Exit.inBlock,Exit.then])
 refine bodyPost_ret (results_tmp3 rfl _ _ _) rfl ?_;exact⟨rfl,hb1.trans (hb2.mono hb1.size)⟩
set_option maxHeartbeats 8000000 in
theorem Kept_un{N:Nat}{l:Lay}{b:aN}{w:World}(hbk:bT N l b w)(hs:b.Small){c:Int}(hF:¬b.dR (b.bZ c) 0=0):CallsIn Fz 0 Tryz.prog 24 #[.agg (l.bW b),.int .i64 c] w λe w'=>e=.returned (.tuple #[.int .i64 0,.int .i64 0,.bool false,.int .i64 (b.dR (b.bZ c) 0)])∧Below w.heap.size w w':=by
 have hb1:Below w.heap.size w (w.alloc (.cells (l.bW b) 27)):=(Below.refl _ w).alloc (ay _) _;have hA1:=Blk.new w (l.bW b) 27;obtain⟨ib,hib⟩:∃ib,decide (0≤c∧c<b.cs.length)=ib:=⟨_,rfl⟩
 have hiff:ib=true↔b.bZ c:=by rw[← hib];exact decide_eq_true_iff
 have hidx:=λw'=>wL l.kb b.cs.length l.kc c (by have:=hs.2.2.1;omega) hib w';rw[← tY hiff]at hF ⊢;have hasked:=λw' (h:Below w.heap.size w w')=>yO (hbk.topR.below h) hs hF;generalize b.dR (ib=true) 0=F at *;clear hib hiff;unfold Lay.bW at *;gi_enter Tryz.func24,Tryz.ntmps24
 gi_wp2;generalize w.alloc _=W at *;refine dI rfl mixed (by kernel_rfl) (WB W 9 10 fU) 8 (x₀:=undef) rfl ⟨(show Below W.heap.size W { W with drawn:=W.drawn+1 }from⟨rfl,rfl,rfl,ay _,λ_ _=>rfl⟩),λh=>by cases h⟩ ?_;simp only[aF,aC,aG,Nat.reduceAdd,Nat.zero_add,List.range,List.range.loop]
 iterate 2
  refine aV rfl (λ_=>rfl) (by decide) rfl ?_;apply ah;refine⟨λD x w' hm hW K Q hK=>?_,?_⟩
  ·have q:=hA1.below hW.1;have q0:=q.cell 0;have q1:=q.cell 1;have q2:=q.cell 2;have q3:=q.cell 3;simp at q0 q1 q2 q3;simp only[Lift.Act.bG,aj,au,ak];gi_wp2;exact hW.step (by decide) (by decide) (Below.refl _ _)
  apply ah;refine⟨λx=>rfl,?_⟩;refine aV rfl (λ_=>rfl) (by decide) rfl ?_;apply ah;refine⟨λD x w' hm hW K Q hK=>?_,?_⟩
  ·simp only[Lift.Act.bG,aj,au,ak];gi_wp2;exact hW.step (by decide) (by decide) (Below.refl _ _)
  apply ah;refine⟨λx=>rfl,?_⟩
 refine aV rfl (λ_=>rfl) (by decide) rfl ?_;apply ah;refine⟨λD x w' hm hW K Q hK=>?_,?_⟩
 ·simp only[Lift.Act.bG,aj,au,ak]
  gi_wp2_with (gi_at_call 44;refine(hidx _).mono ?_;rintro e w3 ⟨rfl,rfl⟩)
  exact hW.step (by decide) (by decide) (Below.refl _ _)
 apply ah;refine⟨λx=>rfl,?_⟩;refine aV rfl (λ_=>rfl) (by decide) rfl ?_;apply ah;refine⟨λD x w' hm hW K Q hK=>?_,?_⟩
 ·simp only[Lift.Act.bG,aj,au,ak]
  gi_wp2_with (gi_at_call 43;refine(hasked _ (hb1.trans (hW.1.mono hb1.size))).mono ?_;rintro e w3 ⟨rfl,hb⟩)
  exact hW.step (by decide) (by decide) hb
 iterate 3
  apply ah;refine⟨λx=>rfl,?_⟩;refine aV rfl (λ_=>rfl) (by decide) rfl ?_;apply ah;refine⟨λD x w' hm hW K Q hK=>?_,?_⟩
  ·simp only[Lift.Act.bG,aj,au,ak];gi_wp2;exact hW.step (by decide) (by decide) (Below.refl _ _)
 apply ah;refine⟨λx=>rfl,?_⟩;refine oL rfl (λ_=>rfl) rfl rfl (λD x w' hm hW K Q hK=>jo _ _ _ _ (hK _ _ (WB.make hm (by kernel_rfl) hW))) ?_;refine iV rfl (λ_=>rfl) rfl (λD x w' hm hW K Q hK=>?_) ?_
 ·obtain⟨B,rfl,hB0,hBz,hBk⟩:=WB.store hm (by kernel_rfl) hW;have z0:=hBz.cell 0;have z1:=hBz.cell 1;have z2:=hBz.cell 2;have z3:=hBz.cell 3;have y0:=hBz.frozen 0;have y1:=hBz.frozen 1;have y2:=hBz.frozen 2;have y3:=hBz.frozen 3;simp[fU]at z0 z1 z2 z3;simp only[Lift.Act.bG,aj,au,ak]at hK ⊢;gi_wp2;refine hBk _ ?_ ?_
  ·have:=(((hBz.put 0 (.slice none 0 0)).put 1 (.slice none 0 0)).put 2 (.slice none 0 0)).put 3 (.slice none 0 0);simpa only[fU,aj,au,ak]using this
  ·exact(((hW.1.setCell (p:=⟨B,0,none⟩) hB0 _).setCell (p:=⟨B,1,none⟩) hB0 _).setCell (p:=⟨B,2,none⟩) hB0 _).setCell (p:=⟨B,3,none⟩) hB0 _
 refine aV rfl (λ_=>rfl) (by decide) rfl ?_;apply ah;refine⟨λD x w' hm hW K Q hK=>?_,?_⟩
 ·simp only[Lift.Act.bG,aj,au,ak];gi_wp2;exact hW.step (by decide) (by decide) (Below.refl _ _)
 apply ah;refine⟨λx=>rfl,?_⟩;rintro x w2 ⟨hb2,hx⟩;simp only[Lift.Act.bG,aj,au,ak];gi_wp2
 (try simp only[Exit.inBlock,Exit.then])
 refine bodyPost_ret (kZ rfl _ _ _) rfl ?_;exact⟨rfl,hb1.trans (hb2.mono hb1.size)⟩
theorem KT{b:Book}(hv:Valid b){c:Nat}(hc:c<b.cs.length):(((b.after 9999).cases c).state==1&&((b.after 9999).cases c).held==0)=(((b.after 9999).cases c).state==1):=by
 rcases wC hv 9999 c hc with h|h|h
 ·have h1:((b.after 9999).cases c).state=0:=h.1;rw[h1];rfl
 ·have h1:((b.after 9999).cases c).state=1:=h.1;have h2:((b.after 9999).cases c).held=0:=h.2.1;rw[h1,h2];rfl
 ·have h1:((b.after 9999).cases c).state=2:=h.1;rw[h1];rfl
theorem FeeX_in{N:Nat}{l:Lay}{b:aN}{w:World}(hbk:bT N l b w)(hs:b.Small)(c day:Int):CallsIn Fz 0 Tryz.prog 18 #[.agg (l.bW b),.int .i64 c,.int .i64 day] w λe w'=>e=.returned (.tuple #[.int .i64 (b.fA c day).1,.bool (b.fA c day).2.1,.int .i64 (b.fA c day).2.2])∧Below w.heap.size w w':=by
 by_cases hF:b.dR (b.bZ c) day=0
 ·obtain⟨hf,hc,hd⟩:=jy.1 hF;have hR:=b.jV.1 hf;rw[fA_ok hF];unfold aN.bZ at hc;obtain⟨k,rfl⟩:∃k:Nat,c=k:=⟨c.toNat,by omega⟩
  have hk':k<b.to.cs.length:=by rw[ou];omega
  rw[Int.toNat_natCast,← aN.wZ];exact GR (hbk.to hR) hR.full hk' hd.1 hd.2
 ·rw[fA_no hF];exact Fee_un hbk hs hF
theorem JR{N:Nat}{l:Lay}{b:aN}{w:World}(hbk:bT N l b w)(hs:b.Small)(hkd:bU w)(c day:Int):CallsIn Fz 0 Tryz.prog 22 #[.agg (l.bW b),.int .i64 c,.int .i64 day] w λe w'=>e=.returned (.tuple #[.int .i64 (b.sA c day).1,.int .i64 (b.sA c day).2.1,.int .i64 (b.sA c day).2.2])∧Below w.heap.size w w':=by
 by_cases hF:b.dR (b.bZ c) day=0
 ·obtain⟨hf,hc,hd⟩:=jy.1 hF;have hR:=b.jV.1 hf;rw[sA_ok hF];unfold aN.bZ at hc;obtain⟨k,rfl⟩:∃k:Nat,c=k:=⟨c.toNat,by omega⟩
  have hk':k<b.to.cs.length:=by rw[ou];omega
  rw[Int.toNat_natCast,← aN.wZ];exact yJ (hbk.to hR) hR.full hkd hk' hd.1 hd.2
 ·rw[sA_no hF];exact MI hbk hs hF
theorem MC{N:Nat}{l:Lay}{b:aN}{w:World}(hbk:bT N l b w)(hs:b.Small)(hkd:bU w)(c:Int):CallsIn Fz 0 Tryz.prog 24 #[.agg (l.bW b),.int .i64 c] w λe w'=>e=.returned (.tuple #[.int .i64 (b.kA c).1,.int .i64 (b.kA c).2.1,.bool (b.kA c).2.2.1,.int .i64 (b.kA c).2.2.2])∧Below w.heap.size w w':=by
 by_cases hF:b.dR (b.bZ c) 0=0
 ·obtain⟨hf,hc,hd⟩:=jy.1 hF;have hR:=b.jV.1 hf;rw[kA_ok hF];unfold aN.bZ at hc;obtain⟨k,rfl⟩:∃k:Nat,c=k:=⟨c.toNat,by omega⟩
  have hk':k<b.to.cs.length:=by rw[ou];omega
  rw[Int.toNat_natCast,← aN.wZ];have h:=Jp (hbk.to hR) hR.full hkd hk';rw[KT hR.full.v hk']at h;exact h
 ·rw[kA_no hF];exact Kept_un hbk hs hF
end Go.Proofs.YtnkejaohnhpbpaaGreatDoor
end
section
namespace Go.Proofs.YtnkejaohnhpbpaaGreatDoor
open Go Go.Conc Go.RowKit Lift
set_option maxHeartbeats 16000000 in
set_option maxRecDepth 1000000 in
theorem law3[Keep]{w:World}{l:Lay}{b:aN}(hbk:bT w.heap.size l b w)(hcap:b.coins.length≤l.cc)(hkd:bU w)(hlim:Keep.lim≤w.heap.size){c day:Int} :
  Raw Tryz.prog (ru Tryz.prog 3 Tryz.f3 λv w1 S1=>v=.bool true∧fJ w.heap.size w (λ_=>False) w1 S1) (G (Frame.enter Tryz.prog 3 #[.agg (l.bW b),.int .i64 c,.int .i64 day] .normal) []) w (λ_=>False):=by
 refine Ja fit (by simp) Tryz.func3 rfl ?_;generalize (λ_=>False:Blks)=S;simp only[Tryz.ntmps3,aF,aC,aG,Nat.reduceAdd,Nat.reduceSub,Array.replicate_succ,Array.replicate_zero,List.push_toArray,List.append_toArray,List.nil_append,List.cons_append];refine jf λwa hs=>?_;gi_wp2;have E:lF w S w.heap.size l b wa.heap.size (wa.alloc (.cells (l.bW b) 27)) S:=by
  have hsz:wa.heap.size=w.heap.size:=by rw[hs.heap]
  have hg:Grow w.heap.size w (wa.alloc (.cells (l.bW b) 27)):=hs.grow ((Below.refl w.heap.size wa).alloc (by omega) _);exact⟨hg.s,hbk.grow hg,Blk.new _ _ _,by omega,hkd.grow hg hkd.lt⟩
 clear hs hbk hkd;generalize wa.alloc _=W at *;generalize wa.heap.size=B at *;refine je fit ?_;refine jS E λwb E=>?_;have g0:=E.bx.cell 0;have g1:=E.bx.cell 1;have g2:=E.bx.cell 2;have g3:=E.bx.cell 3;simp at g0 g1 g2 g3;have ltB:=E.bx.lt;have hcall:=JM E.bk
 gi_wp2_with (gi_at_call 16;with_reducible refine hcall.mono ?_;rintro e w2 ⟨⟨r,rfl,hr⟩,hb2⟩;replace E:=E.below hb2;clear hb2)
 clear g0 g1 g2 g3 ltB;clear hcall;cases r with
 |true=>
  refine wz fit (t:=true) rfl ?_;simp only[if_true];refine je fit (pO fit ?_);simp only[aF,aC,aG,Nat.reduceAdd,List.range,List.range.loop];refine pF rfl rfl rfl Tryz.func17 (by kernel_rfl) MV (vals:=#[]) (by simp) (Oy E.kd (Nat.le_trans hlim E.g.size)) ?_;rintro u w5 S5 ⟨rfl,hg5⟩;replace E:=E.grow hg5;clear hg5;refine bD rfl rfl λwr hs=>?_;replace E:=E.same hs;clear hs;gi_wp2;refine nV fit ?_;refine EC fit ?_;exact⟨rfl,.bool true,λτ d=>by rw[results_tmp rfl];rfl,rfl,E.g⟩
 |false=>
  refine wz fit (t:=false) rfl ?_;simp only[Bool.false_eq_true,if_false];refine AA fit ?_;have hs:b.Small:=hr rfl;clear hr;have k18:=λ{w':World} (h:bT w.heap.size l b w')=>FeeX_in h hs c day;have k19:=λ{w':World} (h:bT w.heap.size l b w')=>FeeR_in h hcap hs c day;have k22:=λ{w':World} (h:bT w.heap.size l b w') (hk:bU w')=>JR h hs hk c day;have k23:=λ{w':World} (h:bT w.heap.size l b w')=>JQ h hcap hs c day;have k24:=λ{w':World} (h:bT w.heap.size l b w') (hk:bU w')=>MC h hs hk c;have k25:=λ{w':World} (h:bT w.heap.size l b w')=>MB h hcap hs c;have k20:=λ{w':World} (h:bT w.heap.size l b w')=>check_any h hs;have k21:=λ{w':World} (h:bT w.heap.size l b w')=>xg h hcap (by have:=hs.1;omega) (by have:=hs.2.1;omega) (by have:=hs.2.2.1;omega) (by have:=hs.2.2.2;omega);generalize b.fA c day=fa at k18 k19;generalize b.sA c day=sa at k22 k23;generalize b.kA c=ka at k24 k25;generalize b.gY=fl at k20 k21;obtain⟨fa1,fa2,fa3⟩:=fa;obtain⟨sa1,sa2,sa3⟩:=sa;obtain⟨ka1,ka2,ka3,ka4⟩:=ka;dsimp only at k18 k19 k22 k23 k24 k25;refine jS E λwr E=>?_;have g0:=E.bx.cell 0;have g1:=E.bx.cell 1;have g2:=E.bx.cell 2;have g3:=E.bx.cell 3;simp at g0 g1 g2 g3;have ltB:=E.bx.lt;have hcall:=k18 E.bk
  gi_wp2_with (gi_at_call 18;with_reducible refine hcall.mono ?_;rintro e w4 ⟨rfl,hb4⟩)
  replace E:=E.below hb4;clear hb4 g0 g1 g2 g3 ltB hcall;refine jS E λwr E=>?_;have g0:=E.bx.cell 0;have g1:=E.bx.cell 1;have g2:=E.bx.cell 2;have g3:=E.bx.cell 3;simp at g0 g1 g2 g3;have ltB:=E.bx.lt;have hcall:=k19 E.bk
  gi_wp2_with (gi_at_call 19;with_reducible refine hcall.mono ?_;rintro e w4 ⟨rfl,hb4⟩)
  replace E:=E.below hb4;clear hb4 g0 g1 g2 g3 ltB hcall;refine je fit ?_;refine jS E λw4 E=>?_;refine hideQ λQ' hQ=>?_;refine aZ rfl mixed (by kernel_rfl) (WG0 w4) [] (x₀:=λ_=>undef) (λg hg=>by cases hg) (show Below w4.heap.size w4 { w4 with drawn:=w4.drawn+1 }from⟨rfl,rfl,rfl,ay _,λ_ _=>rfl⟩) ?_;simp only[aF,aC,aG,Nat.reduceAdd,List.range,List.range.loop];refine aP rfl rfl ?_;apply ah;refine⟨λD x w' hm hW K Q hK=>?_,?_⟩
  ·have hb:Below w4.heap.size w4 w':=hW;have q:=E.bx.below hb;have q0:=q.cell 0;have q1:=q.cell 1;have q2:=q.cell 2;have q3:=q.cell 3;simp at q0 q1 q2 q3;have ltq:=q.lt;gi_wp2;exact hW.step (Below.refl _ _)
  refine⟨_,rfl,?_⟩;refine aP rfl rfl ?_;apply ah;refine⟨λD x w' hm hW K Q hK=>?_,?_⟩
  ·have hb:Below w4.heap.size w4 w':=hW;have hcall:=k20 (E.bk.below (hb.mono E.bk.hN))
   gi_wp2_with (gi_at_call 20;with_reducible refine hcall.mono ?_;rintro e w3 ⟨rfl,hb3⟩)
   exact hW.step hb3
  refine⟨_,rfl,?_⟩;refine aP rfl rfl ?_;apply ah;refine⟨λD x w' hm hW K Q hK=>?_,?_⟩
  ·have hb:Below w4.heap.size w4 w':=hW;have q:=E.bx.below hb;have q0:=q.cell 0;have q1:=q.cell 1;have q2:=q.cell 2;have q3:=q.cell 3;simp at q0 q1 q2 q3;have ltq:=q.lt;gi_wp2;exact hW.step (Below.refl _ _)
  refine⟨_,rfl,?_⟩;refine aP rfl rfl ?_;apply ah;refine⟨λD x w' hm hW K Q hK=>?_,?_⟩
  ·have hb:Below w4.heap.size w4 w':=hW;have hcall:=k21 (E.bk.below (hb.mono E.bk.hN))
   gi_wp2_with (gi_at_call 21;with_reducible refine hcall.mono ?_;rintro e w3 ⟨rfl,hb3⟩)
   exact hW.step hb3
  iterate 16
   refine⟨_,rfl,?_⟩;refine aP rfl rfl ?_;apply ah;refine⟨λD x w' hm hW K Q hK=>?_,?_⟩
   ·gi_wp2;exact hW.step (Below.refl _ _)
  refine⟨_,rfl,?_⟩;intro x w5 hW;have hb:Below w4.heap.size w4 w5:=hW;clear hW;simp only[Lift.Act.bK,List.foldl_cons,List.foldl_nil,aj,au,ak];refine hQ _ _ _ ?_;clear hQ;replace E:=E.below hb;clear hb;refine wz fit (t:=false) rfl ?_;simp only[Bool.false_eq_true,if_false];refine AA fit ?_;refine jS E λwr E=>?_;have g0:=E.bx.cell 0;have g1:=E.bx.cell 1;have g2:=E.bx.cell 2;have g3:=E.bx.cell 3;simp at g0 g1 g2 g3;have ltB:=E.bx.lt;have hcall:=k22 E.bk E.kd
  gi_wp2_with (gi_at_call 22;with_reducible refine hcall.mono ?_;rintro e w4 ⟨rfl,hb4⟩)
  replace E:=E.below hb4;clear hb4 g0 g1 g2 g3 ltB hcall;refine jS E λwr E=>?_;have g0:=E.bx.cell 0;have g1:=E.bx.cell 1;have g2:=E.bx.cell 2;have g3:=E.bx.cell 3;simp at g0 g1 g2 g3;have ltB:=E.bx.lt;have hcall:=k23 E.bk
  gi_wp2_with (gi_at_call 23;with_reducible refine hcall.mono ?_;rintro e w4 ⟨rfl,hb4⟩)
  replace E:=E.below hb4;clear hb4 g0 g1 g2 g3 ltB hcall;refine je fit ?_;refine jS E λwr E=>?_;have g0:=E.bx.cell 0;have g1:=E.bx.cell 1;have g2:=E.bx.cell 2;have g3:=E.bx.cell 3;simp at g0 g1 g2 g3;have ltB:=E.bx.lt;gi_wp2;clear g0 g1 g2 g3 ltB;refine wz fit (t:=false) rfl ?_;simp only[Bool.false_eq_true,if_false];refine AA fit ?_;refine jS E λwr E=>?_;have g0:=E.bx.cell 0;have g1:=E.bx.cell 1;have g2:=E.bx.cell 2;have g3:=E.bx.cell 3;simp at g0 g1 g2 g3;have ltB:=E.bx.lt;have hcall:=k24 E.bk E.kd
  gi_wp2_with (gi_at_call 24;with_reducible refine hcall.mono ?_;rintro e w4 ⟨rfl,hb4⟩)
  replace E:=E.below hb4;clear hb4 g0 g1 g2 g3 ltB hcall;refine jS E λwr E=>?_;have g0:=E.bx.cell 0;have g1:=E.bx.cell 1;have g2:=E.bx.cell 2;have g3:=E.bx.cell 3;simp at g0 g1 g2 g3;have ltB:=E.bx.lt;have hcall:=k25 E.bk
  gi_wp2_with (gi_at_call 25;with_reducible refine hcall.mono ?_;rintro e w4 ⟨rfl,hb4⟩)
  replace E:=E.below hb4;clear hb4 g0 g1 g2 g3 ltB hcall;refine je fit (pO fit ?_);simp only[aF,aC,aG,Nat.reduceAdd,List.range,List.range.loop]
  iterate 19
   refine bD rfl rfl λwr hs=>?_;replace E:=E.same hs;clear hs;gi_wp2
  refine pF rfl rfl rfl Tryz.func17 (by kernel_rfl) MV (vals:=#[]) (by simp) (Oy E.kd (Nat.le_trans hlim E.g.size)) ?_;rintro u w5 S5 ⟨rfl,hg5⟩;replace E:=E.grow hg5;clear hg5
  iterate 2
   refine bD rfl rfl λwr hs=>?_;replace E:=E.same hs;clear hs;gi_wp2
  refine nV fit ?_;refine EC fit ?_;exact⟨rfl,.bool true,λτ d=>by rw[results_tmp rfl];rfl,rfl,E.g⟩
end Go.Proofs.YtnkejaohnhpbpaaGreatDoor
end
