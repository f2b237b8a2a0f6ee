/- The specification's Fee, State and Kept, on any book: inside the fence. PRINTED BY A PROGRAM (qh.py). -/
import Derived.Test.YtnkejaohnhpbpaaGreatDoorA77
set_option linter.all false
namespace Go.Proofs.YtnkejaohnhpbpaaGreatDoor
section
open Go Go.RowKit Lift
def aP.je(b:aP)(is:Prop)[Decidable is](day:Int):Int:=if b.iY=0 then(if is then(if 0≤day∧day≤9999 then 0 else 1)else 6)else b.iY
section
variable {b:aP} {is:Prop} [Decidable is] {day:Int}
theorem mJ(h:¬b.iY=0):b.je is day=b.iY:=if_neg h
theorem Oz(h:b.iY=0)(hi:¬is):b.je is day=6:=by unfold aP.je;rw[if_pos h,if_neg hi]
theorem o9(h:b.iY=0)(hi:is)(hd:¬(0≤day∧day≤9999)):b.je is day=1:=by unfold aP.je;rw[if_pos h,if_pos hi,if_neg hd]
theorem AA(h:b.iY=0)(hi:is)(hd:0≤day∧day≤9999):b.je is day=0:=by unfold aP.je;rw[if_pos h,if_pos hi,if_pos hd]
theorem ER:b.je is day=0↔b.iY=0∧is∧0≤day∧day≤9999:=by
 by_cases h:b.iY=0
 ·by_cases hi:is
  ·by_cases hd:0≤day∧day≤9999
   ·exact⟨λ_=>⟨h,hi,hd⟩,λ_=>AA h hi hd⟩
   ·rw[o9 h hi hd];exact⟨λq=>absurd q (by decide),λq=>absurd q.2.2 hd⟩
  ·rw[Oz h hi];exact⟨λq=>absurd q (by decide),λq=>absurd q.2.1 hi⟩
 ·rw[mJ h];exact⟨λq=>absurd q h,λq=>absurd q.1 h⟩
end
def aP.zL(b:aP)(c:Int):Prop:=0≤c∧c<b.cs.length
instance (b:aP) (c:Int):Decidable (b.zL c):=by unfold aP.zL;exact inferInstance
def aP.fA(b:aP)(c day:Int):Int×Bool×Int:=if b.je (b.zL c) day=0 then((b.to.fee c.toNat day).1,(b.to.fee c.toNat day).2,0)else(0,false,b.je (b.zL c) day)
def aP.sA(b:aP)(c day:Int):Int×Int×Int:=if b.je (b.zL c) day=0 then(((b.to.after day).cases c.toNat).state,((b.to.after day).cases c.toNat).held,0)else(0,0,b.je (b.zL c) day)
def aP.kA(b:aP)(c:Int):Int×Int×Bool×Int:=if b.je (b.zL c) 0=0 then(((b.to.after 9999).cases c.toNat).day,((b.to.after 9999).cases c.toNat).fee,((b.to.after 9999).cases c.toNat).state==1,0)else(0,0,false,b.je (b.zL c) 0)
end
section
open Go Go.RowKit Lift
theorem bU.topR{N:Nat}{l:Lay}{b:aP}{w:World}(h:bU N l b w):bU w.heap.size l b w:=h.top
set_option maxHeartbeats 8000000 in
theorem Jg{N:Nat}{l:Lay}{b:aP}{w:World}(hbk:bU N l b w)(hs:b.Small){is:Bool}{day:Int}(hF:¬b.je (is=true) day=0) :
  CallsIn Fz 0 Tryz.prog 43 #[.agg (l.cu b),.bool is,.int .i64 day] w λe w'=>e=.returned (.tuple #[.agg #[.slice none 0 0,.slice none 0 0,.slice none 0 0,.slice none 0 0],.int .i64 (b.je (is=true) day)])∧Below w.heap.size w w':=by
 have hb1:Below w.heap.size w (w.alloc (.cells (l.cu b) 27)):=(Below.refl _ w).alloc (ay _) _;have hb2:Below w.heap.size w ((w.alloc (.cells (l.cu b) 27)).alloc (.cells #[.slice none 0 0,.slice none 0 0,.slice none 0 0,.slice none 0 0] 77)):=hb1.alloc (by simp) _;have hT:=Blk.new (w.alloc (.cells (l.cu b) 27)) #[.slice none 0 0,.slice none 0 0,.slice none 0 0,.slice none 0 0] 77;rw[World.size_alloc]at hT;have hc:=check_any (hbk.topR.below hb2) hs;by_cases hf:b.iY=0
 ·cases is with
  |false=>
   have hq:b.je (false=true) day=6:=Oz hf (by decide);rw[hf]at hc;have HQ:=Lib.hid hq;clear hq hF hf;gi_enter Tryz.func43,Tryz.ntmps43
   gi_wp2_with (first
    |(gi_at_call 20;with_reducible refine hc.mono ?_;rintro e w3 ⟨rfl,hb3⟩;have ji:=hT.below hb3;have t0:=ji.cell 0;have t1:=ji.cell 1;have t2:=ji.cell 2;have t3:=ji.cell 3;have f0:=ji.frozen 0;have f1:=ji.frozen 1;have f2:=ji.frozen 2;have f3:=ji.frozen 3;simp at t0 t1 t2 t3;have ltT:=ji.lt))
   have hF:=(((ji.put 0 (.slice none 0 0)).put 1 (.slice none 0 0)).put 2 (.slice none 0 0)).put 3 (.slice none 0 0);simp only[aj,au,ak]at hF;have hB4:=(hb2.trans (hb3.mono (by simp;omega)))
   (try simp only[Exit.inBlock,Exit.then])
   refine bodyPost_ret (v:=.tuple #[.agg #[.slice none 0 0,.slice none 0 0,.slice none 0 0,.slice none 0 0],.int .i64 6]) ?_ rfl ⟨by rw[HQ.out],(((hB4.setCell (p:=⟨w.heap.size+1,0,none⟩) (by simp) _).setCell (p:=⟨w.heap.size+1,1,none⟩) (by simp) _).setCell (p:=⟨w.heap.size+1,2,none⟩) (by simp) _).setCell (p:=⟨w.heap.size+1,3,none⟩) (by simp) _⟩;rw[results_cell_tmp rfl];simp[asAddr,Result.andThen,Ie hF]
  |true=>
   have hd:¬(0≤day∧day≤9999):=λq=>hF (AA hf rfl q);have hq:b.je (true=true) day=1:=o9 hf rfl hd;rw[hf]at hc;have HQ:=Lib.hid hq;clear hq hF hf;gi_enter Tryz.func43,Tryz.ntmps43
   gi_wp2_with (first
    |(gi_at_call 20;with_reducible refine hc.mono ?_;rintro e w3 ⟨rfl,hb3⟩;have ji:=hT.below hb3;have t0:=ji.cell 0;have t1:=ji.cell 1;have t2:=ji.cell 2;have t3:=ji.cell 3;have f0:=ji.frozen 0;have f1:=ji.frozen 1;have f2:=ji.frozen 2;have f3:=ji.frozen 3;simp at t0 t1 t2 t3;have ltT:=ji.lt)
    |(gi_at_call 75;with_reducible refine(H7 day _ hd).mono ?_;rintro e w4 ⟨rfl,rfl⟩))
   have hF:=(((ji.put 0 (.slice none 0 0)).put 1 (.slice none 0 0)).put 2 (.slice none 0 0)).put 3 (.slice none 0 0);simp only[aj,au,ak]at hF;have hB4:=(hb2.trans (hb3.mono (by simp;omega)))
   (try simp only[Exit.inBlock,Exit.then])
   refine bodyPost_ret (v:=.tuple #[.agg #[.slice none 0 0,.slice none 0 0,.slice none 0 0,.slice none 0 0],.int .i64 1]) ?_ rfl ⟨by rw[HQ.out],(((hB4.setCell (p:=⟨w.heap.size+1,0,none⟩) (by simp) _).setCell (p:=⟨w.heap.size+1,1,none⟩) (by simp) _).setCell (p:=⟨w.heap.size+1,2,none⟩) (by simp) _).setCell (p:=⟨w.heap.size+1,3,none⟩) (by simp) _⟩;rw[results_cell_tmp rfl];simp[asAddr,Result.andThen,Ie hF]
 ·have hq:b.je (is=true) day=b.iY:=mJ hf;generalize b.iY=f at hc hq hf;have HQ:=Lib.hid hq;clear hq hF;gi_enter Tryz.func43,Tryz.ntmps43
  gi_wp2_with (first
   |(gi_at_call 20;with_reducible refine hc.mono ?_;rintro e w3 ⟨rfl,hb3⟩;have ji:=hT.below hb3;have t0:=ji.cell 0;have t1:=ji.cell 1;have t2:=ji.cell 2;have t3:=ji.cell 3;have f0:=ji.frozen 0;have f1:=ji.frozen 1;have f2:=ji.frozen 2;have f3:=ji.frozen 3;simp at t0 t1 t2 t3;have ltT:=ji.lt))
  have hF:=(((ji.put 0 (.slice none 0 0)).put 1 (.slice none 0 0)).put 2 (.slice none 0 0)).put 3 (.slice none 0 0);simp only[aj,au,ak]at hF;have hB4:=(hb2.trans (hb3.mono (by simp;omega)))
  (try simp only[Exit.inBlock,Exit.then])
  refine bodyPost_ret (v:=.tuple #[.agg #[.slice none 0 0,.slice none 0 0,.slice none 0 0,.slice none 0 0],.int .i64 f]) ?_ rfl ⟨by rw[HQ.out],(((hB4.setCell (p:=⟨w.heap.size+1,0,none⟩) (by simp) _).setCell (p:=⟨w.heap.size+1,1,none⟩) (by simp) _).setCell (p:=⟨w.heap.size+1,2,none⟩) (by simp) _).setCell (p:=⟨w.heap.size+1,3,none⟩) (by simp) _⟩;rw[results_cell_tmp rfl];simp[asAddr,Result.andThen,Ie hF]
end
