/- The specification's Fee, State and Kept, on any book: inside the fence. PRINTED BY A PROGRAM (qh.py). -/
import Derived.Test.YtnkejaohnhpbpaaGreatDoorA14
import Derived.Test.YtnkejaohnhpbpaaGreatDoorA15
import Derived.Test.YtnkejaohnhpbpaaGreatDoorA16
import Derived.Test.YtnkejaohnhpbpaaGreatDoorA77
set_option linter.all false
section
namespace Go.Proofs.YtnkejaohnhpbpaaGreatDoor
open Go Go.RowKit Lift
def aN.ji(b:aN)(is:Prop)[Decidable is](day:Int):Int:=if b.eX=0 then(if is then(if 0≤day∧day≤9999 then 0 else 1)else 6)else b.eX
section
variable {b:aN} {is:Prop} [Decidable is] {day:Int}
theorem nI(h:¬b.eX=0):b.ji is day=b.eX:=if_neg h
theorem yB(h:b.eX=0)(hi:¬is):b.ji is day=6:=by unfold aN.ji;rw[if_pos h,if_neg hi]
theorem uJ(h:b.eX=0)(hi:is)(hd:¬(0≤day∧day≤9999)):b.ji is day=1:=by unfold aN.ji;rw[if_pos h,if_pos hi,if_neg hd]
theorem Dj(h:b.eX=0)(hi:is)(hd:0≤day∧day≤9999):b.ji is day=0:=by unfold aN.ji;rw[if_pos h,if_pos hi,if_pos hd]
theorem JZ:b.ji is day=0↔b.eX=0∧is∧0≤day∧day≤9999:=by
 by_cases h:b.eX=0
 ·by_cases hi:is
  ·by_cases hd:0≤day∧day≤9999
   ·exact⟨λ_=>⟨h,hi,hd⟩,λ_=>Dj h hi hd⟩
   ·rw[uJ h hi hd];exact⟨λq=>absurd q (by decide),λq=>absurd q.2.2 hd⟩
  ·rw[yB h hi];exact⟨λq=>absurd q (by decide),λq=>absurd q.2.1 hi⟩
 ·rw[nI h];exact⟨λq=>absurd q h,λq=>absurd q.1 h⟩
end
def aN.xB(b:aN)(c:Int):Prop:=0≤c∧c<b.cs.length
instance (b:aN) (c:Int):Decidable (b.xB c):=by unfold aN.xB;exact inferInstance
def aN.fA(b:aN)(c day:Int):Int×Bool×Int:=if b.ji (b.xB c) day=0 then((b.to.fee c.toNat day).1,(b.to.fee c.toNat day).2,0)else(0,false,b.ji (b.xB c) day)
def aN.sA(b:aN)(c day:Int):Int×Int×Int:=if b.ji (b.xB c) day=0 then(((b.to.after day).cases c.toNat).state,((b.to.after day).cases c.toNat).held,0)else(0,0,b.ji (b.xB c) day)
def aN.kA(b:aN)(c:Int):Int×Int×Bool×Int:=if b.ji (b.xB c) 0=0 then(((b.to.after 9999).cases c.toNat).day,((b.to.after 9999).cases c.toNat).fee,((b.to.after 9999).cases c.toNat).state==1,0)else(0,0,false,b.ji (b.xB c) 0)
end Go.Proofs.YtnkejaohnhpbpaaGreatDoor
end
section
namespace Go.Proofs.YtnkejaohnhpbpaaGreatDoor
open Go Go.RowKit Lift
theorem GU{b:aN}{p q:Prop}[Decidable p][Decidable q](h:p↔q)(day:Int):b.ji p day=b.ji q day:=by
 unfold aN.ji;by_cases hp:p
 ·rw[if_pos hp,if_pos (h.1 hp)]
 ·rw[if_neg hp,if_neg λz=>hp (h.2 z)]
theorem bV.topR{N:Nat}{l:Lay}{b:aN}{w:World}(h:bV N l b w):bV w.heap.size l b w:=h.top
set_option maxHeartbeats 8000000 in
theorem Ew{N:Nat}{l:Lay}{b:aN}{w:World}(hbk:bV N l b w)(hs:b.Small){is:Bool}{day:Int}(hF:¬b.ji (is=true) day=0) :
  CallsIn Fz 0 Tryz.prog 43 #[.agg (l.bY b),.bool is,.int .i64 day] w λe w'=>e=.returned (.tuple #[.agg #[.slice none 0 0,.slice none 0 0,.slice none 0 0,.slice none 0 0],.int .i64 (b.ji (is=true) day)])∧Below w.heap.size w w':=by
 have hb1:Below w.heap.size w (w.alloc (.cells (l.bY b) 27)):=(Below.refl _ w).alloc (ay _) _;have hb2:Below w.heap.size w ((w.alloc (.cells (l.bY b) 27)).alloc (.cells #[.slice none 0 0,.slice none 0 0,.slice none 0 0,.slice none 0 0] 77)):=hb1.alloc (by simp) _;have hT:=Blk.new (w.alloc (.cells (l.bY b) 27)) #[.slice none 0 0,.slice none 0 0,.slice none 0 0,.slice none 0 0] 77;rw[World.size_alloc]at hT;have hc:=check_any (hbk.topR.below hb2) hs;by_cases hf:b.eX=0
 ·cases is with
  |false=>
   have hq:b.ji (false=true) day=6:=yB hf (by decide);rw[hf]at hc;have HQ:=Lib.hid hq;clear hq hF hf;gi_enter Tryz.func43,Tryz.ntmps43
   gi_wp2_with (first
    |(gi_at_call 20;with_reducible refine hc.mono ?_;rintro e w3 ⟨rfl,hb3⟩;have hT3:=hT.below hb3;have t0:=hT3.cell 0;have t1:=hT3.cell 1;have t2:=hT3.cell 2;have t3:=hT3.cell 3;have f0:=hT3.frozen 0;have f1:=hT3.frozen 1;have f2:=hT3.frozen 2;have f3:=hT3.frozen 3;simp at t0 t1 t2 t3;have ltT:=hT3.lt))
   have hF:=(((hT3.put 0 (.slice none 0 0)).put 1 (.slice none 0 0)).put 2 (.slice none 0 0)).put 3 (.slice none 0 0);simp only[aj,au,ak]at hF;have hB4:=(hb2.trans (hb3.mono (by simp;omega)))
   (try simp only[Exit.inBlock,Exit.then])
   refine bodyPost_ret (v:=.tuple #[.agg #[.slice none 0 0,.slice none 0 0,.slice none 0 0,.slice none 0 0],.int .i64 6]) ?_ rfl ⟨by rw[HQ.out],(((hB4.setCell (p:=⟨w.heap.size+1,0,none⟩) (by simp) _).setCell (p:=⟨w.heap.size+1,1,none⟩) (by simp) _).setCell (p:=⟨w.heap.size+1,2,none⟩) (by simp) _).setCell (p:=⟨w.heap.size+1,3,none⟩) (by simp) _⟩;rw[results_cell_tmp rfl];simp[asAddr,Result.andThen,DI hF]
  |true=>
   have hd:¬(0≤day∧day≤9999):=λq=>hF (Dj hf rfl q);have hq:b.ji (true=true) day=1:=uJ hf rfl hd;rw[hf]at hc;have HQ:=Lib.hid hq;clear hq hF hf;gi_enter Tryz.func43,Tryz.ntmps43
   gi_wp2_with (first
    |(gi_at_call 20;with_reducible refine hc.mono ?_;rintro e w3 ⟨rfl,hb3⟩;have hT3:=hT.below hb3;have t0:=hT3.cell 0;have t1:=hT3.cell 1;have t2:=hT3.cell 2;have t3:=hT3.cell 3;have f0:=hT3.frozen 0;have f1:=hT3.frozen 1;have f2:=hT3.frozen 2;have f3:=hT3.frozen 3;simp at t0 t1 t2 t3;have ltT:=hT3.lt)
    |(gi_at_call 75;with_reducible refine(Dz day _ hd).mono ?_;rintro e w4 ⟨rfl,rfl⟩))
   have hF:=(((hT3.put 0 (.slice none 0 0)).put 1 (.slice none 0 0)).put 2 (.slice none 0 0)).put 3 (.slice none 0 0);simp only[aj,au,ak]at hF;have hB4:=(hb2.trans (hb3.mono (by simp;omega)))
   (try simp only[Exit.inBlock,Exit.then])
   refine bodyPost_ret (v:=.tuple #[.agg #[.slice none 0 0,.slice none 0 0,.slice none 0 0,.slice none 0 0],.int .i64 1]) ?_ rfl ⟨by rw[HQ.out],(((hB4.setCell (p:=⟨w.heap.size+1,0,none⟩) (by simp) _).setCell (p:=⟨w.heap.size+1,1,none⟩) (by simp) _).setCell (p:=⟨w.heap.size+1,2,none⟩) (by simp) _).setCell (p:=⟨w.heap.size+1,3,none⟩) (by simp) _⟩;rw[results_cell_tmp rfl];simp[asAddr,Result.andThen,DI hF]
 ·have hq:b.ji (is=true) day=b.eX:=nI hf;generalize b.eX=f at hc hq hf;have HQ:=Lib.hid hq;clear hq hF;gi_enter Tryz.func43,Tryz.ntmps43
  gi_wp2_with (first
   |(gi_at_call 20;with_reducible refine hc.mono ?_;rintro e w3 ⟨rfl,hb3⟩;have hT3:=hT.below hb3;have t0:=hT3.cell 0;have t1:=hT3.cell 1;have t2:=hT3.cell 2;have t3:=hT3.cell 3;have f0:=hT3.frozen 0;have f1:=hT3.frozen 1;have f2:=hT3.frozen 2;have f3:=hT3.frozen 3;simp at t0 t1 t2 t3;have ltT:=hT3.lt))
  have hF:=(((hT3.put 0 (.slice none 0 0)).put 1 (.slice none 0 0)).put 2 (.slice none 0 0)).put 3 (.slice none 0 0);simp only[aj,au,ak]at hF;have hB4:=(hb2.trans (hb3.mono (by simp;omega)))
  (try simp only[Exit.inBlock,Exit.then])
  refine bodyPost_ret (v:=.tuple #[.agg #[.slice none 0 0,.slice none 0 0,.slice none 0 0,.slice none 0 0],.int .i64 f]) ?_ rfl ⟨by rw[HQ.out],(((hB4.setCell (p:=⟨w.heap.size+1,0,none⟩) (by simp) _).setCell (p:=⟨w.heap.size+1,1,none⟩) (by simp) _).setCell (p:=⟨w.heap.size+1,2,none⟩) (by simp) _).setCell (p:=⟨w.heap.size+1,3,none⟩) (by simp) _⟩;rw[results_cell_tmp rfl];simp[asAddr,Result.andThen,DI hF]
end Go.Proofs.YtnkejaohnhpbpaaGreatDoor
end
