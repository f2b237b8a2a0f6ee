/- Which files the laws look at: Big, Fit; inside the fence. -/
import Derived.Test.YtccjdkghgbbliaaGreatDoorA16
import Derived.Test.YtccjdkghgbbliaaGreatDoorA40
import Derived.Test.YtccjdkghgbbliaaGreatDoorA41
set_option linter.all false
namespace Go.Proofs.YtccjdkghgbbliaaGreatDoor
section
set_option maxHeartbeats 1000000
set_option maxRecDepth 10000
set_option maxHeartbeats 64000000
set_option maxRecDepth 100000
open Go Go.RowKit Lift
def RetB(e:Ending)(P:Prop):Prop:=∃r:Bool,e=.returned (.bool r)∧(r=false→P)
end
section
set_option maxHeartbeats 1000000
set_option maxRecDepth 10000
set_option maxHeartbeats 64000000
set_option maxRecDepth 100000
open Go Go.RowKit Lift
theorem ask_in{N:Nat}{l:Lay}{b:aO}{w:World}(hbk:bQ N l b w)(hcap:b.aK.length≤l.cc) :
  CallsIn Fz 0 Tryz.prog 8 #[.agg (l.bn b)] w λe w'=>(∃r:Bool,e=.returned (.bool r)∧(r=true→b.Right∧0<b.cs.length))∧Below w.heap.size w w':=by
 have hb1:Below w.heap.size w (w.alloc (.cells (l.bn b) 27)):=(Below.refl _ w).alloc (ak _) _;have hA:=Blk.new w (l.bn b) 27;have hN1:=hbk.below (hb1.mono hbk.hN);have hcall:=Fit_in hN1 hcap;gi_enter Tryz.func8,Tryz.ntmps8
 gi_wp2_with (gi_at_call 28;with_reducible refine hcall.mono ?_;rintro e w2 ⟨⟨r,rfl,hr⟩,hb2⟩;replace hA:=hA.below hb2;replace hb1:=hb1.trans (hb2.mono hb1.size);have g2:=hA.cell 2;simp at g2;have lA:=hA.lt;rcases r with _|_)
 ·go_ret;exact⟨⟨false,rfl,λq=>by cases q⟩,hb1⟩
 ·go_ret;exact⟨⟨_,rfl,λq=>⟨hr (by trivial),by simpa using q⟩⟩,hb1⟩
end
