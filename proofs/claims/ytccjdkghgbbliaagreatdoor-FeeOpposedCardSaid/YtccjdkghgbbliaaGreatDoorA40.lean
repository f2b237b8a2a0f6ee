/- The specification's checks of papers and dues, on any file: inside the fence. -/
import Derived.Test.YtccjdkghgbbliaaGreatDoorA39
set_option linter.all false
namespace Go.Proofs.YtccjdkghgbbliaaGreatDoor
section
set_option maxHeartbeats 1000000
set_option maxRecDepth 10000
set_option maxHeartbeats 16000000
set_option maxRecDepth 100000
open Go Go.RowKit Lift
theorem bD.xG{α:Type}{N size:Nat}{a:Option Addr}{row:α→List Value}{l:List α}{w:World}(h:bD N a size (l.map row) w){k:Nat}(hk:k<l.length) :
  ∃b o,a=some ⟨b,o,none⟩∧b<N∧∀j v,(row l[k])[j]?=some v→w.cell? ⟨b,o+k * size+j,none⟩=some v:=
 h k _ (by rw[List.getElem?_map,List.getElem?_eq_getElem hk];rfl)
end
section
set_option maxHeartbeats 1000000
set_option maxRecDepth 10000
set_option maxHeartbeats 64000000
set_option maxRecDepth 100000
open Go Go.RowKit Lift
end
section
set_option maxHeartbeats 1000000
set_option maxRecDepth 10000
set_option maxHeartbeats 64000000
set_option maxRecDepth 100000
open Go Go.RowKit Lift
structure Ia.Ig (a:Ia):Prop where
 ps:a.ps.length≤20
 cs:a.cs.length≤20
 ds:a.ds.length≤20
 it:∀c∈a.cs,c.items.length≤20
structure jy.Ig (f:jy):Prop where
 ls:f.ls.length≤20
 ss:f.ss.length≤20
 ap:f.apps.length≤20
 a:∀a∈f.apps,a.Ig
end
section
set_option maxHeartbeats 1000000
set_option maxRecDepth 10000
set_option maxHeartbeats 64000000
set_option maxRecDepth 100000
open Go Go.RowKit Lift
theorem wY.up{N:Nat}{f:jy}{w w':World}(h:wY N f w)(hb:Below w.heap.size w w'):wY N f w':=h.below (hb.mono h.cal.hN)
end
