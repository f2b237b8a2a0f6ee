/- The specification's check of a table, and whether a table can be asked about: on any table, inside the fence. PRINTED BY A PROGRAM (ge.py). -/
import Derived.Test.YtccjdkghgbbliaaGreatDoorA45
set_option linter.all false
namespace Go.Proofs.YtccjdkghgbbliaaGreatDoor
section
set_option maxHeartbeats 1000000
set_option maxRecDepth 10000
set_option maxHeartbeats 64000000
set_option maxRecDepth 100000
open Go Go.RowKit Lift
structure dN.Ok (t:dN):Prop where
 n1:1≤t.Kt.length
 n3:t.Kt.length≤3
 ed:∀e,e<t.Kt.length→(t.IE e).Ok
 nm:t.mvs.length≤16
 mv:∀i,i<t.mvs.length→t.MoveOk (t.Jl i)∧∀j,j<i→t.Jl j≠t.Jl i
 nk:t.Dt.length≤10
 kn:∀i,i<t.Dt.length→t.KinOk (t.wF i)∧∀j,j<i→(t.wF j).key≠(t.wF i).key
section
variable {N:Nat} {t:dN} {w:World}
structure dN.Ig (t:dN):Prop where
 e:t.Kt.length≤20
 m:t.mvs.length≤20
 k:t.Dt.length≤20
 i:∀j,j<t.Kt.length→(t.IE j).items.length≤20
theorem dN.Ig.fin(h:t.Ig):t.Fin:=⟨by have:=h.e;omega,λe he=>by
 obtain⟨j,hj,rfl⟩:=List.mem_iff_getElem.1 he;have hat:t.IE j=t.Kt[j]:=by unfold dN.IE;rw[List.getD_eq_getElem?_getD,List.getElem?_eq_getElem hj];rfl
 have:=h.i j hj;rw[hat]at this;omega,by have:=h.m;omega,by have:=h.k;omega⟩
def RetBt(e:Ending)(b:Bool)(P:Prop):Prop:=∃q:Bool,e=.returned (.bool q)∧(q=b→P)
end
end
section
set_option maxHeartbeats 1000000
set_option maxRecDepth 10000
set_option maxHeartbeats 64000000
set_option maxRecDepth 100000
open Go Go.RowKit Lift
end
