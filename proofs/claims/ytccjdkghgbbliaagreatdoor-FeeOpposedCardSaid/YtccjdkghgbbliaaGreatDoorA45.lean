/- Tables of goods, whatever they are, as they lie in memory; a table that comes in as an argument, opened. -/
import Derived.Test.YtccjdkghgbbliaaGreatDoorA40
import Derived.Test.YtccjdkghgbbliaaGreatDoorA44
set_option linter.all false
namespace Go.Proofs.YtccjdkghgbbliaaGreatDoor
section
set_option maxHeartbeats 1000000
set_option maxRecDepth 10000
set_option maxHeartbeats 16000000
set_option maxRecDepth 100000
open Go Go.RowKit Go.ChangeShapes Go.WideShapes Go.Deep Go.Joins Lift
structure Ib where
 name:ByteArray
 cls:Int
structure REd where
 ia:Option Addr
 items:List Ib
 ic:Nat
structure Ea where
 ed:Int
 frm:Int
 to:Int
structure Ic where
 ed:Int
 one:Int
 two:Int
 lvl:Int
structure dN where
 ea:Option Addr
 Kt:List REd
 ec:Nat
 ma:Option Addr
 mvs:List Ea
 mc:Nat
 ka:Option Addr
 Dt:List Ic
 kc:Nat
def Ib.row(i:Ib):List Value:=[.string i.name,.int .i64 i.cls]
def REd.row(e:REd):List Value:=[.slice e.ia e.items.length e.ic]
def Ea.row(m:Ea):List Value:=[.int .i64 m.ed,.int .i64 m.frm,.int .i64 m.to]
def Ic.row(k:Ic):List Value:=[.int .i64 k.ed,.int .i64 k.one,.int .i64 k.two,.int .i64 k.lvl]
abbrev dN.arr(t:dN):Array Value:=#[.slice t.ea t.Kt.length t.ec,.slice t.ma t.mvs.length t.mc,.slice t.ka t.Dt.length t.kc]
def EdAt(N:Nat)(e:REd)(w:World):Prop:=bD N e.ia 2 (e.items.map Ib.row) w
structure jI (N:Nat) (t:dN) (w:World):Prop where
 hN:N≤w.heap.size
 es:bD N t.ea 1 (t.Kt.map REd.row) w
 ed:∀e∈t.Kt,EdAt N e w
 ms:bD N t.ma 3 (t.mvs.map Ea.row) w
 ks:bD N t.ka 4 (t.Dt.map Ic.row) w
theorem jI.below{N:Nat}{t:dN}{w w':World}(h:jI N t w)(hb:Below N w w'):jI N t w':=
 ⟨Nat.le_trans h.hN hb.size,h.es.below hb,λe he=>bD.below (h.ed e he) hb,h.ms.below hb,h.ks.below hb⟩
theorem jI.up{N:Nat}{t:dN}{w w':World}(h:jI N t w)(hb:Below w.heap.size w w'):jI N t w':=h.below (hb.mono h.hN)
section
variable {H:Type} {enc:TypeId×Value→H} {W:World} {spare:Nat→Bool}
end
end
section
set_option maxHeartbeats 1000000
set_option maxRecDepth 10000
set_option maxHeartbeats 64000000
set_option maxRecDepth 100000
open Go Go.RowKit Lift
def REd.at(e:REd)(j:Nat):Ib:=e.items.getD j ⟨⟨#[]⟩,0⟩
structure REd.Ok (e:REd):Prop where
 n:e.items.length≤8
 it:∀j,j<e.items.length→bY (e.at j).name∧1≤(e.at j).cls∧(e.at j).cls≤45
 ne:∀j i,j<e.items.length→i<j→(e.at i).name≠(e.at j).name
end
section
set_option maxHeartbeats 1000000
set_option maxRecDepth 10000
set_option maxHeartbeats 64000000
set_option maxRecDepth 100000
open Go Go.RowKit Lift
def dN.IE(t:dN)(j:Nat):REd:=t.Kt.getD j ⟨none,[],0⟩
def dN.Jl(t:dN)(j:Nat):Ea:=t.mvs.getD j ⟨0,0,0⟩
def dN.wF(t:dN)(j:Nat):Ic:=t.Dt.getD j ⟨0,0,0,0⟩
def dN.many(t:dN)(e:Int):Int:=(t.IE e.toNat).items.length
def dN.MoveOk(t:dN)(m:Ea):Prop:=(0≤m.ed∧m.ed≤t.Kt.length-2)∧(0≤m.frm∧m.frm≤t.many m.ed-1)∧0≤m.to∧m.to≤t.many (m.ed+1)-1
def dN.KinOk(t:dN)(k:Ic):Prop:=(0≤k.ed∧k.ed≤t.Kt.length-1)∧(0≤k.one∧k.one≤t.many k.ed-1)∧(0≤k.two∧k.two≤t.many k.ed-1)∧k.one<k.two∧1≤k.lvl∧k.lvl≤5
def Ic.key(k:Ic):Int×Int×Int:=(k.ed,k.one,k.two)
section
variable {N:Nat} {t:dN} {w:World}
theorem jI.mv(h:jI N t w){e:Nat}(he:e<t.mvs.length):∃b o,t.ma=some ⟨b,o,none⟩∧b<N∧∀i,i<t.mvs.length→w.cell? ⟨b,o+i * 3,none⟩=some (.int .i64 (t.Jl i).ed)∧w.cell? ⟨b,o+i * 3+1,none⟩=some (.int .i64 (t.Jl i).frm)∧w.cell? ⟨b,o+i * 3+2,none⟩=some (.int .i64 (t.Jl i).to):=by
 obtain⟨b,o,e1,e2,_⟩:=bD.xG h.ms he;refine⟨b,o,e1,e2,λi hi=>?_⟩;obtain⟨b',o',e1',_,e3⟩:=bD.xG h.ms hi;rw[e1]at e1';cases e1';have hat:t.Jl i=t.mvs[i]:=by unfold dN.Jl;rw[List.getD_eq_getElem?_getD,List.getElem?_eq_getElem hi];rfl
 rw[hat];exact⟨by simpa using e3 0 _ rfl,e3 1 _ rfl,e3 2 _ rfl⟩
theorem jI.kn(h:jI N t w){e:Nat}(he:e<t.Dt.length):∃b o,t.ka=some ⟨b,o,none⟩∧b<N∧∀i,i<t.Dt.length→w.cell? ⟨b,o+i * 4,none⟩=some (.int .i64 (t.wF i).ed)∧w.cell? ⟨b,o+i * 4+1,none⟩=some (.int .i64 (t.wF i).one)∧w.cell? ⟨b,o+i * 4+2,none⟩=some (.int .i64 (t.wF i).two)∧w.cell? ⟨b,o+i * 4+3,none⟩=some (.int .i64 (t.wF i).lvl):=by
 obtain⟨b,o,e1,e2,_⟩:=bD.xG h.ks he;refine⟨b,o,e1,e2,λi hi=>?_⟩;obtain⟨b',o',e1',_,e3⟩:=bD.xG h.ks hi;rw[e1]at e1';cases e1';have hat:t.wF i=t.Dt[i]:=by unfold dN.wF;rw[List.getD_eq_getElem?_getD,List.getElem?_eq_getElem hi];rfl
 rw[hat];exact⟨by simpa using e3 0 _ rfl,e3 1 _ rfl,e3 2 _ rfl,e3 3 _ rfl⟩
structure dN.Fin (t:dN):Prop where
 e:t.Kt.length<1000000
 i:∀e∈t.Kt,e.items.length<1000000
 m:t.mvs.length<1000000
 k:t.Dt.length<1000000
theorem dN.Fin.at(h:t.Fin){j:Nat}(hj:j<t.Kt.length):(t.IE j).items.length<1000000:=by
 have hat:t.IE j=t.Kt[j]:=by unfold dN.IE;rw[List.getD_eq_getElem?_getD,List.getElem?_eq_getElem hj];rfl
 rw[hat];exact h.i _ (List.getElem_mem hj)
end
end
