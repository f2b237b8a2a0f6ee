/- When a term ends, in plain words: a later start and a longer term end no earlier. Nothing of the program stands here. -/
import Derived.Test.YtccjdkghgbbliaaGreatDoorA11
import Derived.Test.YtccjdkghgbbliaaGreatDoorA17
set_option linter.all false
namespace Go.Proofs.YtccjdkghgbbliaaGreatDoor
section
set_option maxHeartbeats 1000000
set_option maxRecDepth 10000
def mlen(M:Nat):Nat:=if M % 12=1 then(if M / 12 % 4=0 then 29 else 28)else if M % 12=3∨M % 12=5∨M % 12=8∨M % 12=10 then 30 else 31
def fm:Nat→Nat
 |0=>0
 |M+1=>fm M+mlen M
def LU:Nat→Nat
 |0=>0
 |n+1=>if fm (LU n+1)≤n+1 then LU n+1 else LU n
def leadM(n c:Nat):Nat:=if 1200≤LU n+c then 36524 else fm (LU n+c)+min (n-fm (LU n)) (mlen (LU n+c)-1)
def leadX(u n c:Nat):Nat:=if u=2 then leadM n c else min 36524 (n+(if u=1 then c * 7 else c))
def nextF(op:Nat→Bool):Nat→Nat→Nat
 |0,_=>36524
 |f+1,n=>if op n then n else nextF op f (n+1)
def nextX(op:Nat→Bool)(n:Nat):Nat:=nextF op (36525-n) n
def endsX(op:Nat→Bool)(u n c:Nat):Nat:=nextX op (leadX u n c)
end
section
set_option maxHeartbeats 1000000
set_option maxRecDepth 10000
open Go Go.RowKit Lift
structure Ie where
 one:Int
 two:Int
structure FB where
 kind:Int
 day:Int
structure xg where
 since:Int
 made:Int
 ia:Option Addr
 items:List Int
 ic:Nat
structure RDue where
 start:Int
 count:Int
 unit:Int
 done:Int
 freed:Int
 asked:Int
structure Ia where
 name:ByteArray
 pa:Option Addr
 ps:List FB
 pc:Nat
 ca:Option Addr
 cs:List xg
 cc:Nat
 da:Option Addr
 ds:List RDue
 dc:Nat
structure jy where
 la:Option Addr
 ls:List Int
 lc:Nat
 sa:Option Addr
 ss:List Ie
 sc:Nat
 kinds:Int
 t0:Int
 u0:Int
 t1:Int
 u1:Int
 t2:Int
 u2:Int
 t3:Int
 u3:Int
 t4:Int
 u4:Int
 items:Int
 aa:Option Addr
 apps:List Ia
 ac:Nat
def zF(l:List Int):List (List Value):=l.map λi=>[.int .i64 i]
def Ie.row(s:Ie):List Value:=[.int .i64 s.one,.int .i64 s.two]
def FB.row(p:FB):List Value:=[.int .i64 p.kind,.int .i64 p.day]
def xg.row(c:xg):List Value:=[.int .i64 c.since,.int .i64 c.made,.slice c.ia c.items.length c.ic]
def RDue.row(d:RDue):List Value:=[.int .i64 d.start,.int .i64 d.count,.int .i64 d.unit,.int .i64 d.done,.int .i64 d.freed,.int .i64 d.asked]
def Ia.row(a:Ia):List Value:=[.string a.name,.slice a.pa a.ps.length a.pc,.slice a.ca a.cs.length a.cc,.slice a.da a.ds.length a.dc]
abbrev jy.cal(f:jy):Array Value:=#[.slice f.la f.ls.length f.lc,.slice f.sa f.ss.length f.sc]
abbrev jy.arr(f:jy):Array Value:=#[.slice f.la f.ls.length f.lc,.slice f.sa f.ss.length f.sc,.int .i64 f.kinds,.int .i64 f.t0,.int .i64 f.u0,.int .i64 f.t1,.int .i64 f.u1,.int .i64 f.t2,.int .i64 f.u2,.int .i64 f.t3,.int .i64 f.u3,.int .i64 f.t4,.int .i64 f.u4,.int .i64 f.items,.slice f.aa f.apps.length f.ac]
structure zA (N:Nat) (c:xg) (w:World):Prop where
 is:bD N c.ia 1 (zF c.items) w
structure Nv (N:Nat) (a:Ia) (w:World):Prop where
 ps:bD N a.pa 2 (a.ps.map FB.row) w
 cs:bD N a.ca 3 (a.cs.map xg.row) w
 cl:∀c∈a.cs,zA N c w
 ds:bD N a.da 6 (a.ds.map RDue.row) w
structure D8 (N:Nat) (f:jy) (w:World):Prop where
 hN:N≤w.heap.size
 ls:bD N f.la 1 (zF f.ls) w
 ss:bD N f.sa 2 (f.ss.map Ie.row) w
structure wY (N:Nat) (f:jy) (w:World):Prop where
 cal:D8 N f w
 rs:bD N f.aa 4 (f.apps.map Ia.row) w
 at_:∀a∈f.apps,Nv N a w
theorem zA.below{N:Nat}{c:xg}{w w':World}(h:zA N c w)(hb:Below N w w'):zA N c w':=⟨h.is.below hb⟩
theorem Nv.below{N:Nat}{a:Ia}{w w':World}(h:Nv N a w)(hb:Below N w w'):Nv N a w':=⟨h.ps.below hb,h.cs.below hb,λc hc=>(h.cl c hc).below hb,h.ds.below hb⟩
theorem D8.below{N:Nat}{f:jy}{w w':World}(h:D8 N f w)(hb:Below N w w'):D8 N f w':=⟨Nat.le_trans h.hN hb.size,h.ls.below hb,h.ss.below hb⟩
theorem wY.below{N:Nat}{f:jy}{w w':World}(h:wY N f w)(hb:Below N w w'):wY N f w':=⟨h.cal.below hb,h.rs.below hb,λa ha=>(h.at_ a ha).below hb⟩
def jy.LK(f:jy)(i:Nat):Int:=f.ls.getD i 0
def jy.ssAt(f:jy)(i:Nat):Ie:=f.ss.getD i ⟨0,0⟩
structure jy.CalOk (f:jy):Prop where
 ls:∀i,i<f.ls.length→0≤f.LK i∧f.LK i≤6
 up:∀i,0<i→i<f.ls.length→f.LK (i-1)<f.LK i
 ns:f.ss.length≤6
 ss:∀i,i<f.ss.length→0≤(f.ssAt i).one∧(f.ssAt i).one≤(f.ssAt i).two∧(f.ssAt i).two≤36524
theorem D8.day{N:Nat}{f:jy}{w:World}(h:D8 N f w){i:Nat}(hi:i<f.ls.length):∃b o,f.la=some ⟨b,o,none⟩∧b<w.heap.size∧∀j,j<f.ls.length→w.cell? ⟨b,o+j,none⟩=some (.int .i64 (f.LK j)):=by
 have hr:∀j,j<f.ls.length→(zF f.ls)[j]?=some [.int .i64 (f.LK j)]:=λj hj=>by
  unfold zF jy.LK;rw[List.getElem?_map,List.getElem?_eq_getElem hj,List.getD_eq_getElem?_getD,List.getElem?_eq_getElem hj];rfl
 obtain⟨b,o,e1,e2,_⟩:=h.ls i _ (hr i hi);refine⟨b,o,e1,aB e2 h.hN,λj hj=>?_⟩;obtain⟨b',o',e1',_,e3'⟩:=h.ls j _ (hr j hj);rw[e1]at e1';cases e1';have:=e3' 0 _ rfl;simpa using this
end
section
set_option maxHeartbeats 1000000
set_option maxRecDepth 10000
open Go Go.RowKit Lift
def termF(c u:Int):Int:=if(0≤c∧c≤999)∧0≤u∧u≤2 then 0 else 1
end
section
set_option maxHeartbeats 1000000
set_option maxRecDepth 10000
set_option maxHeartbeats 16000000
set_option maxRecDepth 100000
open Go Go.RowKit Lift
def RetZ(e:Ending)(P:Prop):Prop:=∃r:Int,e=.returned (.int .i64 r)∧(r=0→P)
theorem RetZ.bad{e:Ending}{P:Prop}(r:Int)(h:e=.returned (.int .i64 r))(hr:r≠0):RetZ e P:=⟨r,h,λq=>absurd q hr⟩
end
