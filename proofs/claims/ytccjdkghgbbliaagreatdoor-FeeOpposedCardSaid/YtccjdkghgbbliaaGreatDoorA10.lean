/- CheckBook on a book that is right: inside the fence. -/
import Derived.Laws.EntriesVeiled
import Derived.Test.YtccjdkghgbbliaaGreatDoorA09
set_option linter.all false
namespace Go.Proofs.YtccjdkghgbbliaaGreatDoor
section
set_option maxHeartbeats 1000000
set_option maxRecDepth 10000
open Go Go.RowKit Lift
structure Full (b:Book):Prop where
 v:Valid b
 cn:∀s∈b.aK,bY s
 cd:b.aK.Nodup
 tn:∀t∈b.ts,bY t.name
 td:(b.ts.map (·.name)).Nodup
 kn:∀c∈b.cs,bY c.name
 kd:(b.cs.map (·.name)).Nodup
 mv:∀p∈b.ps,p.kind=2→p.bg=b.bg p.cas
theorem dK{A B C:World}{row:Option Nat}(h:A.grownBy B row)(k:B.grownBy C row):A.grownBy C row:=
 ⟨k.os.trans h.os,k.tape.trans h.tape,k.output.trans h.output,Nat.le_trans h.size k.size,λi hi hr=>(k.block i (aB hi h.size) hr).trans (h.block i hi hr)⟩
theorem dJ{A B:World}{row:Option Nat}(h:Below A.heap.size A B):A.grownBy B row:=⟨h.os,h.tape,h.output,h.size,λk hk _=>h.block k hk⟩
theorem rY(A:World)(row:Option Nat):A.grownBy A row:=⟨rfl,rfl,rfl,ak _,λ_ _ _=>rfl⟩
theorem nV{N M:Nat}{A B:World}(h:A.grownBy B (some M))(hN:N≤M)(hs:N≤A.heap.size):Below N A B:=(Below.refl N A).grown h hs (λk e=>by cases e;exact hN)
theorem Blk.gb{A B:World}{k M:Nat}{ty:TypeId}{cs:Array Value}(h:Blk A k ty cs)(hg:A.grownBy B (some M))(hne:k≠M):Blk B k ty cs:=(hg.block k h.lt (by simpa using hne)).trans h
theorem LY{l:List ByteArray}(h:l.Nodup){k:Nat}(hk:k<l.length):l[k]∉l.take k:=λhm=>by
 obtain⟨j,hj,e⟩:=List.mem_iff_getElem.1 hm;rw[List.length_take]at hj;rw[List.getElem_take]at e;have:=List.pairwise_iff_getElem.1 h j k (by omega) hk (by omega);exact this e
end
section
set_option maxHeartbeats 1000000
set_option maxRecDepth 10000
open Go Go.RowKit Lift
abbrev Lay.arr(l:Lay)(b:Book):Array Value:=#[.slice l.cb b.aK.length l.cc,.slice l.tb b.ts.length l.tc,.slice l.kb b.cs.length l.kc,.slice l.pb b.ps.length l.pc]
theorem dZ.top{N:Nat}{l:Lay}{b:Book}{w:World}(h:dZ N l b w):dZ w.heap.size l b w:=by
 have up:∀{base:Option Addr} {size:Nat} {rows:List (List Value)},bD N base size rows w→bD w.heap.size base size rows w:=λh' i r hr=>by
  obtain⟨b',o,h1,h2,h3⟩:=h' i r hr;exact⟨b',o,h1,aB h2 h.hN,h3⟩
 exact⟨ak _,up h.cs,up h.ts,up h.ks,up h.ps⟩
theorem idx870(a b c d:Value)(w:World):(Instr.index 276 (.agg #[a,b,c,d]) (.int .i64 0)).run Tryz.prog w=.ok a w:=by kernel_rfl
theorem idx871(a b c d:Value)(w:World):(Instr.index 276 (.agg #[a,b,c,d]) (.int .i64 1)).run Tryz.prog w=.ok b w:=by kernel_rfl
theorem idx872(a b c d:Value)(w:World):(Instr.index 276 (.agg #[a,b,c,d]) (.int .i64 2)).run Tryz.prog w=.ok c w:=by kernel_rfl
theorem idx873(a b c d:Value)(w:World):(Instr.index 276 (.agg #[a,b,c,d]) (.int .i64 3)).run Tryz.prog w=.ok d w:=by kernel_rfl
end
section
set_option maxHeartbeats 1000000
set_option maxRecDepth 10000
open Go Go.RowKit Lift
structure jA where
 name:ByteArray
 bg:Int
 base:Int
 each:Int
 free:Int
structure jw where
 name:ByteArray
 tar:Int
 classes:Int
 due:Int
 fZ:Int
 extra:Int
structure dI where
 kind:Int
 day:Int
 bg:Int
 amount:Int
 cas:Int
structure aO where
 aK:List ByteArray
 ts:List jA
 cs:List jw
 ps:List dI
def jA.row(t:jA):List Value:=[.string t.name,.int .i64 t.bg,.int .i64 t.base,.int .i64 t.each,.int .i64 t.free]
def jw.row(c:jw):List Value:=[.string c.name,.int .i64 c.tar,.int .i64 c.classes,.int .i64 c.due,.int .i64 c.fZ,.int .i64 c.extra]
def dI.row(p:dI):List Value:=[.int .i64 p.kind,.int .i64 p.day,.int .i64 p.bg,.int .i64 p.amount,.int .i64 p.cas]
abbrev Lay.bn(l:Lay)(b:aO):Array Value:=#[.slice l.cb b.aK.length l.cc,.slice l.tb b.ts.length l.tc,.slice l.kb b.cs.length l.kc,.slice l.pb b.ps.length l.pc]
structure bQ (N:Nat) (l:Lay) (b:aO) (w:World):Prop where
 hN:N≤w.heap.size
 cs:bD N l.cb 1 (b.aK.map λs=>[.string s]) w
 ts:bD N l.tb 5 (b.ts.map jA.row) w
 ks:bD N l.kb 6 (b.cs.map jw.row) w
 ps:bD N l.pb 5 (b.ps.map dI.row) w
theorem bQ.below{N:Nat}{l:Lay}{b:aO}{w w':World}(h:bQ N l b w)(hb:Below N w w'):bQ N l b w':=⟨Nat.le_trans h.hN hb.size,h.cs.below hb,h.ts.below hb,h.ks.below hb,h.ps.below hb⟩
structure RSized (b:aO):Prop where
 c:(b.aK.length:Int)<9223372036854775807
 t:(b.ts.length:Int)<9223372036854775807
 k:(b.cs.length:Int)<9223372036854775807
 p:(b.ps.length:Int)<9223372036854775807
def aO.Small(b:aO):Prop:=b.aK.length≤20∧b.ts.length≤20∧b.cs.length≤20∧b.ps.length≤40
structure aO.Right (b:aO):Prop where
 nc:b.aK.length≤3
 cn:∀s∈b.aK,bY s
 cd:b.aK.Nodup
 nt:b.ts.length≤4
 tn:∀t∈b.ts,bY t.name
 td:(b.ts.map (·.name)).Nodup
 t:∀t∈b.ts,(0≤t.bg∧t.bg<b.aK.length)∧(0≤t.base∧t.base≤10000)∧(0≤t.each∧t.each≤10000)∧0≤t.free∧t.free≤45
 nk:b.cs.length≤6
 kn:∀c∈b.cs,bY c.name
 kd:(b.cs.map (·.name)).Nodup
 k:∀c∈b.cs,(0≤c.tar∧c.tar<b.ts.length)∧(0≤c.classes∧c.classes≤45)∧(0≤c.due∧c.due≤9999)∧(0≤c.fZ∧c.fZ≤999)∧0≤c.extra∧c.extra≤10000
 np:b.ps.length≤10
 p:∀p∈b.ps,(0≤p.kind∧p.kind≤2)∧(0≤p.day∧p.day≤9999)∧(1≤p.amount∧p.amount≤10000)∧(0≤p.bg∧p.bg<b.aK.length)∧(p.kind=1→p.cas=0)∧(p.kind≠1→0≤p.cas∧p.cas<b.cs.length)∧
  (p.kind=2→p.bg=(b.ts.getD (b.cs.getD p.cas.toNat ⟨⟨#[]⟩,0,0,0,0,0⟩).tar.toNat ⟨⟨#[]⟩,0,0,0,0⟩).bg)
def jA.to(t:jA):Trf:=⟨t.name,t.bg.toNat,t.base,t.each,t.free⟩
def jw.to(c:jw):Cas:=⟨c.name,c.tar.toNat,c.classes,c.due,c.fZ,c.extra⟩
def dI.to(p:dI):Pay:=⟨p.kind.toNat,p.day,p.bg.toNat,p.amount,p.cas.toNat⟩
def aO.to(b:aO):Book:=⟨b.aK,b.ts.map jA.to,b.cs.map jw.to,b.ps.map dI.to⟩
theorem jA.CG{t:jA}(h:0≤t.bg):t.to.row=t.row:=by
 simp only[Trf.row,jA.row,jA.to,Int.toNat_of_nonneg h]
theorem jw.CG{t:jw}(h:0≤t.tar):t.to.row=t.row:=by
 simp only[Cas.row,jw.row,jw.to,Int.toNat_of_nonneg h]
theorem dI.CG{t:dI}(h:0≤t.kind)(h1:0≤t.bg)(h2:0≤t.cas):t.to.row=t.row:=by
 simp only[Pay.row,dI.row,dI.to,Int.toNat_of_nonneg h,Int.toNat_of_nonneg h1,Int.toNat_of_nonneg h2]
section
variable {b:aO}
theorem aO.Right.cas(h:b.Right){p:dI}(hp:p∈b.ps):0≤p.cas:=by
 have:=h.p p hp;by_cases e:p.kind=1
 ·have:=this.2.2.2.2.1 e;omega
 ·have:=this.2.2.2.2.2.1 e;omega
theorem aO.Right.full(h:b.Right):Full b.to where
 v:={
  nc:=h.nc
  nt:=by simpa[aO.to]using h.nt
  nk:=by simpa[aO.to]using h.nk
  np:=by simpa[aO.to]using h.np
  t:=λt ht=>by
   obtain⟨r,hr,rfl⟩:=List.mem_map.1 ht;have:=h.t r hr;simp only[jA.to,aO.to];omega
  k:=λt ht=>by
   obtain⟨r,hr,rfl⟩:=List.mem_map.1 ht;have:=h.k r hr;simp only[jw.to,aO.to,List.length_map];omega
  p:=λt ht=>by
   obtain⟨r,hr,rfl⟩:=List.mem_map.1 ht;have:=h.p r hr;simp only[dI.to,aO.to,List.length_map];refine⟨by omega,by omega,by omega,by omega,by omega,by omega,λe=>?_,λe=>?_⟩
   ·have:=this.2.2.2.2.1 (by omega);omega
   ·have:=this.2.2.2.2.2.1 (by omega);omega }
 cn:=h.cn
 cd:=h.cd
 tn:=λt ht=>by obtain⟨r,hr,rfl⟩:=List.mem_map.1 ht;exact h.tn r hr
 td:=by have:=h.td;simpa[aO.to,jA.to,Function.comp_def]using this
 kn:=λt ht=>by obtain⟨r,hr,rfl⟩:=List.mem_map.1 ht;exact h.kn r hr
 kd:=by have:=h.kd;simpa[aO.to,jw.to,Function.comp_def]using this
 mv:=λp hp e=>by
  obtain⟨r,hr,rfl⟩:=List.mem_map.1 hp;have k:=h.p r hr;have hk:r.kind=2:=by simp only[dI.to]at e;omega
  have hc:=k.2.2.2.2.2.1 (by omega);have hm:=k.2.2.2.2.2.2 hk;have hcl:r.cas.toNat<b.cs.length:=by omega
  have e1:b.cs[r.cas.toNat]?=some b.cs[r.cas.toNat]:=by simp
  have ht:=h.k _ (List.mem_of_getElem? e1);have htl:(b.cs[r.cas.toNat]).tar.toNat<b.ts.length:=by omega
  rw[List.getD_eq_getElem?_getD,List.getD_eq_getElem?_getD,e1,Option.getD_some,List.getElem?_eq_getElem htl,Option.getD_some]at hm;simp only[Book.bg,Book.dM,aO.to,dI.to,List.getD_eq_getElem?_getD,List.getElem?_map,e1,Option.map_some,Option.getD_some,jw.to,List.getElem?_eq_getElem htl,jA.to];rw[hm]
theorem bQ.to{N:Nat}{l:Lay}{w:World}(h:bQ N l b w)(hr:b.Right):dZ N l b.to w:=by
 refine⟨h.hN,h.cs,?_,?_,?_⟩
 ·have e:b.to.ts.map Trf.row=b.ts.map jA.row:=by
   simp only[aO.to,List.map_map];exact List.map_congr_left λt ht=>jA.CG (hr.t t ht).1.1
  rw[e];exact h.ts
 ·have e:b.to.cs.map Cas.row=b.cs.map jw.row:=by
   simp only[aO.to,List.map_map];exact List.map_congr_left λt ht=>jw.CG (hr.k t ht).1.1
  rw[e];exact h.ks
 ·have e:b.to.ps.map Pay.row=b.ps.map dI.row:=by
   simp only[aO.to,List.map_map];exact List.map_congr_left λt ht=>dI.CG (hr.p t ht).1.1 (hr.p t ht).2.2.2.1.1 (hr.cas ht)
  rw[e];exact h.ps
theorem aO.to_val(l:Lay)(b:aO):l.val b.to=.agg (l.bn b):=by simp[Lay.val,Lay.bn,aO.to]
end
end
section
set_option maxHeartbeats 1000000
set_option maxRecDepth 10000
open Go Go.RowKit Lift
def aO.QO(b:aO)(i:Nat):Prop:=bY (b.aK.getD i ⟨#[]⟩)∧b.aK.getD i ⟨#[]⟩∉b.aK.take i
def aO.gy(b:aO)(i:Nat):jA:=b.ts.getD i ⟨⟨#[]⟩,0,0,0,0⟩
def aO.aY(b:aO)(i:Nat):jw:=b.cs.getD i ⟨⟨#[]⟩,0,0,0,0,0⟩
def aO.aV(b:aO)(i:Nat):dI:=b.ps.getD i ⟨0,0,0,0,0⟩
def aO.Tar1(b:aO)(i:Nat):Prop:=bY (b.gy i).name∧(∀k,k<i→(b.gy k).name≠(b.gy i).name)∧(0≤(b.gy i).bg∧(b.gy i).bg<b.aK.length)∧(0≤(b.gy i).base∧(b.gy i).base≤10000)∧(0≤(b.gy i).each∧(b.gy i).each≤10000)∧0≤(b.gy i).free∧(b.gy i).free≤45
def aO.Cas1(b:aO)(i:Nat):Prop:=bY (b.aY i).name∧(∀k,k<i→(b.aY k).name≠(b.aY i).name)∧(0≤(b.aY i).tar∧(b.aY i).tar<b.ts.length)∧(0≤(b.aY i).classes∧(b.aY i).classes≤45)∧(0≤(b.aY i).due∧(b.aY i).due≤9999)∧(0≤(b.aY i).fZ∧(b.aY i).fZ≤999)∧0≤(b.aY i).extra∧(b.aY i).extra≤10000
def aO.QY(b:aO)(p:dI):Prop:=(0≤p.kind∧p.kind≤2)∧(0≤p.day∧p.day≤9999)∧(1≤p.amount∧p.amount≤10000)∧(0≤p.bg∧p.bg<b.aK.length)∧(p.kind=1→p.cas=0)∧(p.kind≠1→0≤p.cas∧p.cas<b.cs.length)∧
  (p.kind=2→p.bg=(b.gy (b.aY p.cas.toNat).tar.toNat).bg)
def aO.kD(b:aO):Prop:=b.aK.length≤3∧∀i,i<b.aK.length→b.QO i
def aO.qy(b:aO):Prop:=b.ts.length≤4∧∀i,i<b.ts.length→b.Tar1 i
def aO.uG(b:aO):Prop:=b.cs.length≤6∧∀i,i<b.cs.length→b.Cas1 i
def aO.KA(b:aO):Prop:=b.ps.length≤10∧∀i,i<b.ps.length→b.QY (b.aV i)
theorem Dx{l:List ByteArray}(h:∀(i:Nat) (hi:i<l.length),l[i]∉l.take i):l.Nodup:=
 List.pairwise_iff_getElem.2 λi j hi hj hij e=>h j hj (by
  rw[← e];exact List.mem_iff_getElem.2 ⟨i,by rw[List.length_take];omega,by rw[List.getElem_take]⟩)
theorem gQ{b:aO}{i:Nat}(h:i<b.ts.length):b.gy i=b.ts[i]:=by unfold aO.gy;rw[List.getD_eq_getElem?_getD,List.getElem?_eq_getElem h];rfl
theorem gJ{b:aO}{i:Nat}(h:i<b.cs.length):b.aY i=b.cs[i]:=by unfold aO.aY;rw[List.getD_eq_getElem?_getD,List.getElem?_eq_getElem h];rfl
theorem kS{b:aO}{i:Nat}(h:i<b.ps.length):b.aV i=b.ps[i]:=by unfold aO.aV;rw[List.getD_eq_getElem?_getD,List.getElem?_eq_getElem h];rfl
theorem kZ{b:aO}{i:Nat}(h:i<b.aK.length):b.aK.getD i ⟨#[]⟩=b.aK[i]:=by rw[List.getD_eq_getElem?_getD,List.getElem?_eq_getElem h];rfl
theorem aO.Qn(b:aO):b.Right↔b.kD∧b.qy∧b.uG∧b.KA:=by
 constructor
 ·intro h;refine⟨⟨h.nc,λi hi=>?_⟩,⟨h.nt,λi hi=>?_⟩,⟨h.nk,λi hi=>?_⟩,⟨h.np,λi hi=>?_⟩⟩
  ·unfold aO.QO;rw[kZ hi];exact⟨h.cn _ (List.getElem_mem hi),LY h.cd hi⟩
  ·unfold aO.Tar1;have hm:=List.getElem_mem hi;rw[← gQ hi]at hm;refine⟨h.tn _ hm,λk hk e=>?_,h.t _ hm⟩;have:=List.pairwise_iff_getElem.1 h.td k i (by simp;omega) (by simpa using hi) hk;rw[List.getElem_map,List.getElem_map,← gQ (by omega),← gQ hi]at this;exact this e
  ·unfold aO.Cas1;have hm:=List.getElem_mem hi;rw[← gJ hi]at hm;refine⟨h.kn _ hm,λk hk e=>?_,h.k _ hm⟩;have:=List.pairwise_iff_getElem.1 h.kd k i (by simp;omega) (by simpa using hi) hk;rw[List.getElem_map,List.getElem_map,← gJ (by omega),← gJ hi]at this;exact this e
  ·have hm:=List.getElem_mem hi;rw[← kS hi]at hm;exact h.p _ hm
 ·rintro⟨⟨h1,h2⟩,⟨h3,h4⟩,⟨h5,h6⟩,h7,h8⟩;have getT:∀t∈b.ts,∃i,i<b.ts.length∧b.gy i=t:=λt ht=>by
   obtain⟨i,hi,e⟩:=List.mem_iff_getElem.1 ht;exact⟨i,hi,by rw[gQ hi,e]⟩
  have getK:∀t∈b.cs,∃i,i<b.cs.length∧b.aY i=t:=λt ht=>by
   obtain⟨i,hi,e⟩:=List.mem_iff_getElem.1 ht;exact⟨i,hi,by rw[gJ hi,e]⟩
  refine⟨h1,λs hs=>?_,Dx λi hi=>?_,h3,λt ht=>?_,?_,λt ht=>?_,h5,λt ht=>?_,?_,λt ht=>?_,h7,λp hp=>?_⟩
  ·obtain⟨i,hi,rfl⟩:=List.mem_iff_getElem.1 hs;have:=(h2 i hi).1;rw[kZ hi]at this;exact this
  ·have:=(h2 i hi).2;rw[kZ hi]at this;exact this
  ·obtain⟨i,hi,rfl⟩:=getT t ht;exact(h4 i hi).1
  ·refine List.pairwise_iff_getElem.2 λi j hi hj hij e=>?_;rw[List.length_map]at hi hj;rw[List.getElem_map,List.getElem_map,← gQ hi,← gQ hj]at e;exact(h4 j hj).2.1 i hij e
  ·obtain⟨i,hi,rfl⟩:=getT t ht;exact(h4 i hi).2.2
  ·obtain⟨i,hi,rfl⟩:=getK t ht;exact(h6 i hi).1
  ·refine List.pairwise_iff_getElem.2 λi j hi hj hij e=>?_;rw[List.length_map]at hi hj;rw[List.getElem_map,List.getElem_map,← gJ hi,← gJ hj]at e;exact(h6 j hj).2.1 i hij e
  ·obtain⟨i,hi,rfl⟩:=getK t ht;exact(h6 i hi).2.2
  ·obtain⟨i,hi,e⟩:=List.mem_iff_getElem.1 hp;have:=h8 i hi;rw[kS hi,e]at this;exact this
theorem LX(s:ByteArray):bY s↔(s.size≠0∧s.size≤10)∧∀(i:Nat) x,s.data.toList[i]?=some x→(97≤x.toNat∧x.toNat≤122)∨(48≤x.toNat∧x.toNat≤57)∧i≠0:=by
 have key:∀x:UInt8,jl x=true↔(97≤x.toNat∧x.toNat≤122)∨(48≤x.toNat∧x.toNat≤57):=λx=>by
  unfold jl;simp only[Bool.or_eq_true,Bool.and_eq_true,decide_eq_true_eq,UInt8.le_iff_toNat_le];rfl
 constructor
 ·intro h;refine⟨⟨by have:=h.one;omega,h.ten⟩,λi x hx=>?_⟩;rcases(key x).1 (h.all i x hx)with k|k
  ·exact .inl k
  ·refine .inr ⟨k,λe=>?_⟩;subst e;have:=h.first x hx;omega
 ·rintro⟨⟨h1,h2⟩,h3⟩;refine⟨by omega,h2,λx hx=>?_,λj x hx=>(key x).2 ?_⟩
  ·rcases h3 0 x hx with k|k
   ·exact k
   ·exact absurd rfl k.2
  ·rcases h3 j x hx with k|k
   ·exact .inl k
   ·exact .inr k.1
end
section
set_option maxHeartbeats 1000000
set_option maxRecDepth 10000
open Go Go.RowKit Lift
theorem fJ{a b:Int}(h:b=a):Ending.returned (.int .i64 a)=.returned (.int .i64 b):=by rw[h]
def dU(g:Nat→Int):Nat→Int
 |0=>0
 |k+1=>if dU g k=0 then g k else dU g k
theorem gW{g:Nat→Int}{k:Nat}(h0:dU g k=0){f:Int}(hg:g k=f)(hf:f≠0):∀n,k<n→dU g n=f
 |0,h=>absurd h (by omega)
 |n+1,h=>by
  rw[dU];by_cases e:k=n
  ·subst e;rw[if_pos h0,hg]
  ·rw[gW h0 hg hf n (by omega),if_neg hf]
theorem gU{g:Nat→Int}{k:Nat}(h0:dU g k=0)(hg:g k=0):dU g (k+1)=0:=by rw[dU,if_pos h0,hg]
theorem qF{g:Nat→Int}:∀n,dU g n=0↔∀i,i<n→g i=0
 |0=>⟨λ_ i h=>absurd h (by omega),λ_=>rfl⟩
 |n+1=>by
  rw[dU];constructor
  ·intro h i hi;by_cases q:dU g n=0
   ·rw[if_pos q]at h;by_cases e:i=n
    ·subst e;exact h
    ·exact(qF n).1 q i (by omega)
   ·rw[if_neg q]at h;exact absurd h q
  ·intro h;rw[if_pos ((qF n).2 λi hi=>h i (by omega))];exact h n (by omega)
def uS(most n:Nat)(g:Nat→Int):Int:=if most<n then 2 else dU g n
theorem fU{most n:Nat}{g:Nat→Int}(h:most<n):uS most n g=2:=if_pos h
theorem dA{most n:Nat}{g:Nat→Int}(h:¬most<n):uS most n g=dU g n:=if_neg h
theorem ng{most n:Nat}{g:Nat→Int}:uS most n g=0↔n≤most∧∀i,i<n→g i=0:=by
 by_cases h:most<n
 ·rw[fU h];exact⟨λq=>absurd q (by decide),λq=>absurd q.1 (by omega)⟩
 ·rw[dA h,qF];exact⟨λq=>⟨by omega,q⟩,λq=>q.2⟩
def nmd(s:ByteArray):Bool:=decide (1≤s.size∧s.size≤10)&&(match s.data.toList[0]? with|some x=>decide (97≤x.toNat∧x.toNat≤122)|none=>true)&&s.data.toList.all jl
theorem wH(s:ByteArray):nmd s=true↔bY s:=by
 unfold nmd;rw[Bool.and_eq_true,Bool.and_eq_true,decide_eq_true_eq,List.all_eq_true];constructor
 ·rintro⟨⟨⟨h1,h2⟩,h3⟩,h4⟩;refine⟨h1,h2,λx hx=>?_,λj x hx=>h4 x (List.mem_of_getElem? hx)⟩;rw[hx]at h3;simpa using h3
 ·intro h;refine⟨⟨⟨h.one,h.ten⟩,?_⟩,λx hx=>?_⟩
  ·cases hx:s.data.toList[0]? with
   |none=>rfl
   |some x=>simpa using h.first x hx
  ·obtain⟨j,hj⟩:=List.mem_iff_getElem?.1 hx;exact h.all j x hj
theorem fO{s:ByteArray}(h:bY s):nmd s=true:=(wH s).2 h
theorem EI{s:ByteArray}(h:¬bY s):nmd s=false:=by
 cases q:nmd s with
 |false=>rfl
 |true=>exact absurd ((wH s).1 q) h
def ku(named rep known ranged:Bool):Int:=if named then(if rep then 5 else if known then(if ranged then 0 else 1)else 6)else 4
section
variable {n r k g:Bool}
theorem ef4(h:n=false):ku n r k g=4:=by subst h;rfl
theorem ef5(h:n=true)(h2:r=true):ku n r k g=5:=by subst h h2;rfl
theorem ef6(h:n=true)(h2:r=false)(h3:k=false):ku n r k g=6:=by subst h h2 h3;rfl
theorem ef1(h:n=true)(h2:r=false)(h3:k=true)(h4:g=false):ku n r k g=1:=by subst h h2 h3 h4;rfl
theorem ef0(h:n=true)(h2:r=false)(h3:k=true)(h4:g=true):ku n r k g=0:=by subst h h2 h3 h4;rfl
theorem uO:ku n r k g=0↔n=true∧r=false∧k=true∧g=true:=by cases n<;>cases r<;>cases k<;>cases g<;>decide
end
theorem dt{p:Prop}[Decidable p](h:p):decide p=true:=decide_eq_true h
theorem df{p:Prop}[Decidable p](h:¬p):decide p=false:=decide_eq_false h
instance decMemBA (s:ByteArray) (l:List ByteArray):Decidable (s∈l):=decidable_of_iff (s.data∈l.map (·.data)) ⟨λh=>by
 obtain⟨x,hx,e⟩:=List.mem_map.1 h;obtain⟨x⟩:=x;obtain⟨s⟩:=s;simp only at e;subst e;exact hx,λh=>List.mem_map.2 ⟨s,h,rfl⟩⟩
def aO.jh(b:aO)(i:Nat):Int:=ku (nmd (b.aK.getD i ⟨#[]⟩)) (decide (b.aK.getD i ⟨#[]⟩∈b.aK.take i)) true true
abbrev jA.inR(t:jA):Prop:=(0≤t.base∧t.base≤10000)∧(0≤t.each∧t.each≤10000)∧0≤t.free∧t.free≤45
abbrev jw.inR(c:jw):Prop:=(0≤c.classes∧c.classes≤45)∧(0≤c.due∧c.due≤9999)∧(0≤c.fZ∧c.fZ≤999)∧0≤c.extra∧c.extra≤10000
def xW(nc:Nat)(seen:List ByteArray)(t:jA):Int:=ku (nmd t.name) (decide (t.name∈seen)) (decide (0≤t.bg∧t.bg<nc)) (decide t.inR)
def vW(nt:Nat)(seen:List ByteArray)(c:jw):Int:=ku (nmd c.name) (decide (c.name∈seen)) (decide (0≤c.tar∧c.tar<nt)) (decide c.inR)
def aO.mD(b:aO)(i:Nat):Int:=xW b.aK.length ((b.ts.take i).map (·.name)) (b.gy i)
def aO.kW(b:aO)(i:Nat):Int:=vW b.ts.length ((b.cs.take i).map (·.name)) (b.aY i)
def aO.fB(b:aO)(p:dI):Int:=
 if¬((0≤p.kind∧p.kind≤2)∧(0≤p.day∧p.day≤9999)∧(1≤p.amount∧p.amount≤10000))then 1
 else if¬(0≤p.bg∧p.bg<b.aK.length)then 6
 else if p.kind=1 then(if p.cas=0 then 0 else 1)
 else if¬(0≤p.cas∧p.cas<b.cs.length)then 6
 else if p.kind=2∧p.bg≠(b.gy (b.aY p.cas.toNat).tar.toNat).bg then 10 else 0
def aO.fA(b:aO):Int:=uS 3 b.aK.length b.jh
def aO.iG(b:aO):Int:=uS 4 b.ts.length b.mD
def aO.iV(b:aO):Int:=uS 6 b.cs.length b.kW
def aO.oL(b:aO):Int:=uS 10 b.ps.length λi=>b.fB (b.aV i)
def aO.mV(b:aO):Int:=if b.fA=0 then(if b.iG=0 then(if b.iV=0 then b.oL else b.iV)else b.iG)else b.fA
theorem ni{α:Type}{f:α→ByteArray}{d:α}{l:List α}{s:ByteArray}{k:Nat}(hk:k≤l.length)(h:∀i,i<k→f (l.getD i d)≠s):s∉(l.take k).map f:=λhm=>by
 obtain⟨x,hx,e⟩:=List.mem_map.1 hm;obtain⟨i,hi,q⟩:=List.mem_iff_getElem.1 hx;rw[List.length_take]at hi;refine h i (by omega) ?_;rw[List.getD_eq_getElem?_getD,List.getElem?_eq_getElem (by omega),Option.getD_some];rw[List.getElem_take]at q;rw[q];exact e
theorem wE{α:Type}{f:α→ByteArray}{d:α}{l:List α}{s:ByteArray}{k j:Nat}(hk:k≤l.length)(hj:j<k)(h:f (l.getD j d)=s):s∈(l.take k).map f:=by
 rw[List.getD_eq_getElem?_getD,List.getElem?_eq_getElem (by omega),Option.getD_some]at h;exact List.mem_map.2 ⟨l[j],List.mem_iff_getElem.2 ⟨j,by rw[List.length_take];omega,List.getElem_take⟩,h⟩
theorem aO.jo(b:aO):b.fA=0↔b.kD:=by
 unfold aO.fA aO.kD;rw[ng];refine and_congr Iff.rfl (forall_congr' λi=>imp_congr Iff.rfl ?_);unfold aO.jh aO.QO;rw[uO,wH,decide_eq_false_iff_not];exact⟨λh=>⟨h.1,h.2.1⟩,λh=>⟨h.1,h.2,rfl,rfl⟩⟩
theorem aO.mF(b:aO):b.iG=0↔b.qy:=by
 unfold aO.iG aO.qy;rw[ng];refine and_congr Iff.rfl (forall_congr' λi=>forall_congr' λhi=>?_);unfold aO.mD xW aO.Tar1 jA.inR;rw[uO,wH,decide_eq_false_iff_not,decide_eq_true_eq,decide_eq_true_eq];refine and_congr Iff.rfl (and_congr ⟨λh k hk e=>h (wE (f:=jA.name) (d:=⟨⟨#[]⟩,0,0,0,0⟩) (Nat.le_of_lt hi) hk e),λh=>ni (f:=jA.name) (d:=⟨⟨#[]⟩,0,0,0,0⟩) (Nat.le_of_lt hi) h⟩ Iff.rfl)
theorem aO.kX(b:aO):b.iV=0↔b.uG:=by
 unfold aO.iV aO.uG;rw[ng];refine and_congr Iff.rfl (forall_congr' λi=>forall_congr' λhi=>?_);unfold aO.kW vW aO.Cas1 jw.inR;rw[uO,wH,decide_eq_false_iff_not,decide_eq_true_eq,decide_eq_true_eq];refine and_congr Iff.rfl (and_congr ⟨λh k hk e=>h (wE (f:=jw.name) (d:=⟨⟨#[]⟩,0,0,0,0,0⟩) (Nat.le_of_lt hi) hk e),λh=>ni (f:=jw.name) (d:=⟨⟨#[]⟩,0,0,0,0,0⟩) (Nat.le_of_lt hi) h⟩ Iff.rfl)
end
