/- CheckBook on a book that is right: inside the fence. -/
import Derived.Laws.EntriesVeiled
import Derived.Test.YtccjdkghgbbliaaGreatDoorA09
set_option linter.all false
namespace Go.Proofs.YtccjdkghgbbliaaGreatDoor
section
set_option maxHeartbeats 1000000
set_option maxRecDepth 10000
open Go Go.RowKit Lift
structure Full (b:Book):Prop where
 v:Valid b
 cn:∀s∈b.aN,dB s
 cd:b.aN.Nodup
 tn:∀t∈b.ts,dB t.name
 td:(b.ts.map (·.name)).Nodup
 kn:∀c∈b.cs,dB c.name
 kd:(b.cs.map (·.name)).Nodup
 mv:∀p∈b.ps,p.kind=2→p.bn=b.bn p.cas
theorem dK{A B C:World}{row:Option Nat}(h:A.grownBy B row)(k:B.grownBy C row):A.grownBy C row:=
 ⟨k.os.trans h.os,k.tape.trans h.tape,k.output.trans h.output,Nat.le_trans h.size k.size,λi hi hr=>(k.block i (aA hi h.size) hr).trans (h.block i hi hr)⟩
theorem dJ{A B:World}{row:Option Nat}(h:Below A.heap.size A B):A.grownBy B row:=⟨h.os,h.tape,h.output,h.size,λk hk _=>h.block k hk⟩
theorem sD(A:World)(row:Option Nat):A.grownBy A row:=⟨rfl,rfl,rfl,ak _,λ_ _ _=>rfl⟩
theorem nR{N M:Nat}{A B:World}(h:A.grownBy B (some M))(hN:N≤M)(hs:N≤A.heap.size):Below N A B:=(Below.refl N A).grown h hs (λk e=>by cases e;exact hN)
theorem Blk.gb{A B:World}{k M:Nat}{ty:TypeId}{cs:Array Value}(h:Blk A k ty cs)(hg:A.grownBy B (some M))(hne:k≠M):Blk B k ty cs:=(hg.block k h.lt (by simpa using hne)).trans h
theorem LK{l:List ByteArray}(h:l.Nodup){k:Nat}(hk:k<l.length):l[k]∉l.take k:=λhm=>by
 obtain⟨j,hj,e⟩:=List.mem_iff_getElem.1 hm;rw[List.length_take]at hj;rw[List.getElem_take]at e;have:=List.pairwise_iff_getElem.1 h j k (by omega) hk (by omega);exact this e
end
section
set_option maxHeartbeats 1000000
set_option maxRecDepth 10000
open Go Go.RowKit Lift
abbrev Lay.arr(l:Lay)(b:Book):Array Value:=#[.slice l.cb b.aN.length l.cc,.slice l.tb b.ts.length l.tc,.slice l.kb b.cs.length l.kc,.slice l.pb b.ps.length l.pc]
theorem dU.top{N:Nat}{l:Lay}{b:Book}{w:World}(h:dU N l b w):dU w.heap.size l b w:=by
 have up:∀{base:Option Addr} {size:Nat} {rows:List (List Value)},bC N base size rows w→bC w.heap.size base size rows w:=λh' i r hr=>by
  obtain⟨b',o,h1,h2,h3⟩:=h' i r hr;exact⟨b',o,h1,aA h2 h.hN,h3⟩
 exact⟨ak _,up h.cs,up h.ts,up h.ks,up h.ps⟩
theorem idx870(a b c d:Value)(w:World):(Instr.index 276 (.agg #[a,b,c,d]) (.int .i64 0)).run Tryz.prog w=.ok a w:=by kernel_rfl
theorem idx871(a b c d:Value)(w:World):(Instr.index 276 (.agg #[a,b,c,d]) (.int .i64 1)).run Tryz.prog w=.ok b w:=by kernel_rfl
theorem idx872(a b c d:Value)(w:World):(Instr.index 276 (.agg #[a,b,c,d]) (.int .i64 2)).run Tryz.prog w=.ok c w:=by kernel_rfl
theorem idx873(a b c d:Value)(w:World):(Instr.index 276 (.agg #[a,b,c,d]) (.int .i64 3)).run Tryz.prog w=.ok d w:=by kernel_rfl
end
section
set_option maxHeartbeats 1000000
set_option maxRecDepth 10000
open Go Go.RowKit Lift
structure jr where
 name:ByteArray
 bn:Int
 base:Int
 each:Int
 free:Int
structure fZ where
 name:ByteArray
 tar:Int
 classes:Int
 due:Int
 dW:Int
 extra:Int
structure iG where
 kind:Int
 day:Int
 bn:Int
 amount:Int
 cas:Int
structure aJ where
 aN:List ByteArray
 ts:List jr
 cs:List fZ
 ps:List iG
def jr.row(t:jr):List Value:=[.string t.name,.int .i64 t.bn,.int .i64 t.base,.int .i64 t.each,.int .i64 t.free]
def fZ.row(c:fZ):List Value:=[.string c.name,.int .i64 c.tar,.int .i64 c.classes,.int .i64 c.due,.int .i64 c.dW,.int .i64 c.extra]
def iG.row(p:iG):List Value:=[.int .i64 p.kind,.int .i64 p.day,.int .i64 p.bn,.int .i64 p.amount,.int .i64 p.cas]
abbrev Lay.bP(l:Lay)(b:aJ):Array Value:=#[.slice l.cb b.aN.length l.cc,.slice l.tb b.ts.length l.tc,.slice l.kb b.cs.length l.kc,.slice l.pb b.ps.length l.pc]
structure bW (N:Nat) (l:Lay) (b:aJ) (w:World):Prop where
 hN:N≤w.heap.size
 cs:bC N l.cb 1 (b.aN.map λs=>[.string s]) w
 ts:bC N l.tb 5 (b.ts.map jr.row) w
 ks:bC N l.kb 6 (b.cs.map fZ.row) w
 ps:bC N l.pb 5 (b.ps.map iG.row) w
theorem bW.below{N:Nat}{l:Lay}{b:aJ}{w w':World}(h:bW N l b w)(hb:Below N w w'):bW N l b w':=⟨Nat.le_trans h.hN hb.size,h.cs.below hb,h.ts.below hb,h.ks.below hb,h.ps.below hb⟩
structure RSized (b:aJ):Prop where
 c:(b.aN.length:Int)<9223372036854775807
 t:(b.ts.length:Int)<9223372036854775807
 k:(b.cs.length:Int)<9223372036854775807
 p:(b.ps.length:Int)<9223372036854775807
def aJ.Small(b:aJ):Prop:=b.aN.length≤20∧b.ts.length≤20∧b.cs.length≤20∧b.ps.length≤40
structure aJ.Right (b:aJ):Prop where
 nc:b.aN.length≤3
 cn:∀s∈b.aN,dB s
 cd:b.aN.Nodup
 nt:b.ts.length≤4
 tn:∀t∈b.ts,dB t.name
 td:(b.ts.map (·.name)).Nodup
 t:∀t∈b.ts,(0≤t.bn∧t.bn<b.aN.length)∧(0≤t.base∧t.base≤10000)∧(0≤t.each∧t.each≤10000)∧0≤t.free∧t.free≤45
 nk:b.cs.length≤6
 kn:∀c∈b.cs,dB c.name
 kd:(b.cs.map (·.name)).Nodup
 k:∀c∈b.cs,(0≤c.tar∧c.tar<b.ts.length)∧(0≤c.classes∧c.classes≤45)∧(0≤c.due∧c.due≤9999)∧(0≤c.dW∧c.dW≤999)∧0≤c.extra∧c.extra≤10000
 np:b.ps.length≤10
 p:∀p∈b.ps,(0≤p.kind∧p.kind≤2)∧(0≤p.day∧p.day≤9999)∧(1≤p.amount∧p.amount≤10000)∧(0≤p.bn∧p.bn<b.aN.length)∧(p.kind=1→p.cas=0)∧(p.kind≠1→0≤p.cas∧p.cas<b.cs.length)∧
  (p.kind=2→p.bn=(b.ts.getD (b.cs.getD p.cas.toNat ⟨⟨#[]⟩,0,0,0,0,0⟩).tar.toNat ⟨⟨#[]⟩,0,0,0,0⟩).bn)
def jr.to(t:jr):Trf:=⟨t.name,t.bn.toNat,t.base,t.each,t.free⟩
def fZ.to(c:fZ):Cas:=⟨c.name,c.tar.toNat,c.classes,c.due,c.dW,c.extra⟩
def iG.to(p:iG):Pay:=⟨p.kind.toNat,p.day,p.bn.toNat,p.amount,p.cas.toNat⟩
def aJ.to(b:aJ):Book:=⟨b.aN,b.ts.map jr.to,b.cs.map fZ.to,b.ps.map iG.to⟩
theorem jr.CJ{t:jr}(h:0≤t.bn):t.to.row=t.row:=by
 simp only[Trf.row,jr.row,jr.to,Int.toNat_of_nonneg h]
theorem fZ.CJ{t:fZ}(h:0≤t.tar):t.to.row=t.row:=by
 simp only[Cas.row,fZ.row,fZ.to,Int.toNat_of_nonneg h]
theorem iG.CJ{t:iG}(h:0≤t.kind)(h1:0≤t.bn)(h2:0≤t.cas):t.to.row=t.row:=by
 simp only[Pay.row,iG.row,iG.to,Int.toNat_of_nonneg h,Int.toNat_of_nonneg h1,Int.toNat_of_nonneg h2]
section
variable {b:aJ}
theorem aJ.Right.cas(h:b.Right){p:iG}(hp:p∈b.ps):0≤p.cas:=by
 have:=h.p p hp;by_cases e:p.kind=1
 ·have:=this.2.2.2.2.1 e;omega
 ·have:=this.2.2.2.2.2.1 e;omega
theorem aJ.Right.full(h:b.Right):Full b.to where
 v:={
  nc:=h.nc
  nt:=by simpa[aJ.to]using h.nt
  nk:=by simpa[aJ.to]using h.nk
  np:=by simpa[aJ.to]using h.np
  t:=λt ht=>by
   obtain⟨r,hr,rfl⟩:=List.mem_map.1 ht;have:=h.t r hr;simp only[jr.to,aJ.to];omega
  k:=λt ht=>by
   obtain⟨r,hr,rfl⟩:=List.mem_map.1 ht;have:=h.k r hr;simp only[fZ.to,aJ.to,List.length_map];omega
  p:=λt ht=>by
   obtain⟨r,hr,rfl⟩:=List.mem_map.1 ht;have:=h.p r hr;simp only[iG.to,aJ.to,List.length_map];refine⟨by omega,by omega,by omega,by omega,by omega,by omega,λe=>?_,λe=>?_⟩
   ·have:=this.2.2.2.2.1 (by omega);omega
   ·have:=this.2.2.2.2.2.1 (by omega);omega }
 cn:=h.cn
 cd:=h.cd
 tn:=λt ht=>by obtain⟨r,hr,rfl⟩:=List.mem_map.1 ht;exact h.tn r hr
 td:=by have:=h.td;simpa[aJ.to,jr.to,Function.comp_def]using this
 kn:=λt ht=>by obtain⟨r,hr,rfl⟩:=List.mem_map.1 ht;exact h.kn r hr
 kd:=by have:=h.kd;simpa[aJ.to,fZ.to,Function.comp_def]using this
 mv:=λp hp e=>by
  obtain⟨r,hr,rfl⟩:=List.mem_map.1 hp;have k:=h.p r hr;have hk:r.kind=2:=by simp only[iG.to]at e;omega
  have hc:=k.2.2.2.2.2.1 (by omega);have hm:=k.2.2.2.2.2.2 hk;have hcl:r.cas.toNat<b.cs.length:=by omega
  have e1:b.cs[r.cas.toNat]?=some b.cs[r.cas.toNat]:=by simp
  have ht:=h.k _ (List.mem_of_getElem? e1);have htl:(b.cs[r.cas.toNat]).tar.toNat<b.ts.length:=by omega
  rw[List.getD_eq_getElem?_getD,List.getD_eq_getElem?_getD,e1,Option.getD_some,List.getElem?_eq_getElem htl,Option.getD_some]at hm;simp only[Book.bn,Book.cO,aJ.to,iG.to,List.getD_eq_getElem?_getD,List.getElem?_map,e1,Option.map_some,Option.getD_some,fZ.to,List.getElem?_eq_getElem htl,jr.to];rw[hm]
theorem bW.to{N:Nat}{l:Lay}{w:World}(h:bW N l b w)(hr:b.Right):dU N l b.to w:=by
 refine⟨h.hN,h.cs,?_,?_,?_⟩
 ·have e:b.to.ts.map Trf.row=b.ts.map jr.row:=by
   simp only[aJ.to,List.map_map];exact List.map_congr_left λt ht=>jr.CJ (hr.t t ht).1.1
  rw[e];exact h.ts
 ·have e:b.to.cs.map Cas.row=b.cs.map fZ.row:=by
   simp only[aJ.to,List.map_map];exact List.map_congr_left λt ht=>fZ.CJ (hr.k t ht).1.1
  rw[e];exact h.ks
 ·have e:b.to.ps.map Pay.row=b.ps.map iG.row:=by
   simp only[aJ.to,List.map_map];exact List.map_congr_left λt ht=>iG.CJ (hr.p t ht).1.1 (hr.p t ht).2.2.2.1.1 (hr.cas ht)
  rw[e];exact h.ps
theorem aJ.MX(l:Lay)(b:aJ):l.val b.to=.agg (l.bP b):=by simp[Lay.val,Lay.bP,aJ.to]
end
end
section
set_option maxHeartbeats 1000000
set_option maxRecDepth 10000
open Go Go.RowKit Lift
def aJ.QD(b:aJ)(i:Nat):Prop:=dB (b.aN.getD i ⟨#[]⟩)∧b.aN.getD i ⟨#[]⟩∉b.aN.take i
def aJ.fP(b:aJ)(i:Nat):jr:=b.ts.getD i ⟨⟨#[]⟩,0,0,0,0⟩
def aJ.aP(b:aJ)(i:Nat):fZ:=b.cs.getD i ⟨⟨#[]⟩,0,0,0,0,0⟩
def aJ.aX(b:aJ)(i:Nat):iG:=b.ps.getD i ⟨0,0,0,0,0⟩
def aJ.Tar1(b:aJ)(i:Nat):Prop:=dB (b.fP i).name∧(∀k,k<i→(b.fP k).name≠(b.fP i).name)∧(0≤(b.fP i).bn∧(b.fP i).bn<b.aN.length)∧(0≤(b.fP i).base∧(b.fP i).base≤10000)∧(0≤(b.fP i).each∧(b.fP i).each≤10000)∧0≤(b.fP i).free∧(b.fP i).free≤45
def aJ.Cas1(b:aJ)(i:Nat):Prop:=dB (b.aP i).name∧(∀k,k<i→(b.aP k).name≠(b.aP i).name)∧(0≤(b.aP i).tar∧(b.aP i).tar<b.ts.length)∧(0≤(b.aP i).classes∧(b.aP i).classes≤45)∧(0≤(b.aP i).due∧(b.aP i).due≤9999)∧(0≤(b.aP i).dW∧(b.aP i).dW≤999)∧0≤(b.aP i).extra∧(b.aP i).extra≤10000
def aJ.QJ(b:aJ)(p:iG):Prop:=(0≤p.kind∧p.kind≤2)∧(0≤p.day∧p.day≤9999)∧(1≤p.amount∧p.amount≤10000)∧(0≤p.bn∧p.bn<b.aN.length)∧(p.kind=1→p.cas=0)∧(p.kind≠1→0≤p.cas∧p.cas<b.cs.length)∧
  (p.kind=2→p.bn=(b.fP (b.aP p.cas.toNat).tar.toNat).bn)
def aJ.kD(b:aJ):Prop:=b.aN.length≤3∧∀i,i<b.aN.length→b.QD i
def aJ.qx(b:aJ):Prop:=b.ts.length≤4∧∀i,i<b.ts.length→b.Tar1 i
def aJ.uD(b:aJ):Prop:=b.cs.length≤6∧∀i,i<b.cs.length→b.Cas1 i
def aJ.Kw(b:aJ):Prop:=b.ps.length≤10∧∀i,i<b.ps.length→b.QJ (b.aX i)
theorem Dv{l:List ByteArray}(h:∀(i:Nat) (hi:i<l.length),l[i]∉l.take i):l.Nodup:=
 List.pairwise_iff_getElem.2 λi j hi hj hij e=>h j hj (by
  rw[← e];exact List.mem_iff_getElem.2 ⟨i,by rw[List.length_take];omega,by rw[List.getElem_take]⟩)
theorem gu{b:aJ}{i:Nat}(h:i<b.ts.length):b.fP i=b.ts[i]:=by unfold aJ.fP;rw[List.getD_eq_getElem?_getD,List.getElem?_eq_getElem h];rfl
theorem dS{b:aJ}{i:Nat}(h:i<b.cs.length):b.aP i=b.cs[i]:=by unfold aJ.aP;rw[List.getD_eq_getElem?_getD,List.getElem?_eq_getElem h];rfl
theorem kR{b:aJ}{i:Nat}(h:i<b.ps.length):b.aX i=b.ps[i]:=by unfold aJ.aX;rw[List.getD_eq_getElem?_getD,List.getElem?_eq_getElem h];rfl
theorem lC{b:aJ}{i:Nat}(h:i<b.aN.length):b.aN.getD i ⟨#[]⟩=b.aN[i]:=by rw[List.getD_eq_getElem?_getD,List.getElem?_eq_getElem h];rfl
theorem aJ.Qc(b:aJ):b.Right↔b.kD∧b.qx∧b.uD∧b.Kw:=by
 constructor
 ·intro h;refine⟨⟨h.nc,λi hi=>?_⟩,⟨h.nt,λi hi=>?_⟩,⟨h.nk,λi hi=>?_⟩,⟨h.np,λi hi=>?_⟩⟩
  ·unfold aJ.QD;rw[lC hi];exact⟨h.cn _ (List.getElem_mem hi),LK h.cd hi⟩
  ·unfold aJ.Tar1;have hm:=List.getElem_mem hi;rw[← gu hi]at hm;refine⟨h.tn _ hm,λk hk e=>?_,h.t _ hm⟩;have:=List.pairwise_iff_getElem.1 h.td k i (by simp;omega) (by simpa using hi) hk;rw[List.getElem_map,List.getElem_map,← gu (by omega),← gu hi]at this;exact this e
  ·unfold aJ.Cas1;have hm:=List.getElem_mem hi;rw[← dS hi]at hm;refine⟨h.kn _ hm,λk hk e=>?_,h.k _ hm⟩;have:=List.pairwise_iff_getElem.1 h.kd k i (by simp;omega) (by simpa using hi) hk;rw[List.getElem_map,List.getElem_map,← dS (by omega),← dS hi]at this;exact this e
  ·have hm:=List.getElem_mem hi;rw[← kR hi]at hm;exact h.p _ hm
 ·rintro⟨⟨h1,h2⟩,⟨h3,h4⟩,⟨h5,h6⟩,h7,h8⟩;have getT:∀t∈b.ts,∃i,i<b.ts.length∧b.fP i=t:=λt ht=>by
   obtain⟨i,hi,e⟩:=List.mem_iff_getElem.1 ht;exact⟨i,hi,by rw[gu hi,e]⟩
  have getK:∀t∈b.cs,∃i,i<b.cs.length∧b.aP i=t:=λt ht=>by
   obtain⟨i,hi,e⟩:=List.mem_iff_getElem.1 ht;exact⟨i,hi,by rw[dS hi,e]⟩
  refine⟨h1,λs hs=>?_,Dv λi hi=>?_,h3,λt ht=>?_,?_,λt ht=>?_,h5,λt ht=>?_,?_,λt ht=>?_,h7,λp hp=>?_⟩
  ·obtain⟨i,hi,rfl⟩:=List.mem_iff_getElem.1 hs;have:=(h2 i hi).1;rw[lC hi]at this;exact this
  ·have:=(h2 i hi).2;rw[lC hi]at this;exact this
  ·obtain⟨i,hi,rfl⟩:=getT t ht;exact(h4 i hi).1
  ·refine List.pairwise_iff_getElem.2 λi j hi hj hij e=>?_;rw[List.length_map]at hi hj;rw[List.getElem_map,List.getElem_map,← gu hi,← gu hj]at e;exact(h4 j hj).2.1 i hij e
  ·obtain⟨i,hi,rfl⟩:=getT t ht;exact(h4 i hi).2.2
  ·obtain⟨i,hi,rfl⟩:=getK t ht;exact(h6 i hi).1
  ·refine List.pairwise_iff_getElem.2 λi j hi hj hij e=>?_;rw[List.length_map]at hi hj;rw[List.getElem_map,List.getElem_map,← dS hi,← dS hj]at e;exact(h6 j hj).2.1 i hij e
  ·obtain⟨i,hi,rfl⟩:=getK t ht;exact(h6 i hi).2.2
  ·obtain⟨i,hi,e⟩:=List.mem_iff_getElem.1 hp;have:=h8 i hi;rw[kR hi,e]at this;exact this
theorem LJ(s:ByteArray):dB s↔(s.size≠0∧s.size≤10)∧∀(i:Nat) x,s.data.toList[i]?=some x→(97≤x.toNat∧x.toNat≤122)∨(48≤x.toNat∧x.toNat≤57)∧i≠0:=by
 have key:∀x:UInt8,jA x=true↔(97≤x.toNat∧x.toNat≤122)∨(48≤x.toNat∧x.toNat≤57):=λx=>by
  unfold jA;simp only[Bool.or_eq_true,Bool.and_eq_true,decide_eq_true_eq,UInt8.le_iff_toNat_le];rfl
 constructor
 ·intro h;refine⟨⟨by have:=h.one;omega,h.ten⟩,λi x hx=>?_⟩;rcases(key x).1 (h.all i x hx)with k|k
  ·exact .inl k
  ·refine .inr ⟨k,λe=>?_⟩;subst e;have:=h.first x hx;omega
 ·rintro⟨⟨h1,h2⟩,h3⟩;refine⟨by omega,h2,λx hx=>?_,λj x hx=>(key x).2 ?_⟩
  ·rcases h3 0 x hx with k|k
   ·exact k
   ·exact absurd rfl k.2
  ·rcases h3 j x hx with k|k
   ·exact .inl k
   ·exact .inr k.1
end
section
set_option maxHeartbeats 1000000
set_option maxRecDepth 10000
open Go Go.RowKit Lift
theorem fF{a b:Int}(h:b=a):Ending.returned (.int .i64 a)=.returned (.int .i64 b):=by rw[h]
def dQ(g:Nat→Int):Nat→Int
 |0=>0
 |k+1=>if dQ g k=0 then g k else dQ g k
theorem gG{g:Nat→Int}{k:Nat}(h0:dQ g k=0){f:Int}(hg:g k=f)(hf:f≠0):∀n,k<n→dQ g n=f
 |0,h=>absurd h (by omega)
 |n+1,h=>by
  rw[dQ];by_cases e:k=n
  ·subst e;rw[if_pos h0,hg]
  ·rw[gG h0 hg hf n (by omega),if_neg hf]
theorem gB{g:Nat→Int}{k:Nat}(h0:dQ g k=0)(hg:g k=0):dQ g (k+1)=0:=by rw[dQ,if_pos h0,hg]
theorem qG{g:Nat→Int}:∀n,dQ g n=0↔∀i,i<n→g i=0
 |0=>⟨λ_ i h=>absurd h (by omega),λ_=>rfl⟩
 |n+1=>by
  rw[dQ];constructor
  ·intro h i hi;by_cases q:dQ g n=0
   ·rw[if_pos q]at h;by_cases e:i=n
    ·subst e;exact h
    ·exact(qG n).1 q i (by omega)
   ·rw[if_neg q]at h;exact absurd h q
  ·intro h;rw[if_pos ((qG n).2 λi hi=>h i (by omega))];exact h n (by omega)
def uM(most n:Nat)(g:Nat→Int):Int:=if most<n then 2 else dQ g n
theorem fK{most n:Nat}{g:Nat→Int}(h:most<n):uM most n g=2:=if_pos h
theorem dn{most n:Nat}{g:Nat→Int}(h:¬most<n):uM most n g=dQ g n:=if_neg h
theorem mV{most n:Nat}{g:Nat→Int}:uM most n g=0↔n≤most∧∀i,i<n→g i=0:=by
 by_cases h:most<n
 ·rw[fK h];exact⟨λq=>absurd q (by decide),λq=>absurd q.1 (by omega)⟩
 ·rw[dn h,qG];exact⟨λq=>⟨by omega,q⟩,λq=>q.2⟩
def nmd(s:ByteArray):Bool:=decide (1≤s.size∧s.size≤10)&&(match s.data.toList[0]? with|some x=>decide (97≤x.toNat∧x.toNat≤122)|none=>true)&&s.data.toList.all jA
theorem wu(s:ByteArray):nmd s=true↔dB s:=by
 unfold nmd;rw[Bool.and_eq_true,Bool.and_eq_true,decide_eq_true_eq,List.all_eq_true];constructor
 ·rintro⟨⟨⟨h1,h2⟩,h3⟩,h4⟩;refine⟨h1,h2,λx hx=>?_,λj x hx=>h4 x (List.mem_of_getElem? hx)⟩;rw[hx]at h3;simpa using h3
 ·intro h;refine⟨⟨⟨h.one,h.ten⟩,?_⟩,λx hx=>?_⟩
  ·cases hx:s.data.toList[0]? with
   |none=>rfl
   |some x=>simpa using h.first x hx
  ·obtain⟨j,hj⟩:=List.mem_iff_getElem?.1 hx;exact h.all j x hj
theorem fG{s:ByteArray}(h:dB s):nmd s=true:=(wu s).2 h
theorem Ez{s:ByteArray}(h:¬dB s):nmd s=false:=by
 cases q:nmd s with
 |false=>rfl
 |true=>exact absurd ((wu s).1 q) h
def kC(named rep known ranged:Bool):Int:=if named then(if rep then 5 else if known then(if ranged then 0 else 1)else 6)else 4
section
variable {n r k g:Bool}
theorem ef4(h:n=false):kC n r k g=4:=by subst h;rfl
theorem ef5(h:n=true)(h2:r=true):kC n r k g=5:=by subst h h2;rfl
theorem ef6(h:n=true)(h2:r=false)(h3:k=false):kC n r k g=6:=by subst h h2 h3;rfl
theorem ef1(h:n=true)(h2:r=false)(h3:k=true)(h4:g=false):kC n r k g=1:=by subst h h2 h3 h4;rfl
theorem ef0(h:n=true)(h2:r=false)(h3:k=true)(h4:g=true):kC n r k g=0:=by subst h h2 h3 h4;rfl
theorem uI:kC n r k g=0↔n=true∧r=false∧k=true∧g=true:=by cases n<;>cases r<;>cases k<;>cases g<;>decide
end
theorem dt{p:Prop}[Decidable p](h:p):decide p=true:=decide_eq_true h
theorem df{p:Prop}[Decidable p](h:¬p):decide p=false:=decide_eq_false h
instance decMemBA (s:ByteArray) (l:List ByteArray):Decidable (s∈l):=decidable_of_iff (s.data∈l.map (·.data)) ⟨λh=>by
 obtain⟨x,hx,e⟩:=List.mem_map.1 h;obtain⟨x⟩:=x;obtain⟨s⟩:=s;simp only at e;subst e;exact hx,λh=>List.mem_map.2 ⟨s,h,rfl⟩⟩
def aJ.je(b:aJ)(i:Nat):Int:=kC (nmd (b.aN.getD i ⟨#[]⟩)) (decide (b.aN.getD i ⟨#[]⟩∈b.aN.take i)) true true
abbrev jr.inR(t:jr):Prop:=(0≤t.base∧t.base≤10000)∧(0≤t.each∧t.each≤10000)∧0≤t.free∧t.free≤45
abbrev fZ.inR(c:fZ):Prop:=(0≤c.classes∧c.classes≤45)∧(0≤c.due∧c.due≤9999)∧(0≤c.dW∧c.dW≤999)∧0≤c.extra∧c.extra≤10000
def xQ(nc:Nat)(seen:List ByteArray)(t:jr):Int:=kC (nmd t.name) (decide (t.name∈seen)) (decide (0≤t.bn∧t.bn<nc)) (decide t.inR)
def vO(nt:Nat)(seen:List ByteArray)(c:fZ):Int:=kC (nmd c.name) (decide (c.name∈seen)) (decide (0≤c.tar∧c.tar<nt)) (decide c.inR)
def aJ.lY(b:aJ)(i:Nat):Int:=xQ b.aN.length ((b.ts.take i).map (·.name)) (b.fP i)
def aJ.kZ(b:aJ)(i:Nat):Int:=vO b.ts.length ((b.cs.take i).map (·.name)) (b.aP i)
def aJ.eU(b:aJ)(p:iG):Int:=
 if¬((0≤p.kind∧p.kind≤2)∧(0≤p.day∧p.day≤9999)∧(1≤p.amount∧p.amount≤10000))then 1
 else if¬(0≤p.bn∧p.bn<b.aN.length)then 6
 else if p.kind=1 then(if p.cas=0 then 0 else 1)
 else if¬(0≤p.cas∧p.cas<b.cs.length)then 6
 else if p.kind=2∧p.bn≠(b.fP (b.aP p.cas.toNat).tar.toNat).bn then 10 else 0
def aJ.eP(b:aJ):Int:=uM 3 b.aN.length b.je
def aJ.iD(b:aJ):Int:=uM 4 b.ts.length b.lY
def aJ.iV(b:aJ):Int:=uM 6 b.cs.length b.kZ
def aJ.oJ(b:aJ):Int:=uM 10 b.ps.length λi=>b.eU (b.aX i)
def aJ.mJ(b:aJ):Int:=if b.eP=0 then(if b.iD=0 then(if b.iV=0 then b.oJ else b.iV)else b.iD)else b.eP
theorem mY{α:Type}{f:α→ByteArray}{d:α}{l:List α}{s:ByteArray}{k:Nat}(hk:k≤l.length)(h:∀i,i<k→f (l.getD i d)≠s):s∉(l.take k).map f:=λhm=>by
 obtain⟨x,hx,e⟩:=List.mem_map.1 hm;obtain⟨i,hi,q⟩:=List.mem_iff_getElem.1 hx;rw[List.length_take]at hi;refine h i (by omega) ?_;rw[List.getD_eq_getElem?_getD,List.getElem?_eq_getElem (by omega),Option.getD_some];rw[List.getElem_take]at q;rw[q];exact e
theorem vZ{α:Type}{f:α→ByteArray}{d:α}{l:List α}{s:ByteArray}{k j:Nat}(hk:k≤l.length)(hj:j<k)(h:f (l.getD j d)=s):s∈(l.take k).map f:=by
 rw[List.getD_eq_getElem?_getD,List.getElem?_eq_getElem (by omega),Option.getD_some]at h;exact List.mem_map.2 ⟨l[j],List.mem_iff_getElem.2 ⟨j,by rw[List.length_take];omega,List.getElem_take⟩,h⟩
theorem aJ.jk(b:aJ):b.eP=0↔b.kD:=by
 unfold aJ.eP aJ.kD;rw[mV];refine and_congr Iff.rfl (forall_congr' λi=>imp_congr Iff.rfl ?_);unfold aJ.je aJ.QD;rw[uI,wu,decide_eq_false_iff_not];exact⟨λh=>⟨h.1,h.2.1⟩,λh=>⟨h.1,h.2,rfl,rfl⟩⟩
theorem aJ.mg(b:aJ):b.iD=0↔b.qx:=by
 unfold aJ.iD aJ.qx;rw[mV];refine and_congr Iff.rfl (forall_congr' λi=>forall_congr' λhi=>?_);unfold aJ.lY xQ aJ.Tar1 jr.inR;rw[uI,wu,decide_eq_false_iff_not,decide_eq_true_eq,decide_eq_true_eq];refine and_congr Iff.rfl (and_congr ⟨λh k hk e=>h (vZ (f:=jr.name) (d:=⟨⟨#[]⟩,0,0,0,0⟩) (Nat.le_of_lt hi) hk e),λh=>mY (f:=jr.name) (d:=⟨⟨#[]⟩,0,0,0,0⟩) (Nat.le_of_lt hi) h⟩ Iff.rfl)
theorem aJ.lg(b:aJ):b.iV=0↔b.uD:=by
 unfold aJ.iV aJ.uD;rw[mV];refine and_congr Iff.rfl (forall_congr' λi=>forall_congr' λhi=>?_);unfold aJ.kZ vO aJ.Cas1 fZ.inR;rw[uI,wu,decide_eq_false_iff_not,decide_eq_true_eq,decide_eq_true_eq];refine and_congr Iff.rfl (and_congr ⟨λh k hk e=>h (vZ (f:=fZ.name) (d:=⟨⟨#[]⟩,0,0,0,0,0⟩) (Nat.le_of_lt hi) hk e),λh=>mY (f:=fZ.name) (d:=⟨⟨#[]⟩,0,0,0,0,0⟩) (Nat.le_of_lt hi) h⟩ Iff.rfl)
end
