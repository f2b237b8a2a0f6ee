/- CheckBook on a book that is right: inside the fence. -/
import Derived.Laws.EntriesVeiled
import Derived.Test.YtnkejaohnhpbpaaGreatDoorA09
set_option linter.all false
namespace Go.Proofs.YtnkejaohnhpbpaaGreatDoor
section
open Go Go.RowKit Lift
structure Full (b:Book):Prop where
 v:Valid b
 cn:∀s∈b.aJ,dY s
 cd:b.aJ.Nodup
 tn:∀t∈b.ts,dY t.name
 td:(b.ts.map (·.name)).Nodup
 kn:∀c∈b.cs,dY c.name
 kd:(b.cs.map (·.name)).Nodup
 mv:∀p∈b.ps,p.kind=2→p.aN=b.aN p.cas
theorem dS{A B C:World}{row:Option Nat}(h:A.grownBy B row)(k:B.grownBy C row):A.grownBy C row:=
 ⟨k.os.trans h.os,k.tape.trans h.tape,k.output.trans h.output,Nat.le_trans h.size k.size,λi hi hr=>(k.block i (aA hi h.size) hr).trans (h.block i hi hr)⟩
theorem dR{A B:World}{row:Option Nat}(h:Below A.heap.size A B):A.grownBy B row:=⟨h.os,h.tape,h.output,h.size,λk hk _=>h.block k hk⟩
theorem uG(A:World)(row:Option Nat):A.grownBy A row:=⟨rfl,rfl,rfl,ay _,λ_ _ _=>rfl⟩
theorem pq{N M:Nat}{A B:World}(h:A.grownBy B (some M))(hN:N≤M)(hs:N≤A.heap.size):Below N A B:=(Below.refl N A).grown h hs (λk e=>by cases e;exact hN)
theorem Blk.gb{A B:World}{k M:Nat}{ty:TypeId}{cs:Array Value}(h:Blk A k ty cs)(hg:A.grownBy B (some M))(hne:k≠M):Blk B k ty cs:=(hg.block k h.lt (by simpa using hne)).trans h
theorem Ns{l:List ByteArray}(h:l.Nodup){k:Nat}(hk:k<l.length):l[k]∉l.take k:=λhm=>by
 obtain⟨j,hj,e⟩:=List.mem_iff_getElem.1 hm;rw[List.length_take]at hj;rw[List.getElem_take]at e;have:=List.pairwise_iff_getElem.1 h j k (by omega) hk (by omega);exact this e
end
section
open Go Go.RowKit Lift
abbrev Lay.arr(l:Lay)(b:Book):Array Value:=#[.slice l.cb b.aJ.length l.cc,.slice l.tb b.ts.length l.tc,.slice l.kb b.cs.length l.kc,.slice l.pb b.ps.length l.pc]
theorem dQ.top{N:Nat}{l:Lay}{b:Book}{w:World}(h:dQ N l b w):dQ w.heap.size l b w:=by
 have up:∀{base:Option Addr} {size:Nat} {rows:List (List Value)},bZ N base size rows w→bZ w.heap.size base size rows w:=λh' i r hr=>by
  obtain⟨b',o,h1,h2,h3⟩:=h' i r hr;exact⟨b',o,h1,aA h2 h.hN,h3⟩
 exact⟨ay _,up h.cs,up h.ts,up h.ks,up h.ps⟩
theorem idx870(a b c d:Value)(w:World):(Instr.index 87 (.agg #[a,b,c,d]) (.int .i64 0)).run Tryz.prog w=.ok a w:=by kernel_rfl
theorem idx871(a b c d:Value)(w:World):(Instr.index 87 (.agg #[a,b,c,d]) (.int .i64 1)).run Tryz.prog w=.ok b w:=by kernel_rfl
theorem idx872(a b c d:Value)(w:World):(Instr.index 87 (.agg #[a,b,c,d]) (.int .i64 2)).run Tryz.prog w=.ok c w:=by kernel_rfl
theorem idx873(a b c d:Value)(w:World):(Instr.index 87 (.agg #[a,b,c,d]) (.int .i64 3)).run Tryz.prog w=.ok d w:=by kernel_rfl
end
section
open Go Go.RowKit Lift
structure jZ where
 name:ByteArray
 aN:Int
 base:Int
 each:Int
 free:Int
structure jY where
 name:ByteArray
 tar:Int
 classes:Int
 due:Int
 gy:Int
 extra:Int
structure dM where
 kind:Int
 day:Int
 aN:Int
 amount:Int
 cas:Int
structure aP where
 aJ:List ByteArray
 ts:List jZ
 cs:List jY
 ps:List dM
def jZ.row(t:jZ):List Value:=[.string t.name,.int .i64 t.aN,.int .i64 t.base,.int .i64 t.each,.int .i64 t.free]
def jY.row(c:jY):List Value:=[.string c.name,.int .i64 c.tar,.int .i64 c.classes,.int .i64 c.due,.int .i64 c.gy,.int .i64 c.extra]
def dM.row(p:dM):List Value:=[.int .i64 p.kind,.int .i64 p.day,.int .i64 p.aN,.int .i64 p.amount,.int .i64 p.cas]
abbrev Lay.cu(l:Lay)(b:aP):Array Value:=#[.slice l.cb b.aJ.length l.cc,.slice l.tb b.ts.length l.tc,.slice l.kb b.cs.length l.kc,.slice l.pb b.ps.length l.pc]
structure bU (N:Nat) (l:Lay) (b:aP) (w:World):Prop where
 hN:N≤w.heap.size
 cs:bZ N l.cb 1 (b.aJ.map λs=>[.string s]) w
 ts:bZ N l.tb 5 (b.ts.map jZ.row) w
 ks:bZ N l.kb 6 (b.cs.map jY.row) w
 ps:bZ N l.pb 5 (b.ps.map dM.row) w
theorem bU.below{N:Nat}{l:Lay}{b:aP}{w w':World}(h:bU N l b w)(hb:Below N w w'):bU N l b w':=⟨Nat.le_trans h.hN hb.size,h.cs.below hb,h.ts.below hb,h.ks.below hb,h.ps.below hb⟩
structure RSized (b:aP):Prop where
 c:(b.aJ.length:Int)<9223372036854775807
 t:(b.ts.length:Int)<9223372036854775807
 k:(b.cs.length:Int)<9223372036854775807
 p:(b.ps.length:Int)<9223372036854775807
def aP.Small(b:aP):Prop:=b.aJ.length≤20∧b.ts.length≤20∧b.cs.length≤20∧b.ps.length≤40
structure aP.Right (b:aP):Prop where
 nc:b.aJ.length≤3
 cn:∀s∈b.aJ,dY s
 cd:b.aJ.Nodup
 nt:b.ts.length≤4
 tn:∀t∈b.ts,dY t.name
 td:(b.ts.map (·.name)).Nodup
 t:∀t∈b.ts,(0≤t.aN∧t.aN<b.aJ.length)∧(0≤t.base∧t.base≤10000)∧(0≤t.each∧t.each≤10000)∧0≤t.free∧t.free≤45
 nk:b.cs.length≤6
 kn:∀c∈b.cs,dY c.name
 kd:(b.cs.map (·.name)).Nodup
 k:∀c∈b.cs,(0≤c.tar∧c.tar<b.ts.length)∧(0≤c.classes∧c.classes≤45)∧(0≤c.due∧c.due≤9999)∧(0≤c.gy∧c.gy≤999)∧0≤c.extra∧c.extra≤10000
 np:b.ps.length≤10
 p:∀p∈b.ps,(0≤p.kind∧p.kind≤2)∧(0≤p.day∧p.day≤9999)∧(1≤p.amount∧p.amount≤10000)∧(0≤p.aN∧p.aN<b.aJ.length)∧(p.kind=1→p.cas=0)∧(p.kind≠1→0≤p.cas∧p.cas<b.cs.length)∧
  (p.kind=2→p.aN=(b.ts.getD (b.cs.getD p.cas.toNat ⟨⟨#[]⟩,0,0,0,0,0⟩).tar.toNat ⟨⟨#[]⟩,0,0,0,0⟩).aN)
def jZ.to(t:jZ):Trf:=⟨t.name,t.aN.toNat,t.base,t.each,t.free⟩
def jY.to(c:jY):Cas:=⟨c.name,c.tar.toNat,c.classes,c.due,c.gy,c.extra⟩
def dM.to(p:dM):Pay:=⟨p.kind.toNat,p.day,p.aN.toNat,p.amount,p.cas.toNat⟩
def aP.to(b:aP):Book:=⟨b.aJ,b.ts.map jZ.to,b.cs.map jY.to,b.ps.map dM.to⟩
theorem jZ.DV{t:jZ}(h:0≤t.aN):t.to.row=t.row:=by
 simp only[Trf.row,jZ.row,jZ.to,Int.toNat_of_nonneg h]
theorem jY.DV{t:jY}(h:0≤t.tar):t.to.row=t.row:=by
 simp only[Cas.row,jY.row,jY.to,Int.toNat_of_nonneg h]
theorem dM.DV{t:dM}(h:0≤t.kind)(h1:0≤t.aN)(h2:0≤t.cas):t.to.row=t.row:=by
 simp only[Pay.row,dM.row,dM.to,Int.toNat_of_nonneg h,Int.toNat_of_nonneg h1,Int.toNat_of_nonneg h2]
section
variable {b:aP}
theorem aP.Right.cas(h:b.Right){p:dM}(hp:p∈b.ps):0≤p.cas:=by
 have:=h.p p hp;by_cases e:p.kind=1
 ·have:=this.2.2.2.2.1 e;omega
 ·have:=this.2.2.2.2.2.1 e;omega
theorem aP.Right.full(h:b.Right):Full b.to where
 v:={
  nc:=h.nc
  nt:=by simpa[aP.to]using h.nt
  nk:=by simpa[aP.to]using h.nk
  np:=by simpa[aP.to]using h.np
  t:=λt ht=>by
   obtain⟨r,hr,rfl⟩:=List.mem_map.1 ht;have:=h.t r hr;simp only[jZ.to,aP.to];omega
  k:=λt ht=>by
   obtain⟨r,hr,rfl⟩:=List.mem_map.1 ht;have:=h.k r hr;simp only[jY.to,aP.to,List.length_map];omega
  p:=λt ht=>by
   obtain⟨r,hr,rfl⟩:=List.mem_map.1 ht;have:=h.p r hr;simp only[dM.to,aP.to,List.length_map];refine⟨by omega,by omega,by omega,by omega,by omega,by omega,λe=>?_,λe=>?_⟩
   ·have:=this.2.2.2.2.1 (by omega);omega
   ·have:=this.2.2.2.2.2.1 (by omega);omega }
 cn:=h.cn
 cd:=h.cd
 tn:=λt ht=>by obtain⟨r,hr,rfl⟩:=List.mem_map.1 ht;exact h.tn r hr
 td:=by have:=h.td;simpa[aP.to,jZ.to,Function.comp_def]using this
 kn:=λt ht=>by obtain⟨r,hr,rfl⟩:=List.mem_map.1 ht;exact h.kn r hr
 kd:=by have:=h.kd;simpa[aP.to,jY.to,Function.comp_def]using this
 mv:=λp hp e=>by
  obtain⟨r,hr,rfl⟩:=List.mem_map.1 hp;have k:=h.p r hr;have hk:r.kind=2:=by simp only[dM.to]at e;omega
  have hc:=k.2.2.2.2.2.1 (by omega);have hm:=k.2.2.2.2.2.2 hk;have hcl:r.cas.toNat<b.cs.length:=by omega
  have e1:b.cs[r.cas.toNat]?=some b.cs[r.cas.toNat]:=by simp
  have ht:=h.k _ (List.mem_of_getElem? e1);have htl:(b.cs[r.cas.toNat]).tar.toNat<b.ts.length:=by omega
  rw[List.getD_eq_getElem?_getD,List.getD_eq_getElem?_getD,e1,Option.getD_some,List.getElem?_eq_getElem htl,Option.getD_some]at hm;simp only[Book.aN,Book.dV,aP.to,dM.to,List.getD_eq_getElem?_getD,List.getElem?_map,e1,Option.map_some,Option.getD_some,jY.to,List.getElem?_eq_getElem htl,jZ.to];rw[hm]
theorem bU.to{N:Nat}{l:Lay}{w:World}(h:bU N l b w)(hr:b.Right):dQ N l b.to w:=by
 refine⟨h.hN,h.cs,?_,?_,?_⟩
 ·have e:b.to.ts.map Trf.row=b.ts.map jZ.row:=by
   simp only[aP.to,List.map_map];exact List.map_congr_left λt ht=>jZ.DV (hr.t t ht).1.1
  rw[e];exact h.ts
 ·have e:b.to.cs.map Cas.row=b.cs.map jY.row:=by
   simp only[aP.to,List.map_map];exact List.map_congr_left λt ht=>jY.DV (hr.k t ht).1.1
  rw[e];exact h.ks
 ·have e:b.to.ps.map Pay.row=b.ps.map dM.row:=by
   simp only[aP.to,List.map_map];exact List.map_congr_left λt ht=>dM.DV (hr.p t ht).1.1 (hr.p t ht).2.2.2.1.1 (hr.cas ht)
  rw[e];exact h.ps
theorem aP.zk(l:Lay)(b:aP):l.val b.to=.agg (l.cu b):=by simp[Lay.val,Lay.cu,aP.to]
end
end
section
open Go Go.RowKit Lift
def aP.RF(b:aP)(i:Nat):Prop:=dY (b.aJ.getD i ⟨#[]⟩)∧b.aJ.getD i ⟨#[]⟩∉b.aJ.take i
def aP.iw(b:aP)(i:Nat):jZ:=b.ts.getD i ⟨⟨#[]⟩,0,0,0,0⟩
def aP.aY(b:aP)(i:Nat):jY:=b.cs.getD i ⟨⟨#[]⟩,0,0,0,0,0⟩
def aP.aO(b:aP)(i:Nat):dM:=b.ps.getD i ⟨0,0,0,0,0⟩
def aP.Tar1(b:aP)(i:Nat):Prop:=dY (b.iw i).name∧(∀k,k<i→(b.iw k).name≠(b.iw i).name)∧(0≤(b.iw i).aN∧(b.iw i).aN<b.aJ.length)∧(0≤(b.iw i).base∧(b.iw i).base≤10000)∧(0≤(b.iw i).each∧(b.iw i).each≤10000)∧0≤(b.iw i).free∧(b.iw i).free≤45
def aP.Cas1(b:aP)(i:Nat):Prop:=dY (b.aY i).name∧(∀k,k<i→(b.aY k).name≠(b.aY i).name)∧(0≤(b.aY i).tar∧(b.aY i).tar<b.ts.length)∧(0≤(b.aY i).classes∧(b.aY i).classes≤45)∧(0≤(b.aY i).due∧(b.aY i).due≤9999)∧(0≤(b.aY i).gy∧(b.aY i).gy≤999)∧0≤(b.aY i).extra∧(b.aY i).extra≤10000
def aP.RN(b:aP)(p:dM):Prop:=(0≤p.kind∧p.kind≤2)∧(0≤p.day∧p.day≤9999)∧(1≤p.amount∧p.amount≤10000)∧(0≤p.aN∧p.aN<b.aJ.length)∧(p.kind=1→p.cas=0)∧(p.kind≠1→0≤p.cas∧p.cas<b.cs.length)∧
  (p.kind=2→p.aN=(b.iw (b.aY p.cas.toNat).tar.toNat).aN)
def aP.lW(b:aP):Prop:=b.aJ.length≤3∧∀i,i<b.aJ.length→b.RF i
def aP.rV(b:aP):Prop:=b.ts.length≤4∧∀i,i<b.ts.length→b.Tar1 i
def aP.wu(b:aP):Prop:=b.cs.length≤6∧∀i,i<b.cs.length→b.Cas1 i
def aP.LG(b:aP):Prop:=b.ps.length≤10∧∀i,i<b.ps.length→b.RN (b.aO i)
theorem Ep{l:List ByteArray}(h:∀(i:Nat) (hi:i<l.length),l[i]∉l.take i):l.Nodup:=
 List.pairwise_iff_getElem.2 λi j hi hj hij e=>h j hj (by
  rw[← e];exact List.mem_iff_getElem.2 ⟨i,by rw[List.length_take];omega,by rw[List.getElem_take]⟩)
theorem iJ{b:aP}{i:Nat}(h:i<b.ts.length):b.iw i=b.ts[i]:=by unfold aP.iw;rw[List.getD_eq_getElem?_getD,List.getElem?_eq_getElem h];rfl
theorem iH{b:aP}{i:Nat}(h:i<b.cs.length):b.aY i=b.cs[i]:=by unfold aP.aY;rw[List.getD_eq_getElem?_getD,List.getElem?_eq_getElem h];rfl
theorem uP{b:aP}{i:Nat}(h:i<b.ps.length):b.aO i=b.ps[i]:=by unfold aP.aO;rw[List.getD_eq_getElem?_getD,List.getElem?_eq_getElem h];rfl
theorem nH{b:aP}{i:Nat}(h:i<b.aJ.length):b.aJ.getD i ⟨#[]⟩=b.aJ[i]:=by rw[List.getD_eq_getElem?_getD,List.getElem?_eq_getElem h];rfl
theorem aP.QS(b:aP):b.Right↔b.lW∧b.rV∧b.wu∧b.LG:=by
 constructor
 ·intro h;refine⟨⟨h.nc,λi hi=>?_⟩,⟨h.nt,λi hi=>?_⟩,⟨h.nk,λi hi=>?_⟩,⟨h.np,λi hi=>?_⟩⟩
  ·unfold aP.RF;rw[nH hi];exact⟨h.cn _ (List.getElem_mem hi),Ns h.cd hi⟩
  ·unfold aP.Tar1;have hm:=List.getElem_mem hi;rw[← iJ hi]at hm;refine⟨h.tn _ hm,λk hk e=>?_,h.t _ hm⟩;have:=List.pairwise_iff_getElem.1 h.td k i (by simp;omega) (by simpa using hi) hk;rw[List.getElem_map,List.getElem_map,← iJ (by omega),← iJ hi]at this;exact this e
  ·unfold aP.Cas1;have hm:=List.getElem_mem hi;rw[← iH hi]at hm;refine⟨h.kn _ hm,λk hk e=>?_,h.k _ hm⟩;have:=List.pairwise_iff_getElem.1 h.kd k i (by simp;omega) (by simpa using hi) hk;rw[List.getElem_map,List.getElem_map,← iH (by omega),← iH hi]at this;exact this e
  ·have hm:=List.getElem_mem hi;rw[← uP hi]at hm;exact h.p _ hm
 ·rintro⟨⟨h1,h2⟩,⟨h3,h4⟩,⟨h5,h6⟩,h7,h8⟩;have getT:∀t∈b.ts,∃i,i<b.ts.length∧b.iw i=t:=λt ht=>by
   obtain⟨i,hi,e⟩:=List.mem_iff_getElem.1 ht;exact⟨i,hi,by rw[iJ hi,e]⟩
  have getK:∀t∈b.cs,∃i,i<b.cs.length∧b.aY i=t:=λt ht=>by
   obtain⟨i,hi,e⟩:=List.mem_iff_getElem.1 ht;exact⟨i,hi,by rw[iH hi,e]⟩
  refine⟨h1,λs hs=>?_,Ep λi hi=>?_,h3,λt ht=>?_,?_,λt ht=>?_,h5,λt ht=>?_,?_,λt ht=>?_,h7,λp hp=>?_⟩
  ·obtain⟨i,hi,rfl⟩:=List.mem_iff_getElem.1 hs;have:=(h2 i hi).1;rw[nH hi]at this;exact this
  ·have:=(h2 i hi).2;rw[nH hi]at this;exact this
  ·obtain⟨i,hi,rfl⟩:=getT t ht;exact(h4 i hi).1
  ·refine List.pairwise_iff_getElem.2 λi j hi hj hij e=>?_;rw[List.length_map]at hi hj;rw[List.getElem_map,List.getElem_map,← iJ hi,← iJ hj]at e;exact(h4 j hj).2.1 i hij e
  ·obtain⟨i,hi,rfl⟩:=getT t ht;exact(h4 i hi).2.2
  ·obtain⟨i,hi,rfl⟩:=getK t ht;exact(h6 i hi).1
  ·refine List.pairwise_iff_getElem.2 λi j hi hj hij e=>?_;rw[List.length_map]at hi hj;rw[List.getElem_map,List.getElem_map,← iH hi,← iH hj]at e;exact(h6 j hj).2.1 i hij e
  ·obtain⟨i,hi,rfl⟩:=getK t ht;exact(h6 i hi).2.2
  ·obtain⟨i,hi,e⟩:=List.mem_iff_getElem.1 hp;have:=h8 i hi;rw[uP hi,e]at this;exact this
theorem Nr(s:ByteArray):dY s↔(s.size≠0∧s.size≤10)∧∀(i:Nat) x,s.data.toList[i]?=some x→(97≤x.toNat∧x.toNat≤122)∨(48≤x.toNat∧x.toNat≤57)∧i≠0:=by
 have key:∀x:UInt8,ng x=true↔(97≤x.toNat∧x.toNat≤122)∨(48≤x.toNat∧x.toNat≤57):=λx=>by
  unfold ng;simp only[Bool.or_eq_true,Bool.and_eq_true,decide_eq_true_eq,UInt8.le_iff_toNat_le];rfl
 constructor
 ·intro h;refine⟨⟨by have:=h.one;omega,h.ten⟩,λi x hx=>?_⟩;rcases(key x).1 (h.all i x hx)with k|k
  ·exact .inl k
  ·refine .inr ⟨k,λe=>?_⟩;subst e;have:=h.first x hx;omega
 ·rintro⟨⟨h1,h2⟩,h3⟩;refine⟨by omega,h2,λx hx=>?_,λj x hx=>(key x).2 ?_⟩
  ·rcases h3 0 x hx with k|k
   ·exact k
   ·exact absurd rfl k.2
  ·rcases h3 j x hx with k|k
   ·exact .inl k
   ·exact .inr k.1
end
section
open Go Go.RowKit Lift
theorem gJ{a b:Int}(h:b=a):Ending.returned (.int .i64 a)=.returned (.int .i64 b):=by rw[h]
def eU(g:Nat→Int):Nat→Int
 |0=>0
 |k+1=>if eU g k=0 then g k else eU g k
theorem iQ{g:Nat→Int}{k:Nat}(h0:eU g k=0){f:Int}(hg:g k=f)(hf:f≠0):∀n,k<n→eU g n=f
 |0,h=>absurd h (by omega)
 |n+1,h=>by
  rw[eU];by_cases e:k=n
  ·subst e;rw[if_pos h0,hg]
  ·rw[iQ h0 hg hf n (by omega),if_neg hf]
theorem iL{g:Nat→Int}{k:Nat}(h0:eU g k=0)(hg:g k=0):eU g (k+1)=0:=by rw[eU,if_pos h0,hg]
theorem sF{g:Nat→Int}:∀n,eU g n=0↔∀i,i<n→g i=0
 |0=>⟨λ_ i h=>absurd h (by omega),λ_=>rfl⟩
 |n+1=>by
  rw[eU];constructor
  ·intro h i hi;by_cases q:eU g n=0
   ·rw[if_pos q]at h;by_cases e:i=n
    ·subst e;exact h
    ·exact(sF n).1 q i (by omega)
   ·rw[if_neg q]at h;exact absurd h q
  ·intro h;rw[if_pos ((sF n).2 λi hi=>h i (by omega))];exact h n (by omega)
def wK(most n:Nat)(g:Nat→Int):Int:=if most<n then 2 else eU g n
theorem gZ{most n:Nat}{g:Nat→Int}(h:most<n):wK most n g=2:=if_pos h
theorem dK{most n:Nat}{g:Nat→Int}(h:¬most<n):wK most n g=eU g n:=if_neg h
theorem oJ{most n:Nat}{g:Nat→Int}:wK most n g=0↔n≤most∧∀i,i<n→g i=0:=by
 by_cases h:most<n
 ·rw[gZ h];exact⟨λq=>absurd q (by decide),λq=>absurd q.1 (by omega)⟩
 ·rw[dK h,sF];exact⟨λq=>⟨by omega,q⟩,λq=>q.2⟩
def nmd(s:ByteArray):Bool:=decide (1≤s.size∧s.size≤10)&&(match s.data.toList[0]? with|some x=>decide (97≤x.toNat∧x.toNat≤122)|none=>true)&&s.data.toList.all ng
theorem x9(s:ByteArray):nmd s=true↔dY s:=by
 unfold nmd;rw[Bool.and_eq_true,Bool.and_eq_true,decide_eq_true_eq,List.all_eq_true];constructor
 ·rintro⟨⟨⟨h1,h2⟩,h3⟩,h4⟩;refine⟨h1,h2,λx hx=>?_,λj x hx=>h4 x (List.mem_of_getElem? hx)⟩;rw[hx]at h3;simpa using h3
 ·intro h;refine⟨⟨⟨h.one,h.ten⟩,?_⟩,λx hx=>?_⟩
  ·cases hx:s.data.toList[0]? with
   |none=>rfl
   |some x=>simpa using h.first x hx
  ·obtain⟨j,hj⟩:=List.mem_iff_getElem?.1 hx;exact h.all j x hj
theorem gW{s:ByteArray}(h:dY s):nmd s=true:=(x9 s).2 h
theorem FI{s:ByteArray}(h:¬dY s):nmd s=false:=by
 cases q:nmd s with
 |false=>rfl
 |true=>exact absurd ((x9 s).1 q) h
def lQ(named rep known ranged:Bool):Int:=if named then(if rep then 5 else if known then(if ranged then 0 else 1)else 6)else 4
section
variable {n r k g:Bool}
theorem ef4(h:n=false):lQ n r k g=4:=by subst h;rfl
theorem ef5(h:n=true)(h2:r=true):lQ n r k g=5:=by subst h h2;rfl
theorem ef6(h:n=true)(h2:r=false)(h3:k=false):lQ n r k g=6:=by subst h h2 h3;rfl
theorem ef1(h:n=true)(h2:r=false)(h3:k=true)(h4:g=false):lQ n r k g=1:=by subst h h2 h3 h4;rfl
theorem ef0(h:n=true)(h2:r=false)(h3:k=true)(h4:g=true):lQ n r k g=0:=by subst h h2 h3 h4;rfl
theorem wH:lQ n r k g=0↔n=true∧r=false∧k=true∧g=true:=by cases n<;>cases r<;>cases k<;>cases g<;>decide
end
theorem dt{p:Prop}[Decidable p](h:p):decide p=true:=decide_eq_true h
theorem df{p:Prop}[Decidable p](h:¬p):decide p=false:=decide_eq_false h
instance decMemBA (s:ByteArray) (l:List ByteArray):Decidable (s∈l):=decidable_of_iff (s.data∈l.map (·.data)) ⟨λh=>by
 obtain⟨x,hx,e⟩:=List.mem_map.1 h;obtain⟨x⟩:=x;obtain⟨s⟩:=s;simp only at e;subst e;exact hx,λh=>List.mem_map.2 ⟨s,h,rfl⟩⟩
def aP.jK(b:aP)(i:Nat):Int:=lQ (nmd (b.aJ.getD i ⟨#[]⟩)) (decide (b.aJ.getD i ⟨#[]⟩∈b.aJ.take i)) true true
abbrev jZ.inR(t:jZ):Prop:=(0≤t.base∧t.base≤10000)∧(0≤t.each∧t.each≤10000)∧0≤t.free∧t.free≤45
abbrev jY.inR(c:jY):Prop:=(0≤c.classes∧c.classes≤45)∧(0≤c.due∧c.due≤9999)∧(0≤c.gy∧c.gy≤999)∧0≤c.extra∧c.extra≤10000
def zi(nc:Nat)(seen:List ByteArray)(t:jZ):Int:=lQ (nmd t.name) (decide (t.name∈seen)) (decide (0≤t.aN∧t.aN<nc)) (decide t.inR)
def xK(nt:Nat)(seen:List ByteArray)(c:jY):Int:=lQ (nmd c.name) (decide (c.name∈seen)) (decide (0≤c.tar∧c.tar<nt)) (decide c.inR)
def aP.oq(b:aP)(i:Nat):Int:=zi b.aJ.length ((b.ts.take i).map (·.name)) (b.iw i)
def aP.ny(b:aP)(i:Nat):Int:=xK b.ts.length ((b.cs.take i).map (·.name)) (b.aY i)
def aP.gq(b:aP)(p:dM):Int:=
 if¬((0≤p.kind∧p.kind≤2)∧(0≤p.day∧p.day≤9999)∧(1≤p.amount∧p.amount≤10000))then 1
 else if¬(0≤p.aN∧p.aN<b.aJ.length)then 6
 else if p.kind=1 then(if p.cas=0 then 0 else 1)
 else if¬(0≤p.cas∧p.cas<b.cs.length)then 6
 else if p.kind=2∧p.aN≠(b.iw (b.aY p.cas.toNat).tar.toNat).aN then 10 else 0
def aP.fV(b:aP):Int:=wK 3 b.aJ.length b.jK
def aP.jm(b:aP):Int:=wK 4 b.ts.length b.oq
def aP.jB(b:aP):Int:=wK 6 b.cs.length b.ny
def aP.qC(b:aP):Int:=wK 10 b.ps.length λi=>b.gq (b.aO i)
def aP.iY(b:aP):Int:=if b.fV=0 then(if b.jm=0 then(if b.jB=0 then b.qC else b.jB)else b.jm)else b.fV
theorem oM{α:Type}{f:α→ByteArray}{d:α}{l:List α}{s:ByteArray}{k:Nat}(hk:k≤l.length)(h:∀i,i<k→f (l.getD i d)≠s):s∉(l.take k).map f:=λhm=>by
 obtain⟨x,hx,e⟩:=List.mem_map.1 hm;obtain⟨i,hi,q⟩:=List.mem_iff_getElem.1 hx;rw[List.length_take]at hi;refine h i (by omega) ?_;rw[List.getD_eq_getElem?_getD,List.getElem?_eq_getElem (by omega),Option.getD_some];rw[List.getElem_take]at q;rw[q];exact e
theorem xX{α:Type}{f:α→ByteArray}{d:α}{l:List α}{s:ByteArray}{k j:Nat}(hk:k≤l.length)(hj:j<k)(h:f (l.getD j d)=s):s∈(l.take k).map f:=by
 rw[List.getD_eq_getElem?_getD,List.getElem?_eq_getElem (by omega),Option.getD_some]at h;exact List.mem_map.2 ⟨l[j],List.mem_iff_getElem.2 ⟨j,by rw[List.length_take];omega,List.getElem_take⟩,h⟩
theorem aP.jR(b:aP):b.fV=0↔b.lW:=by
 unfold aP.fV aP.lW;rw[oJ];refine and_congr Iff.rfl (forall_congr' λi=>imp_congr Iff.rfl ?_);unfold aP.jK aP.RF;rw[wH,x9,decide_eq_false_iff_not];exact⟨λh=>⟨h.1,h.2.1⟩,λh=>⟨h.1,h.2,rfl,rfl⟩⟩
theorem aP.ou(b:aP):b.jm=0↔b.rV:=by
 unfold aP.jm aP.rV;rw[oJ];refine and_congr Iff.rfl (forall_congr' λi=>forall_congr' λhi=>?_);unfold aP.oq zi aP.Tar1 jZ.inR;rw[wH,x9,decide_eq_false_iff_not,decide_eq_true_eq,decide_eq_true_eq];refine and_congr Iff.rfl (and_congr ⟨λh k hk e=>h (xX (f:=jZ.name) (d:=⟨⟨#[]⟩,0,0,0,0⟩) (Nat.le_of_lt hi) hk e),λh=>oM (f:=jZ.name) (d:=⟨⟨#[]⟩,0,0,0,0⟩) (Nat.le_of_lt hi) h⟩ Iff.rfl)
theorem aP.nC(b:aP):b.jB=0↔b.wu:=by
 unfold aP.jB aP.wu;rw[oJ];refine and_congr Iff.rfl (forall_congr' λi=>forall_congr' λhi=>?_);unfold aP.ny xK aP.Cas1 jY.inR;rw[wH,x9,decide_eq_false_iff_not,decide_eq_true_eq,decide_eq_true_eq];refine and_congr Iff.rfl (and_congr ⟨λh k hk e=>h (xX (f:=jY.name) (d:=⟨⟨#[]⟩,0,0,0,0,0⟩) (Nat.le_of_lt hi) hk e),λh=>oM (f:=jY.name) (d:=⟨⟨#[]⟩,0,0,0,0,0⟩) (Nat.le_of_lt hi) h⟩ Iff.rfl)
end
