/- CheckBook on a book that is right: inside the fence. -/
import Derived.Laws.EntriesVeiled
import Derived.Test.YtnkejaohnhpbpaaGreatDoorA04
import Derived.Test.YtnkejaohnhpbpaaGreatDoorA09
set_option linter.all false
section
namespace Go.Proofs.YtnkejaohnhpbpaaGreatDoor
open Go Go.RowKit Lift
structure Full (b:Book):Prop where
 v:Valid b
 cn:∀s∈b.coins,dM s
 cd:b.coins.Nodup
 tn:∀t∈b.ts,dM t.name
 td:(b.ts.map (·.name)).Nodup
 kn:∀c∈b.cs,dM c.name
 kd:(b.cs.map (·.name)).Nodup
 mv:∀p∈b.ps,p.kind=2→p.aS=b.aS p.cas
theorem dI{A B C:World}{row:Option Nat}(h:A.grownBy B row)(k:B.grownBy C row):A.grownBy C row:=
 ⟨k.os.trans h.os,k.tape.trans h.tape,k.output.trans h.output,Nat.le_trans h.size k.size,λi hi hr=>(k.block i (aG hi h.size) hr).trans (h.block i hi hr)⟩
theorem dH{A B:World}{row:Option Nat}(h:Below A.heap.size A B):A.grownBy B row:=⟨h.os,h.tape,h.output,h.size,λk hk _=>h.block k hk⟩
theorem qY(A:World)(row:Option Nat):A.grownBy A row:=⟨rfl,rfl,rfl,ay _,λ_ _ _=>rfl⟩
theorem nJ{N M:Nat}{A B:World}(h:A.grownBy B (some M))(hN:N≤M)(hs:N≤A.heap.size):Below N A B:=(Below.refl N A).grown h hs (λk e=>by cases e;exact hN)
theorem Blk.gb{A B:World}{k M:Nat}{ty:TypeId}{cs:Array Value}(h:Blk A k ty cs)(hg:A.grownBy B (some M))(hne:k≠M):Blk B k ty cs:=(hg.block k h.lt (by simpa using hne)).trans h
theorem IC{l:List ByteArray}(h:l.Nodup){k:Nat}(hk:k<l.length):l[k]∉l.take k:=λhm=>by
 obtain⟨j,hj,e⟩:=List.mem_iff_getElem.1 hm;rw[List.length_take]at hj;rw[List.getElem_take]at e;have:=List.pairwise_iff_getElem.1 h j k (by omega) hk (by omega);exact this e
end Go.Proofs.YtnkejaohnhpbpaaGreatDoor
end
section
namespace Go.Proofs.YtnkejaohnhpbpaaGreatDoor
open Go Go.RowKit Lift
abbrev Lay.arr(l:Lay)(b:Book):Array Value:=#[.slice l.cb b.coins.length l.cc,.slice l.tb b.ts.length l.tc,.slice l.kb b.cs.length l.kc,.slice l.pb b.ps.length l.pc]
theorem dL.top{N:Nat}{l:Lay}{b:Book}{w:World}(h:dL N l b w):dL w.heap.size l b w:=by
 have up:∀{base:Option Addr} {size:Nat} {rows:List (List Value)},dB N base size rows w→dB w.heap.size base size rows w:=λh' i r hr=>by
  obtain⟨b',o,h1,h2,h3⟩:=h' i r hr;exact⟨b',o,h1,aG h2 h.hN,h3⟩
 exact⟨ay _,up h.cs,up h.ts,up h.ks,up h.ps⟩
theorem idx870(a b c d:Value)(w:World):(Instr.index 87 (.agg #[a,b,c,d]) (.int .i64 0)).run Tryz.prog w=.ok a w:=by kernel_rfl
theorem idx871(a b c d:Value)(w:World):(Instr.index 87 (.agg #[a,b,c,d]) (.int .i64 1)).run Tryz.prog w=.ok b w:=by kernel_rfl
theorem idx872(a b c d:Value)(w:World):(Instr.index 87 (.agg #[a,b,c,d]) (.int .i64 2)).run Tryz.prog w=.ok c w:=by kernel_rfl
theorem idx873(a b c d:Value)(w:World):(Instr.index 87 (.agg #[a,b,c,d]) (.int .i64 3)).run Tryz.prog w=.ok d w:=by kernel_rfl
end Go.Proofs.YtnkejaohnhpbpaaGreatDoor
end
section
namespace Go.Proofs.YtnkejaohnhpbpaaGreatDoor
open Go Go.RowKit Lift
structure jI where
 name:ByteArray
 aS:Int
 base:Int
 each:Int
 free:Int
structure jH where
 name:ByteArray
 tar:Int
 classes:Int
 due:Int
 grace:Int
 extra:Int
structure dS where
 kind:Int
 day:Int
 aS:Int
 amount:Int
 cas:Int
structure aN where
 coins:List ByteArray
 ts:List jI
 cs:List jH
 ps:List dS
def jI.row(t:jI):List Value:=[.string t.name,.int .i64 t.aS,.int .i64 t.base,.int .i64 t.each,.int .i64 t.free]
def jH.row(c:jH):List Value:=[.string c.name,.int .i64 c.tar,.int .i64 c.classes,.int .i64 c.due,.int .i64 c.grace,.int .i64 c.extra]
def dS.row(p:dS):List Value:=[.int .i64 p.kind,.int .i64 p.day,.int .i64 p.aS,.int .i64 p.amount,.int .i64 p.cas]
abbrev Lay.bY(l:Lay)(b:aN):Array Value:=#[.slice l.cb b.coins.length l.cc,.slice l.tb b.ts.length l.tc,.slice l.kb b.cs.length l.kc,.slice l.pb b.ps.length l.pc]
structure bV (N:Nat) (l:Lay) (b:aN) (w:World):Prop where
 hN:N≤w.heap.size
 cs:dB N l.cb 1 (b.coins.map λs=>[.string s]) w
 ts:dB N l.tb 5 (b.ts.map jI.row) w
 ks:dB N l.kb 6 (b.cs.map jH.row) w
 ps:dB N l.pb 5 (b.ps.map dS.row) w
theorem bV.below{N:Nat}{l:Lay}{b:aN}{w w':World}(h:bV N l b w)(hb:Below N w w'):bV N l b w':=⟨Nat.le_trans h.hN hb.size,h.cs.below hb,h.ts.below hb,h.ks.below hb,h.ps.below hb⟩
structure RSized (b:aN):Prop where
 c:(b.coins.length:Int)<9223372036854775807
 t:(b.ts.length:Int)<9223372036854775807
 k:(b.cs.length:Int)<9223372036854775807
 p:(b.ps.length:Int)<9223372036854775807
def aN.Small(b:aN):Prop:=b.coins.length≤20∧b.ts.length≤20∧b.cs.length≤20∧b.ps.length≤40
structure aN.Right (b:aN):Prop where
 nc:b.coins.length≤3
 cn:∀s∈b.coins,dM s
 cd:b.coins.Nodup
 nt:b.ts.length≤4
 tn:∀t∈b.ts,dM t.name
 td:(b.ts.map (·.name)).Nodup
 t:∀t∈b.ts,(0≤t.aS∧t.aS<b.coins.length)∧(0≤t.base∧t.base≤10000)∧(0≤t.each∧t.each≤10000)∧0≤t.free∧t.free≤45
 nk:b.cs.length≤6
 kn:∀c∈b.cs,dM c.name
 kd:(b.cs.map (·.name)).Nodup
 k:∀c∈b.cs,(0≤c.tar∧c.tar<b.ts.length)∧(0≤c.classes∧c.classes≤45)∧(0≤c.due∧c.due≤9999)∧(0≤c.grace∧c.grace≤999)∧0≤c.extra∧c.extra≤10000
 np:b.ps.length≤10
 p:∀p∈b.ps,(0≤p.kind∧p.kind≤2)∧(0≤p.day∧p.day≤9999)∧(1≤p.amount∧p.amount≤10000)∧(0≤p.aS∧p.aS<b.coins.length)∧(p.kind=1→p.cas=0)∧(p.kind≠1→0≤p.cas∧p.cas<b.cs.length)∧
  (p.kind=2→p.aS=(b.ts.getD (b.cs.getD p.cas.toNat ⟨⟨#[]⟩,0,0,0,0,0⟩).tar.toNat ⟨⟨#[]⟩,0,0,0,0⟩).aS)
def jI.to(t:jI):Trf:=⟨t.name,t.aS.toNat,t.base,t.each,t.free⟩
def jH.to(c:jH):Cas:=⟨c.name,c.tar.toNat,c.classes,c.due,c.grace,c.extra⟩
def dS.to(p:dS):Pay:=⟨p.kind.toNat,p.day,p.aS.toNat,p.amount,p.cas.toNat⟩
def aN.to(b:aN):Book:=⟨b.coins,b.ts.map jI.to,b.cs.map jH.to,b.ps.map dS.to⟩
theorem jI.Ae{t:jI}(h:0≤t.aS):t.to.row=t.row:=by
 simp only[Trf.row,jI.row,jI.to,Int.toNat_of_nonneg h]
theorem jH.Ae{t:jH}(h:0≤t.tar):t.to.row=t.row:=by
 simp only[Cas.row,jH.row,jH.to,Int.toNat_of_nonneg h]
theorem dS.Ae{t:dS}(h:0≤t.kind)(h1:0≤t.aS)(h2:0≤t.cas):t.to.row=t.row:=by
 simp only[Pay.row,dS.row,dS.to,Int.toNat_of_nonneg h,Int.toNat_of_nonneg h1,Int.toNat_of_nonneg h2]
section
variable {b:aN}
theorem aN.Right.cas(h:b.Right){p:dS}(hp:p∈b.ps):0≤p.cas:=by
 have:=h.p p hp;by_cases e:p.kind=1
 ·have:=this.2.2.2.2.1 e;omega
 ·have:=this.2.2.2.2.2.1 e;omega
theorem aN.Right.full(h:b.Right):Full b.to where
 v:={
  nc:=h.nc
  nt:=by simpa[aN.to]using h.nt
  nk:=by simpa[aN.to]using h.nk
  np:=by simpa[aN.to]using h.np
  t:=λt ht=>by
   obtain⟨r,hr,rfl⟩:=List.mem_map.1 ht;have:=h.t r hr;simp only[jI.to,aN.to];omega
  k:=λt ht=>by
   obtain⟨r,hr,rfl⟩:=List.mem_map.1 ht;have:=h.k r hr;simp only[jH.to,aN.to,List.length_map];omega
  p:=λt ht=>by
   obtain⟨r,hr,rfl⟩:=List.mem_map.1 ht;have:=h.p r hr;simp only[dS.to,aN.to,List.length_map];refine⟨by omega,by omega,by omega,by omega,by omega,by omega,λe=>?_,λe=>?_⟩
   ·have:=this.2.2.2.2.1 (by omega);omega
   ·have:=this.2.2.2.2.2.1 (by omega);omega }
 cn:=h.cn
 cd:=h.cd
 tn:=λt ht=>by obtain⟨r,hr,rfl⟩:=List.mem_map.1 ht;exact h.tn r hr
 td:=by have:=h.td;simpa[aN.to,jI.to,Function.comp_def]using this
 kn:=λt ht=>by obtain⟨r,hr,rfl⟩:=List.mem_map.1 ht;exact h.kn r hr
 kd:=by have:=h.kd;simpa[aN.to,jH.to,Function.comp_def]using this
 mv:=λp hp e=>by
  obtain⟨r,hr,rfl⟩:=List.mem_map.1 hp;have k:=h.p r hr;have hk:r.kind=2:=by simp only[dS.to]at e;omega
  have hc:=k.2.2.2.2.2.1 (by omega);have hm:=k.2.2.2.2.2.2 hk;have hcl:r.cas.toNat<b.cs.length:=by omega
  have e1:b.cs[r.cas.toNat]?=some b.cs[r.cas.toNat]:=by simp
  have ht:=h.k _ (List.mem_of_getElem? e1);have htl:(b.cs[r.cas.toNat]).tar.toNat<b.ts.length:=by omega
  rw[List.getD_eq_getElem?_getD,List.getD_eq_getElem?_getD,e1,Option.getD_some,List.getElem?_eq_getElem htl,Option.getD_some]at hm;simp only[Book.aS,Book.dK,aN.to,dS.to,List.getD_eq_getElem?_getD,List.getElem?_map,e1,Option.map_some,Option.getD_some,jH.to,List.getElem?_eq_getElem htl,jI.to];rw[hm]
theorem bV.to{N:Nat}{l:Lay}{w:World}(h:bV N l b w)(hr:b.Right):dL N l b.to w:=by
 refine⟨h.hN,h.cs,?_,?_,?_⟩
 ·have e:b.to.ts.map Trf.row=b.ts.map jI.row:=by
   simp only[aN.to,List.map_map];exact List.map_congr_left λt ht=>jI.Ae (hr.t t ht).1.1
  rw[e];exact h.ts
 ·have e:b.to.cs.map Cas.row=b.cs.map jH.row:=by
   simp only[aN.to,List.map_map];exact List.map_congr_left λt ht=>jH.Ae (hr.k t ht).1.1
  rw[e];exact h.ks
 ·have e:b.to.ps.map Pay.row=b.ps.map dS.row:=by
   simp only[aN.to,List.map_map];exact List.map_congr_left λt ht=>dS.Ae (hr.p t ht).1.1 (hr.p t ht).2.2.2.1.1 (hr.cas ht)
  rw[e];exact h.ps
theorem aN.Af(l:Lay)(b:aN):l.val b.to=.agg (l.bY b):=by simp[Lay.val,Lay.bY,aN.to]
end
end Go.Proofs.YtnkejaohnhpbpaaGreatDoor
end
section
namespace Go.Proofs.YtnkejaohnhpbpaaGreatDoor
open Go Go.RowKit Lift
def aN.MB(b:aN)(i:Nat):Prop:=dM (b.coins.getD i ⟨#[]⟩)∧b.coins.getD i ⟨#[]⟩∉b.coins.take i
def aN.fQ(b:aN)(i:Nat):jI:=b.ts.getD i ⟨⟨#[]⟩,0,0,0,0⟩
def aN.aV(b:aN)(i:Nat):jH:=b.cs.getD i ⟨⟨#[]⟩,0,0,0,0,0⟩
def aN.aO(b:aN)(i:Nat):dS:=b.ps.getD i ⟨0,0,0,0,0⟩
def aN.Tar1(b:aN)(i:Nat):Prop:=dM (b.fQ i).name∧(∀k,k<i→(b.fQ k).name≠(b.fQ i).name)∧(0≤(b.fQ i).aS∧(b.fQ i).aS<b.coins.length)∧(0≤(b.fQ i).base∧(b.fQ i).base≤10000)∧(0≤(b.fQ i).each∧(b.fQ i).each≤10000)∧0≤(b.fQ i).free∧(b.fQ i).free≤45
def aN.Cas1(b:aN)(i:Nat):Prop:=dM (b.aV i).name∧(∀k,k<i→(b.aV k).name≠(b.aV i).name)∧(0≤(b.aV i).tar∧(b.aV i).tar<b.ts.length)∧(0≤(b.aV i).classes∧(b.aV i).classes≤45)∧(0≤(b.aV i).due∧(b.aV i).due≤9999)∧(0≤(b.aV i).grace∧(b.aV i).grace≤999)∧0≤(b.aV i).extra∧(b.aV i).extra≤10000
def aN.MH(b:aN)(p:dS):Prop:=(0≤p.kind∧p.kind≤2)∧(0≤p.day∧p.day≤9999)∧(1≤p.amount∧p.amount≤10000)∧(0≤p.aS∧p.aS<b.coins.length)∧(p.kind=1→p.cas=0)∧(p.kind≠1→0≤p.cas∧p.cas<b.cs.length)∧
  (p.kind=2→p.aS=(b.fQ (b.aV p.cas.toNat).tar.toNat).aS)
def aN.kN(b:aN):Prop:=b.coins.length≤3∧∀i,i<b.coins.length→b.MB i
def aN.pX(b:aN):Prop:=b.ts.length≤4∧∀i,i<b.ts.length→b.Tar1 i
def aN.sU(b:aN):Prop:=b.cs.length≤6∧∀i,i<b.cs.length→b.Cas1 i
def aN.GI(b:aN):Prop:=b.ps.length≤10∧∀i,i<b.ps.length→b.MH (b.aO i)
theorem AB{l:List ByteArray}(h:∀(i:Nat) (hi:i<l.length),l[i]∉l.take i):l.Nodup:=
 List.pairwise_iff_getElem.2 λi j hi hj hij e=>h j hj (by
  rw[← e];exact List.mem_iff_getElem.2 ⟨i,by rw[List.length_take];omega,by rw[List.getElem_take]⟩)
theorem gV{b:aN}{i:Nat}(h:i<b.ts.length):b.fQ i=b.ts[i]:=by unfold aN.fQ;rw[List.getD_eq_getElem?_getD,List.getElem?_eq_getElem h];rfl
theorem gK{b:aN}{i:Nat}(h:i<b.cs.length):b.aV i=b.cs[i]:=by unfold aN.aV;rw[List.getD_eq_getElem?_getD,List.getElem?_eq_getElem h];rfl
theorem rF{b:aN}{i:Nat}(h:i<b.ps.length):b.aO i=b.ps[i]:=by unfold aN.aO;rw[List.getD_eq_getElem?_getD,List.getElem?_eq_getElem h];rfl
theorem lG{b:aN}{i:Nat}(h:i<b.coins.length):b.coins.getD i ⟨#[]⟩=b.coins[i]:=by rw[List.getD_eq_getElem?_getD,List.getElem?_eq_getElem h];rfl
theorem aN.LJ(b:aN):b.Right↔b.kN∧b.pX∧b.sU∧b.GI:=by
 constructor
 ·intro h;refine⟨⟨h.nc,λi hi=>?_⟩,⟨h.nt,λi hi=>?_⟩,⟨h.nk,λi hi=>?_⟩,⟨h.np,λi hi=>?_⟩⟩
  ·unfold aN.MB;rw[lG hi];exact⟨h.cn _ (List.getElem_mem hi),IC h.cd hi⟩
  ·unfold aN.Tar1;have hm:=List.getElem_mem hi;rw[← gV hi]at hm;refine⟨h.tn _ hm,λk hk e=>?_,h.t _ hm⟩;have:=List.pairwise_iff_getElem.1 h.td k i (by simp;omega) (by simpa using hi) hk;rw[List.getElem_map,List.getElem_map,← gV (by omega),← gV hi]at this;exact this e
  ·unfold aN.Cas1;have hm:=List.getElem_mem hi;rw[← gK hi]at hm;refine⟨h.kn _ hm,λk hk e=>?_,h.k _ hm⟩;have:=List.pairwise_iff_getElem.1 h.kd k i (by simp;omega) (by simpa using hi) hk;rw[List.getElem_map,List.getElem_map,← gK (by omega),← gK hi]at this;exact this e
  ·have hm:=List.getElem_mem hi;rw[← rF hi]at hm;exact h.p _ hm
 ·rintro⟨⟨h1,h2⟩,⟨h3,h4⟩,⟨h5,h6⟩,h7,h8⟩;have getT:∀t∈b.ts,∃i,i<b.ts.length∧b.fQ i=t:=λt ht=>by
   obtain⟨i,hi,e⟩:=List.mem_iff_getElem.1 ht;exact⟨i,hi,by rw[gV hi,e]⟩
  have getK:∀t∈b.cs,∃i,i<b.cs.length∧b.aV i=t:=λt ht=>by
   obtain⟨i,hi,e⟩:=List.mem_iff_getElem.1 ht;exact⟨i,hi,by rw[gK hi,e]⟩
  refine⟨h1,λs hs=>?_,AB λi hi=>?_,h3,λt ht=>?_,?_,λt ht=>?_,h5,λt ht=>?_,?_,λt ht=>?_,h7,λp hp=>?_⟩
  ·obtain⟨i,hi,rfl⟩:=List.mem_iff_getElem.1 hs;have:=(h2 i hi).1;rw[lG hi]at this;exact this
  ·have:=(h2 i hi).2;rw[lG hi]at this;exact this
  ·obtain⟨i,hi,rfl⟩:=getT t ht;exact(h4 i hi).1
  ·refine List.pairwise_iff_getElem.2 λi j hi hj hij e=>?_;rw[List.length_map]at hi hj;rw[List.getElem_map,List.getElem_map,← gV hi,← gV hj]at e;exact(h4 j hj).2.1 i hij e
  ·obtain⟨i,hi,rfl⟩:=getT t ht;exact(h4 i hi).2.2
  ·obtain⟨i,hi,rfl⟩:=getK t ht;exact(h6 i hi).1
  ·refine List.pairwise_iff_getElem.2 λi j hi hj hij e=>?_;rw[List.length_map]at hi hj;rw[List.getElem_map,List.getElem_map,← gK hi,← gK hj]at e;exact(h6 j hj).2.1 i hij e
  ·obtain⟨i,hi,rfl⟩:=getK t ht;exact(h6 i hi).2.2
  ·obtain⟨i,hi,e⟩:=List.mem_iff_getElem.1 hp;have:=h8 i hi;rw[rF hi,e]at this;exact this
theorem IB(s:ByteArray):dM s↔(s.size≠0∧s.size≤10)∧∀(i:Nat) x,s.data.toList[i]?=some x→(97≤x.toNat∧x.toNat≤122)∨(48≤x.toNat∧x.toNat≤57)∧i≠0:=by
 have key:∀x:UInt8,lq x=true↔(97≤x.toNat∧x.toNat≤122)∨(48≤x.toNat∧x.toNat≤57):=λx=>by
  unfold lq;simp only[Bool.or_eq_true,Bool.and_eq_true,decide_eq_true_eq,UInt8.le_iff_toNat_le];rfl
 constructor
 ·intro h;refine⟨⟨by have:=h.one;omega,h.ten⟩,λi x hx=>?_⟩;rcases(key x).1 (h.all i x hx)with k|k
  ·exact .inl k
  ·refine .inr ⟨k,λe=>?_⟩;subst e;have:=h.first x hx;omega
 ·rintro⟨⟨h1,h2⟩,h3⟩;refine⟨by omega,h2,λx hx=>?_,λj x hx=>(key x).2 ?_⟩
  ·rcases h3 0 x hx with k|k
   ·exact k
   ·exact absurd rfl k.2
  ·rcases h3 j x hx with k|k
   ·exact .inl k
   ·exact .inr k.1
end Go.Proofs.YtnkejaohnhpbpaaGreatDoor
end
section
namespace Go.Proofs.YtnkejaohnhpbpaaGreatDoor
open Go Go.RowKit Lift
theorem dW{a b:Int}(h:b=a):Ending.returned (.int .i64 a)=.returned (.int .i64 b):=by rw[h]
def dU(g:Nat→Int):Nat→Int
 |0=>0
 |k+1=>if dU g k=0 then g k else dU g k
theorem gY{g:Nat→Int}{k:Nat}(h0:dU g k=0){f:Int}(hg:g k=f)(hf:f≠0):∀n,k<n→dU g n=f
 |0,h=>absurd h (by omega)
 |n+1,h=>by
  rw[dU];by_cases e:k=n
  ·subst e;rw[if_pos h0,hg]
  ·rw[gY h0 hg hf n (by omega),if_neg hf]
theorem gX{g:Nat→Int}{k:Nat}(h0:dU g k=0)(hg:g k=0):dU g (k+1)=0:=by rw[dU,if_pos h0,hg]
theorem qx{g:Nat→Int}:∀n,dU g n=0↔∀i,i<n→g i=0
 |0=>⟨λ_ i h=>absurd h (by omega),λ_=>rfl⟩
 |n+1=>by
  rw[dU];constructor
  ·intro h i hi;by_cases q:dU g n=0
   ·rw[if_pos q]at h;by_cases e:i=n
    ·subst e;exact h
    ·exact(qx n).1 q i (by omega)
   ·rw[if_neg q]at h;exact absurd h q
  ·intro h;rw[if_pos ((qx n).2 λi hi=>h i (by omega))];exact h n (by omega)
def tX(most n:Nat)(g:Nat→Int):Int:=if most<n then 2 else dU g n
theorem gy{most n:Nat}{g:Nat→Int}(h:most<n):tX most n g=2:=if_pos h
theorem dD{most n:Nat}{g:Nat→Int}(h:¬most<n):tX most n g=dU g n:=if_neg h
theorem mQ{most n:Nat}{g:Nat→Int}:tX most n g=0↔n≤most∧∀i,i<n→g i=0:=by
 by_cases h:most<n
 ·rw[gy h];exact⟨λq=>absurd q (by decide),λq=>absurd q.1 (by omega)⟩
 ·rw[dD h,qx];exact⟨λq=>⟨by omega,q⟩,λq=>q.2⟩
def nmd(s:ByteArray):Bool:=decide (1≤s.size∧s.size≤10)&&(match s.data.toList[0]? with|some x=>decide (97≤x.toNat∧x.toNat≤122)|none=>true)&&s.data.toList.all lq
theorem vG(s:ByteArray):nmd s=true↔dM s:=by
 unfold nmd;rw[Bool.and_eq_true,Bool.and_eq_true,decide_eq_true_eq,List.all_eq_true];constructor
 ·rintro⟨⟨⟨h1,h2⟩,h3⟩,h4⟩;refine⟨h1,h2,λx hx=>?_,λj x hx=>h4 x (List.mem_of_getElem? hx)⟩;rw[hx]at h3;simpa using h3
 ·intro h;refine⟨⟨⟨h.one,h.ten⟩,?_⟩,λx hx=>?_⟩
  ·cases hx:s.data.toList[0]? with
   |none=>rfl
   |some x=>simpa using h.first x hx
  ·obtain⟨j,hj⟩:=List.mem_iff_getElem?.1 hx;exact h.all j x hj
theorem fV{s:ByteArray}(h:dM s):nmd s=true:=(vG s).2 h
theorem BM{s:ByteArray}(h:¬dM s):nmd s=false:=by
 cases q:nmd s with
 |false=>rfl
 |true=>exact absurd ((vG s).1 q) h
def kL(named rep known ranged:Bool):Int:=if named then(if rep then 5 else if known then(if ranged then 0 else 1)else 6)else 4
section
variable {n r k g:Bool}
theorem ef4(h:n=false):kL n r k g=4:=by subst h;rfl
theorem ef5(h:n=true)(h2:r=true):kL n r k g=5:=by subst h h2;rfl
theorem ef6(h:n=true)(h2:r=false)(h3:k=false):kL n r k g=6:=by subst h h2 h3;rfl
theorem ef1(h:n=true)(h2:r=false)(h3:k=true)(h4:g=false):kL n r k g=1:=by subst h h2 h3 h4;rfl
theorem ef0(h:n=true)(h2:r=false)(h3:k=true)(h4:g=true):kL n r k g=0:=by subst h h2 h3 h4;rfl
theorem tJ:kL n r k g=0↔n=true∧r=false∧k=true∧g=true:=by cases n<;>cases r<;>cases k<;>cases g<;>decide
end
theorem dt{p:Prop}[Decidable p](h:p):decide p=true:=decide_eq_true h
theorem df{p:Prop}[Decidable p](h:¬p):decide p=false:=decide_eq_false h
instance decMemBA (s:ByteArray) (l:List ByteArray):Decidable (s∈l):=decidable_of_iff (s.data∈l.map (·.data)) ⟨λh=>by
 obtain⟨x,hx,e⟩:=List.mem_map.1 h;obtain⟨x⟩:=x;obtain⟨s⟩:=s;simp only at e;subst e;exact hx,λh=>List.mem_map.2 ⟨s,h,rfl⟩⟩
def aN.jr(b:aN)(i:Nat):Int:=kL (nmd (b.coins.getD i ⟨#[]⟩)) (decide (b.coins.getD i ⟨#[]⟩∈b.coins.take i)) true true
abbrev jI.inR(t:jI):Prop:=(0≤t.base∧t.base≤10000)∧(0≤t.each∧t.each≤10000)∧0≤t.free∧t.free≤45
abbrev jH.inR(c:jH):Prop:=(0≤c.classes∧c.classes≤45)∧(0≤c.due∧c.due≤9999)∧(0≤c.grace∧c.grace≤999)∧0≤c.extra∧c.extra≤10000
def wS(nc:Nat)(seen:List ByteArray)(t:jI):Int:=kL (nmd t.name) (decide (t.name∈seen)) (decide (0≤t.aS∧t.aS<nc)) (decide t.inR)
def uP(nt:Nat)(seen:List ByteArray)(c:jH):Int:=kL (nmd c.name) (decide (c.name∈seen)) (decide (0≤c.tar∧c.tar<nt)) (decide c.inR)
def aN.mg(b:aN)(i:Nat):Int:=wS b.coins.length ((b.ts.take i).map (·.name)) (b.fQ i)
def aN.lC(b:aN)(i:Nat):Int:=uP b.ts.length ((b.cs.take i).map (·.name)) (b.aV i)
def aN.dn(b:aN)(p:dS):Int:=
 if¬((0≤p.kind∧p.kind≤2)∧(0≤p.day∧p.day≤9999)∧(1≤p.amount∧p.amount≤10000))then 1
 else if¬(0≤p.aS∧p.aS<b.coins.length)then 6
 else if p.kind=1 then(if p.cas=0 then 0 else 1)
 else if¬(0≤p.cas∧p.cas<b.cs.length)then 6
 else if p.kind=2∧p.aS≠(b.fQ (b.aV p.cas.toNat).tar.toNat).aS then 10 else 0
def aN.fH(b:aN):Int:=tX 3 b.coins.length b.jr
def aN.iP(b:aN):Int:=tX 4 b.ts.length b.mg
def aN.je(b:aN):Int:=tX 6 b.cs.length b.lC
def aN.oh(b:aN):Int:=tX 10 b.ps.length λi=>b.dn (b.aO i)
def aN.eX(b:aN):Int:=if b.fH=0 then(if b.iP=0 then(if b.je=0 then b.oh else b.je)else b.iP)else b.fH
theorem mX{α:Type}{f:α→ByteArray}{d:α}{l:List α}{s:ByteArray}{k:Nat}(hk:k≤l.length)(h:∀i,i<k→f (l.getD i d)≠s):s∉(l.take k).map f:=λhm=>by
 obtain⟨x,hx,e⟩:=List.mem_map.1 hm;obtain⟨i,hi,q⟩:=List.mem_iff_getElem.1 hx;rw[List.length_take]at hi;refine h i (by omega) ?_;rw[List.getD_eq_getElem?_getD,List.getElem?_eq_getElem (by omega),Option.getD_some];rw[List.getElem_take]at q;rw[q];exact e
theorem vg{α:Type}{f:α→ByteArray}{d:α}{l:List α}{s:ByteArray}{k j:Nat}(hk:k≤l.length)(hj:j<k)(h:f (l.getD j d)=s):s∈(l.take k).map f:=by
 rw[List.getD_eq_getElem?_getD,List.getElem?_eq_getElem (by omega),Option.getD_some]at h;exact List.mem_map.2 ⟨l[j],List.mem_iff_getElem.2 ⟨j,by rw[List.length_take];omega,List.getElem_take⟩,h⟩
theorem aN.jA(b:aN):b.fH=0↔b.kN:=by
 unfold aN.fH aN.kN;rw[mQ];refine and_congr Iff.rfl (forall_congr' λi=>imp_congr Iff.rfl ?_);unfold aN.jr aN.MB;rw[tJ,vG,decide_eq_false_iff_not];exact⟨λh=>⟨h.1,h.2.1⟩,λh=>⟨h.1,h.2,rfl,rfl⟩⟩
theorem aN.mD(b:aN):b.iP=0↔b.pX:=by
 unfold aN.iP aN.pX;rw[mQ];refine and_congr Iff.rfl (forall_congr' λi=>forall_congr' λhi=>?_);unfold aN.mg wS aN.Tar1 jI.inR;rw[tJ,vG,decide_eq_false_iff_not,decide_eq_true_eq,decide_eq_true_eq];refine and_congr Iff.rfl (and_congr ⟨λh k hk e=>h (vg (f:=jI.name) (d:=⟨⟨#[]⟩,0,0,0,0⟩) (Nat.le_of_lt hi) hk e),λh=>mX (f:=jI.name) (d:=⟨⟨#[]⟩,0,0,0,0⟩) (Nat.le_of_lt hi) h⟩ Iff.rfl)
theorem aN.lD(b:aN):b.je=0↔b.sU:=by
 unfold aN.je aN.sU;rw[mQ];refine and_congr Iff.rfl (forall_congr' λi=>forall_congr' λhi=>?_);unfold aN.lC uP aN.Cas1 jH.inR;rw[tJ,vG,decide_eq_false_iff_not,decide_eq_true_eq,decide_eq_true_eq];refine and_congr Iff.rfl (and_congr ⟨λh k hk e=>h (vg (f:=jH.name) (d:=⟨⟨#[]⟩,0,0,0,0,0⟩) (Nat.le_of_lt hi) hk e),λh=>mX (f:=jH.name) (d:=⟨⟨#[]⟩,0,0,0,0,0⟩) (Nat.le_of_lt hi) h⟩ Iff.rfl)
end Go.Proofs.YtnkejaohnhpbpaaGreatDoor
end
