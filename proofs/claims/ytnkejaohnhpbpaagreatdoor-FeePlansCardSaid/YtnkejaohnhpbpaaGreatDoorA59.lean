/- An append and where its list lies; lists that lie in older memory, or in newer. -/
import Derived.Test.YtnkejaohnhpbpaaGreatDoorA58
set_option linter.all false
namespace Go.Proofs.YtnkejaohnhpbpaaGreatDoor
section
open Go Go.RowKit Lift
def Gv(N:Nat)(w:World)(v:Value)(xs:List Int):Prop:=∃base off cap,v=.slice base xs.length cap∧∀i,i<xs.length→∃B,base=some ⟨B,off,none⟩∧B<N∧w.cell? ⟨B,off+i,none⟩=some (.int .i64 (xs.getD i 0))
section
variable {N M:Nat} {w w':World} {v:Value} {xs:List Int}
theorem bQ.n(h:bQ w v xs):Gv w.heap.size w v xs:=h
theorem Gv.at(h:Gv N w v xs)(hN:N≤w.heap.size):bQ w v xs:=by
 obtain⟨b,o,c,e,h⟩:=h;exact⟨b,o,c,e,λi hi=>let ⟨B,h1,h2,h3⟩:=h i hi;⟨B,h1,aA h2 hN,h3⟩⟩
theorem Gv.grow(h:Gv N w v xs)(hg:Grow M w w')(hN:N≤M):Gv N w' v xs:=by
 obtain⟨b,o,c,e,h⟩:=h;refine⟨b,o,c,e,λi hi=>let ⟨B,h1,h2,h3⟩:=h i hi;⟨B,h1,h2,?_⟩⟩;unfold World.cell? at h3 ⊢;rw[hg.block B (aA h2 hN)];exact h3
theorem Gv.same(h:Gv N w v xs)(hs:iD w w'):Gv N w' v xs:=by
 obtain⟨b,o,c,e,h⟩:=h;refine⟨b,o,c,e,λi hi=>let ⟨B,h1,h2,h3⟩:=h i hi;⟨B,h1,h2,?_⟩⟩;unfold World.cell? at h3 ⊢;rw[hs.heap];exact h3
end
theorem OX{w w':World}{N:Nat}{e:TypeId}{k n:Nat}{v:Value}{xs:List Value}(h:w.ownsRow N e k v n xs)(hg:Grow w.heap.size w w'):w'.ownsRow N e k v n xs:=eu h λg o _ hh=>(hg.block g (Array.getElem?_eq_some_iff.1 hh).1).trans hh
end
section
open Go Go.RowKit Lift
theorem iM(xs:List Int)(v:Value)(x:Int)(w:World)(h:bQ w v xs)(hn:xs.length<1000000) :
  CallsIn Fz 0 Tryz.prog 40 #[v,.int .i64 x] w λe w'=>e=.returned (.bool (decide (x∈xs)))∧w'=w:=by
 obtain⟨base,off,cap,rfl,h2⟩:=h;gi_enter Tryz.func40,Tryz.ntmps40
 gi_wp2;gi_loopw [5] (λi wr=>wr=w∧∃k:Nat,k≤xs.length∧i=.int .i64 k∧∀j,j<k→xs.getD j 0≠x) (λi _=>xs.length-(intOf i).toNat)
 case atStart=>exact⟨rfl,0,Nat.zero_le _,rfl,λj hj=>absurd hj (by omega)⟩
 case round=>
  obtain⟨rfl,k,hk,rfl,hno⟩:=hrel;by_cases hlt:k<xs.length
  ·obtain⟨B,rfl,h4,h5⟩:=h2 k hlt;by_cases he:xs.getD k 0=x
   ·have hm:x∈xs:=by rw[← he];simp[hlt]
    rw[he]at h5;have HM:=Lib.hid hm;clear hm he hno;gi_wp2;go_ret;exact⟨by rw[decide_eq_true HM.out];rfl,rfl⟩
   ·obtain⟨y,hy⟩:∃y,xs.getD k 0=y:=⟨_,rfl⟩
    rw[hy]at h5 he;have hyx:(y==x)=false:=by simp[he]
    have HY:=Lib.hid hy;have HN:=Lib.hid hno;have HE:=Lib.hid he;clear hy hno he;gi_wp2;go_roundw
    case rel=>
     refine⟨by trivial,k+1,by omega,by go_num,λj hj=>?_⟩;by_cases e:j=k
     ·subst e;rw[HY.out];exact HE.out
     ·exact HN.out j (by omega)
    case measure=>simp[intOf];omega
  ·obtain rfl:k=xs.length:=by omega
   have HN:=Lib.hid hno;clear hno;gi_wp2;go_ret;have hd:decide (x∈xs)=false:=decide_eq_false λhm=>by
    obtain⟨j,hj,e⟩:=List.mem_iff_getElem.1 hm;exact absurd (by simp[hj,e]) (HN.out j hj)
   exact⟨by rw[hd];rfl,rfl⟩
end
section
open Go Go.RowKit Lift
def failing(b:Book)(d:Int)(i:Nat)(s:St):Prop:=((b.aO i).day=d∧(b.aO i).kind=2)∧¬St.Nq b i s
instance (b:Book) (d:Int) (i:Nat) (s:St):Decidable (failing b d i s):=by unfold failing;exact inferInstance
def St.pre(b:Book)(d:Int)(s:St):St:=((s.iq b d).ins b d).keep b d
def failed(b:Book)(d:Int)(u:St)(k:Nat):List Nat:=(List.range k).filter λi=>decide (failing b d i (iter (St.jM b d) i u))
def Book.fresh(b:Book)(d:Int):List Nat:=if d∈b.bD then failed b d ((b.after (d-1)).pre b d) b.ps.length else[]
structure VoidsTo (b:Book) (m:Nat):Prop where
 of:∀x∈(b.after ((m:Int)-1)).bM,∃i:Nat,x=i∧i∈b.fresh (b.aO i).day∧(b.aO i).day<m
 to:∀i:Nat,i∈b.fresh (b.aO i).day→0≤(b.aO i).day→(b.aO i).day<m→(i:Int)∈(b.after ((m:Int)-1)).bM
 nd:(b.after ((m:Int)-1)).bM.Nodup
structure Bg (b:Book) (V:List Int):Prop where
 iff:∀i:Nat,i<b.ps.length→((i:Int)∈V↔i∈b.fresh (b.aO i).day)
 of:∀x∈V,∃i:Nat,x=i∧i<b.ps.length∧(b.aO i).kind=2
 nd:V.Nodup
theorem OC:∀(n:Nat) (V:List Int),V.Nodup→(∀x∈V,0≤x∧x<n)→V.length≤n
 |0,V,_,h=>by
  cases V with
  |nil=>exact ay _
  |cons x V=>have:=h x (by simp);omega
 |n+1,V,hn,h=>by
  have ih:=OC n (V.erase (n:Int)) (hn.erase _) λx hx=>by
   have hm:=(List.Nodup.mem_erase_iff hn).1 hx;have:=h x hm.2;have:=hm.1;omega
  have:=List.length_erase (a:=(n:Int)) (l:=V);split at this<;>omega
theorem Bg.len{b:Book}{V:List Int}(h:Bg b V):V.length≤b.ps.length:=
 OC _ V h.nd λx hx=>by
  obtain⟨i,rfl,h1,-⟩:=h.of x hx;omega
def Book.without(b:Book)(V:List Int)(j:Nat):List Pay:=((List.range j).filter λi:Nat=>decide ((i:Int)∉V)).map b.aO
section
variable {b:Book} {V:List Int} (hv:Valid b) (hV:Bg b V)
include hv hV
end
def aP.without(b:aP)(V:List Int)(j:Nat):List dM:=((List.range j).filter λi:Nat=>decide ((i:Int)∉V)).map b.aO
theorem Ig(x y:Int):ltI x y=decide (x<y):=by
 unfold ltI GY;by_cases h:x<y
 ·simp[h]
 ·by_cases h2:y<x<;>simp[h,h2]
theorem IZ:Sort.SWO ltI where
 irrefl:=λx=>by rw[Ig];simp
 trans:=λx y z h1 h2=>by rw[Ig,decide_eq_true_eq]at *;omega
 ntrans:=λx y z h1 h2=>by rw[Ig,decide_eq_false_iff_not]at *;omega
end
