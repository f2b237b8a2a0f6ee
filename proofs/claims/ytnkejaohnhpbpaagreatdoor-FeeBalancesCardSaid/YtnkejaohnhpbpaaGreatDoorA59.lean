/- An append and where its list lies; lists that lie in older memory, or in newer. -/
import Derived.Maps.AppendAt
import Derived.Sort.LotA
import Derived.Test.YtnkejaohnhpbpaaGreatDoorA17
import Derived.Test.YtnkejaohnhpbpaaGreatDoorA47
import Derived.Test.YtnkejaohnhpbpaaGreatDoorA48
import Derived.Test.YtnkejaohnhpbpaaGreatDoorA58
set_option linter.all false
section
namespace Go.Proofs.YtnkejaohnhpbpaaGreatDoor
open Go Go.RowKit Lift
def CY(N:Nat)(w:World)(v:Value)(xs:List Int):Prop:=∃base off cap,v=.slice base xs.length cap∧∀i,i<xs.length→∃B,base=some ⟨B,off,none⟩∧B<N∧w.cell? ⟨B,off+i,none⟩=some (.int .i64 (xs.getD i 0))
section
variable {N M:Nat} {w w':World} {v:Value} {xs:List Int}
theorem dZ.n(h:dZ w v xs):CY w.heap.size w v xs:=h
theorem CY.at(h:CY N w v xs)(hN:N≤w.heap.size):dZ w v xs:=by
 obtain⟨b,o,c,e,h⟩:=h;exact⟨b,o,c,e,λi hi=>let ⟨B,h1,h2,h3⟩:=h i hi;⟨B,h1,aG h2 hN,h3⟩⟩
theorem CY.grow(h:CY N w v xs)(hg:Grow M w w')(hN:N≤M):CY N w' v xs:=by
 obtain⟨b,o,c,e,h⟩:=h;refine⟨b,o,c,e,λi hi=>let ⟨B,h1,h2,h3⟩:=h i hi;⟨B,h1,h2,?_⟩⟩;unfold World.cell? at h3 ⊢;rw[hg.block B (aG h2 hN)];exact h3
theorem CY.same(h:CY N w v xs)(hs:iH w w'):CY N w' v xs:=by
 obtain⟨b,o,c,e,h⟩:=h;refine⟨b,o,c,e,λi hi=>let ⟨B,h1,h2,h3⟩:=h i hi;⟨B,h1,h2,?_⟩⟩;unfold World.cell? at h3 ⊢;rw[hs.heap];exact h3
end
end Go.Proofs.YtnkejaohnhpbpaaGreatDoor
end
section
namespace Go.Proofs.YtnkejaohnhpbpaaGreatDoor
open Go Go.RowKit Lift
end Go.Proofs.YtnkejaohnhpbpaaGreatDoor
end
section
namespace Go.Proofs.YtnkejaohnhpbpaaGreatDoor
open Go Go.RowKit Lift
def failing(b:Book)(d:Int)(i:Nat)(s:St):Prop:=((b.aO i).day=d∧(b.aO i).kind=2)∧¬St.Iz b i s
instance (b:Book) (d:Int) (i:Nat) (s:St):Decidable (failing b d i s):=by unfold failing;exact inferInstance
theorem vw{f:Nat→St→St}(h:∀c s,(f c s).voids=s.voids):∀k s,(iter f k s).voids=s.voids
 |0,_=>rfl
 |k+1,s=>(h k _).trans (vw h k s)
theorem KX(b:Book)(d:Int)(s:St):(s.iE b d).voids=s.voids:=vw (λc s=>by unfold St.fP;split<;>rfl) _ _
theorem E5(b:Book)(d:Int)(s:St):(s.keep b d).voids=s.voids:=vw (λc s=>by unfold St.iD;split<;>rfl) _ _
theorem ins_vds(b:Book)(d:Int)(s:St):(s.ins b d).voids=s.voids:=vw (λi s=>by
 unfold St.jk;split
 ·split
  ·rfl
  ·unfold St.inn;split<;>rfl
 ·rfl) _ _
theorem Oc(b:Book)(d:Int)(i:Nat)(s:St):(St.jl b d i s).voids=if failing b d i s then s.voids++[(i:Int)]else s.voids:=by
 by_cases hf:failing b d i s
 ·rw[if_pos hf];unfold St.jl St.mv;rw[if_pos hf.1,if_neg hf.2]
 ·rw[if_neg hf];unfold St.jl;by_cases h:(b.aO i).day=d∧(b.aO i).kind=2
  ·rw[if_pos h];unfold St.mv;by_cases h2:St.Iz b i s
   ·rw[if_pos h2,E5];rfl
   ·exact absurd ⟨h,h2⟩ hf
  ·rw[if_neg h]
def St.pre(b:Book)(d:Int)(s:St):St:=((s.iE b d).ins b d).keep b d
def failed(b:Book)(d:Int)(u:St)(k:Nat):List Nat:=(List.range k).filter λi=>decide (failing b d i (iter (St.jl b d) i u))
theorem xC(b:Book)(d:Int)(u:St):∀k,(iter (St.jl b d) k u).voids=u.voids++(failed b d u k).map λi:Nat=>(i:Int)
 |0=>by simp[iter,failed]
 |k+1=>by
  have ih:=xC b d u k;rw[iter,Oc,ih];unfold failed;rw[List.range_succ,List.filter_append,List.map_append];by_cases h:failing b d k (iter (St.jl b d) k u)
  ·rw[if_pos h];simp[h]
  ·rw[if_neg h];simp[h]
theorem Nk(b:Book)(d:Int)(s:St):(St.pV b s d).voids=s.voids++(failed b d (s.pre b d) b.ps.length).map λi:Nat=>(i:Int):=by
 have:=xC b d (s.pre b d) b.ps.length;unfold St.pV St.mvs;rw[show((s.iE b d).ins b d).keep b d=s.pre b d from rfl,this]
 congr 1
 unfold St.pre;rw[E5,ins_vds,KX]
def Book.fresh(b:Book)(d:Int):List Nat:=if d∈b.bD then failed b d ((b.after (d-1)).pre b d) b.ps.length else[]
theorem JX(b:Book)(d:Int):(b.after d).voids=(b.after (d-1)).voids++(b.fresh d).map λi:Nat=>(i:Int):=by
 have h:=b.GK (d-1);rw[show d-1+1=d by omega]at h;unfold Book.fresh;by_cases hd:d∈b.bD
 ·rw[if_pos hd]at h ⊢;rw[h,Nk]
 ·rw[if_neg hd]at h ⊢;rw[h];simp
theorem wH{b:Book}{d:Int}{i:Nat}(h:i∈b.fresh d):d∈b.bD∧i<b.ps.length∧failing b d i (iter (St.jl b d) i ((b.after (d-1)).pre b d)):=by
 unfold Book.fresh at h;by_cases hd:d∈b.bD
 ·rw[if_pos hd]at h;have:=List.mem_filter.1 h;exact⟨hd,List.mem_range.1 this.1,by simpa using this.2⟩
 ·rw[if_neg hd]at h;simp at h
theorem EW(b:Book)(d:Int):(b.fresh d).Nodup:=by
 unfold Book.fresh failed;split
 ·exact List.Pairwise.filter _ List.nodup_range
 ·exact List.nodup_nil
structure VoidsTo (b:Book) (m:Nat):Prop where
 of:∀x∈(b.after ((m:Int)-1)).voids,∃i:Nat,x=i∧i∈b.fresh (b.aO i).day∧(b.aO i).day<m
 to:∀i:Nat,i∈b.fresh (b.aO i).day→0≤(b.aO i).day→(b.aO i).day<m→(i:Int)∈(b.after ((m:Int)-1)).voids
 nd:(b.after ((m:Int)-1)).voids.Nodup
theorem JM{b:Book}(hv:Valid b):∀m,VoidsTo b m
 |0=>by
  have e:b.after (((0:Nat):Int)-1)=St.init:=hv.GL;refine⟨?_,λi _ h0 h1=>?_,?_⟩
  ·rw[e];intro x hx;exact absurd hx (List.not_mem_nil)
  ·omega
  ·rw[e];exact List.nodup_nil
 |m+1=>by
  have ih:=JM hv m;have e:=JX b (m:Int);have e1:((m+1:Nat):Int)-1=m:=by omega
  refine⟨λx hx=>?_,λi hi h0 h1=>?_,?_⟩
  ·rw[e1,e]at hx;rcases List.mem_append.1 hx with hx|hx
   ·obtain⟨i,h1,h2,h3⟩:=ih.of x hx;exact⟨i,h1,h2,by omega⟩
   ·obtain⟨i,h1,rfl⟩:=List.mem_map.1 hx;have hd:=(wH h1).2.2.1.1;exact⟨i,rfl,by rw[hd];exact h1,by omega⟩
  ·rw[e1,e];by_cases hd:(b.aO i).day=m
   ·rw[hd]at hi;exact List.mem_append_right _ (List.mem_map.2 ⟨i,hi,rfl⟩)
   ·exact List.mem_append_left _ (ih.to i hi h0 (by omega))
  ·rw[e1,e];refine List.nodup_append.2 ⟨ih.nd,?_,?_⟩
   ·have h:=EW b (m:Int);unfold List.Nodup at h ⊢;exact List.pairwise_map.2 (h.imp λhne e=>hne (by omega))
   ·intro x hx y hy e;obtain⟨i,h1,h2,h3⟩:=ih.of x hx;obtain⟨k,h4,rfl⟩:=List.mem_map.1 hy;have hd:=(wH h4).2.2.1.1;have:i=k:=by omega
    subst this;omega
structure pY (b:Book) (V:List Int):Prop where
 iff:∀i:Nat,i<b.ps.length→((i:Int)∈V↔i∈b.fresh (b.aO i).day)
 of:∀x∈V,∃i:Nat,x=i∧i<b.ps.length∧(b.aO i).kind=2
 nd:V.Nodup
theorem L8{b:Book}(hv:Valid b):pY b (b.after 9999).voids:=by
 obtain⟨h1,h2,h3⟩:=JM hv 10000;have e:((10000:Nat):Int)-1=9999:=rfl;rw[e]at h1 h2 h3;refine⟨λi hi=>⟨λq=>?_,λq=>?_⟩,λx hx=>?_,h3⟩
 ·obtain⟨k,g1,g2,-⟩:=h1 _ q;have:i=k:=by omega
  subst this;exact g2
 ·have hp:=hv.p _ (hv.pay hi);exact h2 i q hp.2.1 (by omega)
 ·obtain⟨i,g1,g2,-⟩:=h1 _ hx;have:=wH g2;exact⟨i,g1,this.2.1,this.2.2.1.2⟩
theorem Jv:∀(n:Nat) (V:List Int),V.Nodup→(∀x∈V,0≤x∧x<n)→V.length≤n
 |0,V,_,h=>by
  cases V with
  |nil=>exact ay _
  |cons x V=>have:=h x (by simp);omega
 |n+1,V,hn,h=>by
  have ih:=Jv n (V.erase (n:Int)) (hn.erase _) λx hx=>by
   have hm:=(List.Nodup.mem_erase_iff hn).1 hx;have:=h x hm.2;have:=hm.1;omega
  have:=List.length_erase (a:=(n:Int)) (l:=V);split at this<;>omega
theorem pY.len{b:Book}{V:List Int}(h:pY b V):V.length≤b.ps.length:=
 Jv _ V h.nd λx hx=>by
  obtain⟨i,rfl,h1,-⟩:=h.of x hx;omega
def Book.without(b:Book)(V:List Int)(j:Nat):List Pay:=((List.range j).filter λi:Nat=>decide ((i:Int)∉V)).map b.aO
section
variable {b:Book} {V:List Int} (hv:Valid b) (hV:pY b V)
include hv hV
end
def aN.without(b:aN)(V:List Int)(j:Nat):List dS:=((List.range j).filter λi:Nat=>decide ((i:Int)∉V)).map b.aO
theorem DJ(x y:Int):ltI x y=decide (x<y):=by
 unfold ltI EC;by_cases h:x<y
 ·simp[h]
 ·by_cases h2:y<x<;>simp[h,h2]
theorem JJ:Sort.SWO ltI where
 irrefl:=λx=>by rw[DJ];simp
 trans:=λx y z h1 h2=>by rw[DJ,decide_eq_true_eq]at *;omega
 ntrans:=λx y z h1 h2=>by rw[DJ,decide_eq_false_iff_not]at *;omega
theorem uz(xs:List Int):xs.Perm (jf xs):=by
 have h:=(Sort.insertionSort_holds (lt:=ltI) JJ xs.toArray 0 xs.length (Nat.zero_le _) (by simp)).1;unfold jf;generalize Sort.insertionSort ltI xs.toArray 0 xs.length=A at *;obtain⟨h1,-,h3⟩:=h;have hz:xs.length=A.size:=by rw[h1];simp
 have e2:(xs.toArray.extract 0 xs.length)=xs.toArray:=by simp
 rw[e2,hz,Array.extract_size]at h3;exact h3.symm
theorem Ee(xs:List Int)(hn:xs.Nodup):(jf xs).Pairwise (·<·):=by
 have h:=(Sort.insertionSort_holds (lt:=ltI) JJ xs.toArray 0 xs.length (Nat.zero_le _) (by simp)).2;have hd:=(uz xs).nodup_iff.1 hn;have hz:=iq xs;unfold jf at *;generalize Sort.insertionSort ltI xs.toArray 0 xs.length=A at *;rw[List.pairwise_iff_getElem];intro i j hi hj hij;have hi':i<A.size:=by simpa using hi
 have hj':j<A.size:=by simpa using hj
 have:=h i j (Nat.zero_le _) hij (by rw[Array.length_toList]at hz;omega);rw[getElem!_pos A i hi',getElem!_pos A j hj',DJ,decide_eq_false_iff_not]at this;have hne:A.toList[i]≠A.toList[j]:=List.pairwise_iff_getElem.1 hd i j hi hj hij;simp only[Array.getElem_toList]at hne ⊢;omega
end Go.Proofs.YtnkejaohnhpbpaaGreatDoor
end
