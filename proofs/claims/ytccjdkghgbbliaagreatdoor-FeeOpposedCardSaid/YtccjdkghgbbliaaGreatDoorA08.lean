/- What the sort and Compact make of the days. -/
import Derived.Shelf.Slices.In.SortAlone
import Derived.Shelf.Slices.In.CompactI
import Derived.Test.YtccjdkghgbbliaaGreatDoorA07
set_option linter.all false
section
namespace Go.Proofs.YtccjdkghgbbliaaGreatDoor
set_option maxHeartbeats 1000000
set_option maxRecDepth 10000
open Go Go.RowKit
theorem lg(d:Array Int)(n:Nat)(hs:∀i j,i≤j→j<n→d[i]! ≤ d[j]!):∀m,m≤n→(Lib.compactUpTo d m).Pairwise (·<·)∧∀y,y∈Lib.compactUpTo d m↔∃j,j<m∧d[j]! = y
 |0,_=>by simp[Lib.compactUpTo]
 |m+1,hm=>by
  obtain⟨h1,h2⟩:=lg d n hs m (by omega);rw[Lib.compactUpTo_succ];by_cases hk:Lib.keeps d m=true
  ·rw[if_pos hk];have hk':m=0∨d[m]! ≠ d[m-1]! := by simpa[Lib.keeps]using hk
   refine⟨List.pairwise_append.2 ⟨h1,by simp,λa ha c hc=>?_⟩,λy=>?_⟩
   ·rw[List.mem_singleton]at hc;subst hc;obtain⟨j,hj,rfl⟩:=(h2 a).1 ha;rcases hk' with h0|h0
    ·omega
    ·have a1:=hs j (m-1) (by omega) (by omega);have a2:=hs (m-1) m (by omega) (by omega);omega
   ·rw[List.mem_append,h2,List.mem_singleton];constructor
    ·rintro(⟨j,hj,e⟩|e)
     ·exact⟨j,by omega,e⟩
     ·exact⟨m,by omega,e.symm⟩
    ·rintro⟨j,hj,e⟩;by_cases hjm:j=m
     ·subst hjm;exact .inr e.symm
     ·exact .inl ⟨j,by omega,e⟩
  ·rw[if_neg hk,List.append_nil];have hk':¬(m=0∨d[m]! ≠ d[m-1]!):=by simpa[Lib.keeps]using hk
   refine⟨h1,λy=>?_⟩;rw[h2];constructor
   ·rintro⟨j,hj,e⟩;exact⟨j,by omega,e⟩
   ·rintro⟨j,hj,e⟩;by_cases hjm:j=m
    ·subst hjm;refine⟨j-1,by omega,?_⟩;rw[← e];exact(Classical.not_not.1 λh=>hk' (.inr h)).symm
    ·exact⟨j,by omega,e⟩
theorem qC(b:Book):Lib.compact (b.dD.mergeSort λx y=>decide (x≤y))=b.bP:=by
 have hsorted:(b.dD.mergeSort λx y=>decide (x≤y)).Pairwise (λx y=>decide (x≤y)=true):=
  List.pairwise_mergeSort (λa b c h1 h2=>by simp at *;omega) (λa b=>by simp;omega) _
 have hperm:=List.mergeSort_perm b.dD (λx y=>decide (x≤y));generalize (b.dD.mergeSort λx y=>decide (x≤y))=zs at *;have hget:∀j,j<zs.length→zs.toArray[j]! = zs.getD j 0:=λj hj=>by simp[hj]
 obtain⟨h1,h2⟩:=lg zs.toArray zs.length (λi j hij hj=>by
  by_cases e:i=j
  ·subst e;exact Int.le_refl _
  ·rw[hget i (by omega),hget j hj];have:=List.pairwise_iff_getElem.1 hsorted i j (by omega) hj (by omega);simpa[show i<zs.length by omega,hj]using this) zs.length (ak _)
 refine Ci h1 b.jJ λy=>?_
 show y∈Lib.compactUpTo zs.toArray zs.length↔_
 rw[h2,b.lH,← hperm.mem_iff];constructor
 ·rintro⟨j,hj,rfl⟩;rw[hget j hj];simp[hj]
 ·intro hy;obtain⟨j,hj,e⟩:=List.mem_iff_getElem.1 hy;exact⟨j,hj,by rw[hget j hj];simp[hj,e]⟩
theorem yw{l:List Int}(h:l.Pairwise (·<·))(n:Int)(k:Nat)(hk:k≤l.length)(hle:∀j (hj:j<k),l[j]'(by omega)≤n)(hgt:∀(hk':k<l.length),n<l[k]):l.filter (λd=>decide (d≤n))=l.take k:=by
 rw[← List.take_append_drop k l];have e1:(l.take k).filter (λd=>decide (d≤n))=l.take k:=List.filter_eq_self.2 λa ha=>by
  obtain⟨j,hj,rfl⟩:=List.mem_iff_getElem.1 ha;rw[List.length_take]at hj;simp only[List.getElem_take,decide_eq_true_eq];exact hle j (by omega)
 have e2:(l.drop k).filter (λd=>decide (d≤n))=[]:=List.filter_eq_nil_iff.2 λa ha=>by
  obtain⟨j,hj,rfl⟩:=List.mem_iff_getElem.1 ha;rw[List.length_drop]at hj;have hg:=hgt (by omega);simp only[List.getElem_drop,decide_eq_true_eq];by_cases e:j=0
  ·subst e;simp only[Nat.add_zero];omega
  ·have:=List.pairwise_iff_getElem.1 h k (k+j) (by omega) (by omega) (by omega);omega
 rw[List.filter_append,e1,e2,List.append_nil,List.take_append_drop]
end Go.Proofs.YtccjdkghgbbliaaGreatDoor
end
section
namespace Go.Proofs.YtccjdkghgbbliaaGreatDoor
set_option maxHeartbeats 1000000
set_option maxRecDepth 10000
open Go Go.RowKit
def nI(b:Book)(d:Int)(c:Nat)(x:Std):Std:=if(b.fee c d).2=false∧x.state=0 then⟨2,0,x.day,x.fee⟩else x
def qB(b:Book)(d:Int)(c:Nat)(x:Std):Std:=if x.state=0∧(b.fee c d).2=true∧(b.fee c d).1≤x.held then⟨1,0,d,(b.fee c d).1⟩else x
def CZ(am:Int)(x:Std):Std:={ x with held:=wrap64 (x.held+am) }
theorem uZ(f:Nat→St→St)(g:Nat→Std→Std)(hf:∀c s j,(f c s).cases j=if j=c then g c (s.cases c)else s.cases j):∀k s j,(iter f k s).cases j=if j<k then g j (s.cases j)else s.cases j
 |0,s,j=>by simp[iter]
 |k+1,s,j=>by
  have ih:=uZ f g hf k s;rw[iter,hf,ih,ih];by_cases h:j=k
  ·subst h;simp
  ·by_cases h2:j<k
   ·rw[if_neg h,if_pos h2,if_pos (by omega)]
   ·rw[if_neg h,if_neg h2,if_neg (by omega)]
theorem Gm(b:Book)(d:Int)(c:Nat)(s:St)(j:Nat):(St.jW b d c s).cases j=if j=c then nI b d c (s.cases c)else s.cases j:=by
 unfold St.jW nI;by_cases h:(b.fee c d).2=false∧(s.cases c).state=0
 ·rw[if_pos h,if_pos h];by_cases e:j=c<;>simp[St.setState,St.give,upd,e]
 ·rw[if_neg h,if_neg h];by_cases e:j=c<;>simp[e]
theorem Jd(b:Book)(d:Int)(c:Nat)(s:St)(j:Nat):(St.oq b d c s).cases j=if j=c then qB b d c (s.cases c)else s.cases j:=by
 unfold St.oq qB;by_cases h:(s.cases c).state=0∧(b.fee c d).2=true∧(b.fee c d).1≤(s.cases c).held
 ·rw[if_pos h,if_pos h];by_cases e:j=c<;>simp[St.TB,St.kept,St.iR,St.zT,St.give,upd,e]
 ·rw[if_neg h,if_neg h];by_cases e:j=c<;>simp[e]
theorem yF(b:Book)(d:Int)(s:St)(j:Nat):(s.iY b d).cases j=if j<b.cs.length then nI b d j (s.cases j)else s.cases j:=uZ _ (nI b d) (Gm b d) _ _ _
theorem vg(b:Book)(d:Int)(s:St)(j:Nat):(s.keep b d).cases j=if j<b.cs.length then qB b d j (s.cases j)else s.cases j:=uZ _ (qB b d) (Jd b d) _ _ _
theorem Aq(b:Book)(i:Nat)(s:St):(s.Dk b i).cases=s.cases:=rfl
theorem tJ(s:St)(c:Nat)(x:Int)(j:Nat):(s.addHeld c x).cases j=if j=c then CZ x (s.cases c)else s.cases j:=by
 by_cases e:j=c<;>simp[St.addHeld,St.iR,CZ,upd,e]
theorem xE(b:Book)(i:Nat)(s:St)(j:Nat):(s.inn b i).cases j=if j=(b.aV i).cas∧(s.cases (b.aV i).cas).state=0∧(b.aV i).bg=b.bg (b.aV i).cas then CZ (b.aV i).amount (s.cases j)else s.cases j:=by
 unfold St.inn;split
 ·rename_i h;rw[tJ]
  show(if j=_ then CZ _ (s.cases _)else s.cases j)=_
  by_cases e:j=(b.aV i).cas
  ·rw[if_pos e,if_pos ⟨e,h⟩,e]
  ·rw[if_neg e,if_neg (λh=>e h.1)]
 ·rename_i h;rw[Aq,if_neg (λh'=>h h'.2)]
theorem TN(b:Book)(i:Nat)(s:St):(∀j,(s.mv b i).cases j=s.cases j)∨((s.cases (b.aV i).cas).state=0∧∀j,(s.mv b i).cases j=if j<b.cs.length then qB b (b.aV i).day j (if j=(b.aV i).cas then CZ (b.aV i).amount (s.cases j)else s.cases j)else(if j=(b.aV i).cas then CZ (b.aV i).amount (s.cases j)else s.cases j)):=by
 unfold St.mv;by_cases h:St.mvOk b i s
 ·rw[if_pos h];refine .inr ⟨h.2.1,λj=>?_⟩;rw[vg,tJ];have:∀k,(s.Cm (b.aV i).bg (b.aV i).amount).cases k=s.cases k:=λ_=>rfl;rw[this,this];by_cases e:j=(b.aV i).cas
  ·rw[← e]
  ·rw[if_neg e,if_neg e]
 ·rw[if_neg h];exact .inl λ_=>rfl
theorem fee_due(b:Book)(c:Nat)(d:Int)(hv:0≤(b.aY c).fZ):(b.fee c d).2=decide (d≤(b.aY c).due+(b.aY c).fZ):=by
 unfold Book.fee qE;by_cases h1:d≤(b.aY c).due
 ·have:d≤(b.aY c).due+(b.aY c).fZ:=by omega
  simp[h1,this]
 ·by_cases h2:d≤(b.aY c).due+(b.aY c).fZ<;>simp[h1,h2]
theorem Valid.cas{b:Book}(hv:Valid b){c:Nat}(hc:c<b.cs.length):b.aY c∈b.cs:=by
 have e1:b.cs[c]?=some (b.aY c):=by simp[Book.aY,hc]
 exact List.mem_of_getElem? e1
theorem Valid.tar{b:Book}(hv:Valid b){c:Nat}(hc:c<b.cs.length):b.dM c∈b.ts:=by
 have hl:=(hv.k _ (hv.cas hc)).1;have e2:b.ts[(b.aY c).tar]?=some (b.dM c):=by
  have:b.dM c=b.ts.getD (b.aY c).tar ⟨⟨#[]⟩,0,0,0,0⟩:=rfl;rw[this];simp[hl]
 exact List.mem_of_getElem? e2
theorem Valid.pay{b:Book}(hv:Valid b){i:Nat}(hi:i<b.ps.length):b.aV i∈b.ps:=by
 have e1:b.ps[i]?=some (b.aV i):=by simp[Book.aV,hi]
 exact List.mem_of_getElem? e1
theorem Valid.pay_ev{b:Book}(hv:Valid b){i:Nat}(hi:i<b.ps.length):(b.aV i).day∈b.bP:=by
 rw[b.lH];unfold Book.dD;exact List.mem_cons_of_mem _ (List.mem_append_left _ (List.mem_map.2 ⟨_,hv.pay hi,rfl⟩))
section
variable {b:Book} (hv:Valid b) {c:Nat} (hc:c<b.cs.length)
include hv hc
theorem Valid.NG:0≤(b.dM c).base+(b.dM c).each * max 0 ((b.aY c).classes-(b.dM c).free)∧(b.dM c).base+(b.dM c).each * max 0 ((b.aY c).classes-(b.dM c).free)≤460000:=by
 have h1:=hv.k _ (hv.cas hc);have h2:=hv.t _ (hv.tar hc);have hm0:0≤max 0 ((b.aY c).classes-(b.dM c).free):=by omega
 have hm1:max 0 ((b.aY c).classes-(b.dM c).free)≤45:=by omega
 have:=Int.mul_nonneg h2.2.2.2.1 hm0;have:(b.dM c).each * max 0 ((b.aY c).classes-(b.dM c).free)≤10000 * 45:=Int.mul_le_mul h2.2.2.2.2.1 hm1 hm0 (by omega);omega
theorem Valid.due(d:Int):(b.fee c d).2=decide (d≤(b.aY c).due+(b.aY c).fZ):=fee_due b c d (hv.k _ (hv.cas hc)).2.2.2.2.2.1
theorem Valid.SB(d:Int):0≤(b.fee c d).1∧(b.fee c d).1≤470000:=by
 have h:=hv.NG hc;have h1:=hv.k _ (hv.cas hc);unfold Book.fee qE;generalize (b.dM c).base+(b.dM c).each * max 0 ((b.aY c).classes-(b.dM c).free)=n at *;split
 ·simp only;omega
 ·split<;>simp only<;>omega
theorem Valid.IU{d e:Int}(hde:d≤e)(hdue:(b.fee c e).2=true):(b.fee c d).1≤(b.fee c e).1∧(b.fee c d).2=true:=by
 have h:=hv.NG hc;have h1:=hv.k _ (hv.cas hc);rw[hv.due hc,decide_eq_true_eq]at hdue;rw[hv.due hc,decide_eq_true_eq];refine⟨?_,by omega⟩;unfold Book.fee qE;generalize (b.dM c).base+(b.dM c).each * max 0 ((b.aY c).classes-(b.dM c).free)=n at *;by_cases h2:d≤(b.aY c).due
 ·by_cases h3:e≤(b.aY c).due
  ·simp[h2,h3]
  ·simp[h2,h3,hdue];omega
 ·have h3:¬e≤(b.aY c).due:=by omega
  have h4:d≤(b.aY c).due+(b.aY c).fZ:=by omega
  simp[h2,h3,h4,hdue]
theorem Valid.end_ev:(b.aY c).due+(b.aY c).fZ+1∈b.bP:=by
 rw[b.lH];unfold Book.dD;exact List.mem_cons_of_mem _ (List.mem_append_right _ (List.mem_map.2 ⟨_,hv.cas hc,rfl⟩))
end
def Mid(b:Book)(c:Nat)(d m:Int)(x:Std):Prop:=
 (x.state=0∧x.day=0∧x.fee=0∧0≤x.held∧x.held≤m∧(b.fee c d).2=true)∨
 (x.state=1∧x.held=0∧0≤x.day∧x.day≤d∧b.fee c x.day=(x.fee,true))∨
 (x.state=2∧x.held=0∧x.day=0∧x.fee=0∧(b.fee c d).2=false)
def Aft(b:Book)(c:Nat)(d:Int)(x:Std):Prop:=
 (x.state=0∧x.day=0∧x.fee=0∧0≤x.held∧x.held<(b.fee c d).1∧(b.fee c d).2=true)∨
 (x.state=1∧x.held=0∧0≤x.day∧x.day≤d∧b.fee c x.day=(x.fee,true))∨
 (x.state=2∧x.held=0∧x.day=0∧x.fee=0∧(b.fee c d).2=false)
def Fore(b:Book)(c:Nat)(d:Int)(x:Std):Prop:=
 (x.state=0∧x.day=0∧x.fee=0∧0≤x.held∧x.held≤470000)∨
 (x.state=1∧x.held=0∧0≤x.day∧x.day≤d∧b.fee c x.day=(x.fee,true))∨
 (x.state=2∧x.held=0∧x.day=0∧x.fee=0∧(b.fee c d).2=false)
section
variable {b:Book} {c:Nat} {d m:Int} {x:Std}
theorem Fore.iY(h:Fore b c d x):Mid b c d 470000 (nI b d c x):=by
 unfold nI;rcases h with⟨h1,h2,h3,h4,h5⟩|h|⟨h1,h2,h3,h4,h5⟩
 ·cases hd:(b.fee c d).2 with
  |false=>rw[if_pos ⟨rfl,h1⟩];exact .inr (.inr ⟨rfl,rfl,h2,h3,hd⟩)
  |true=>rw[if_neg (by simp)];exact .inl ⟨h1,h2,h3,h4,h5,hd⟩
 ·rw[if_neg (by have:=h.1;omega)];exact .inr (.inl h)
 ·rw[if_neg (by omega)];exact .inr (.inr ⟨h1,h2,h3,h4,h5⟩)
theorem Mid.keep(h:Mid b c d m x)(hd:0≤d):Aft b c d (qB b d c x):=by
 unfold qB;rcases h with⟨h1,h2,h3,h4,h5,h6⟩|h|h
 ·by_cases hf:(b.fee c d).1≤x.held
  ·rw[if_pos ⟨h1,h6,hf⟩];refine .inr (.inl ⟨rfl,rfl,hd,Int.le_refl _,?_⟩)
   show b.fee c d=((b.fee c d).1,true)
   rw[← h6]
  ·rw[if_neg (λh=>hf h.2.2)];exact .inl ⟨h1,h2,h3,h4,by omega,h6⟩
 ·rw[if_neg (by have:=h.1;omega)];exact .inr (.inl h)
 ·rw[if_neg (by have:=h.1;omega)];exact .inr (.inr h)
theorem Mid.mono{m':Int}(h:Mid b c d m x)(hm:m≤m'):Mid b c d m' x:=by
 rcases h with⟨h1,h2,h3,h4,h5,h6⟩|h|h
 ·exact .inl ⟨h1,h2,h3,h4,by omega,h6⟩
 ·exact .inr (.inl h)
 ·exact .inr (.inr h)
theorem Mid.add{am:Int}(h:Mid b c d m x)(hs:x.state=0)(h0:0≤am)(h1:am≤10000)(hm:m≤1000000):Mid b c d (m+10000) (CZ am x):=by
 rcases h with⟨h1,h2,h3,h4,h5,h6⟩|h|h
 ·have:wrap64 (x.held+am)=x.held+am:=by unfold wrap64;omega
  refine .inl ⟨h1,h2,h3,?_,?_,h6⟩
  ·show 0≤wrap64 (x.held+am);omega
  ·show wrap64 (x.held+am)≤_;omega
 ·have:=h.1;omega
 ·have:=h.1;omega
theorem Aft.mid(h:Aft b c d x)(hv:Valid b)(hc:c<b.cs.length):Mid b c d 470000 x:=by
 have:=hv.SB hc d;rcases h with⟨h1,h2,h3,h4,h5,h6⟩|h|h
 ·exact .inl ⟨h1,h2,h3,h4,by omega,h6⟩
 ·exact .inr (.inl h)
 ·exact .inr (.inr h)
theorem Aft.fore{e:Int}(h:Aft b c e x)(hv:Valid b)(hc:c<b.cs.length)(hed:e≤d):Fore b c d x:=by
 have:=hv.SB hc e;rcases h with⟨h1,h2,h3,h4,h5,h6⟩|⟨h1,h2,h3,h4,h5⟩|⟨h1,h2,h3,h4,h5⟩
 ·exact .inl ⟨h1,h2,h3,h4,by omega⟩
 ·exact .inr (.inl ⟨h1,h2,h3,by omega,h5⟩)
 ·refine .inr (.inr ⟨h1,h2,h3,h4,?_⟩);rw[hv.due hc,decide_eq_false_iff_not]at h5 ⊢;omega
theorem Aft.next(h:Aft b c d x)(hv:Valid b)(hc:c<b.cs.length)(hn:d+1∉b.bP):Aft b c (d+1) x:=by
 have hne:d≠(b.aY c).due+(b.aY c).fZ:=λe=>hn (by rw[e];exact hv.end_ev hc);rcases h with⟨h1,h2,h3,h4,h5,h6⟩|⟨h1,h2,h3,h4,h5⟩|⟨h1,h2,h3,h4,h5⟩
 ·have h6':=h6;rw[hv.due hc,decide_eq_true_eq]at h6;have hd1:(b.fee c (d+1)).2=true:=by rw[hv.due hc,decide_eq_true_eq];omega
  have:=(hv.IU hc (show d≤d+1 by omega) hd1).1;exact .inl ⟨h1,h2,h3,h4,by omega,hd1⟩
 ·exact .inr (.inl ⟨h1,h2,h3,by omega,h5⟩)
 ·refine .inr (.inr ⟨h1,h2,h3,h4,?_⟩);rw[hv.due hc,decide_eq_false_iff_not]at h5 ⊢;omega
end
def Later(d:Int)(x y:Std):Prop:=(x.state≠0→y=x)∧(x.state=0→y.state=1→d≤y.day)
theorem Later.refl{d:Int}{x:Std}:Later d x x:=⟨λ_=>rfl,λh h'=>by omega⟩
theorem Later.trans{d:Int}{x y z:Std}(h:Later d x y)(h':Later d y z):Later d x z:=by
 refine⟨λhx=>?_,λhx hz=>?_⟩
 ·have:=h.1 hx;subst this;exact h'.1 hx
 ·by_cases hy:y.state=0
  ·exact h'.2 hy hz
  ·have:=h'.1 hy;subst this;exact h.2 hx hz
theorem Later.mono{d d':Int}{x y:Std}(h:Later d x y)(hd:d'≤d):Later d' x y:=⟨h.1,λa b=>by have:=h.2 a b;omega⟩
theorem Gn(b:Book)(d:Int)(c:Nat)(x:Std):Later d x (nI b d c x):=by
 unfold nI;split
 ·rename_i h;exact⟨λhn=>absurd h.2 hn,λ_ h1=>by simp at h1⟩
 ·exact .refl
theorem qI(b:Book)(d:Int)(c:Nat)(x:Std):Later d x (qB b d c x):=by
 unfold qB;split
 ·rename_i h;exact⟨λhn=>absurd h.1 hn,λ_ _=>Int.le_refl _⟩
 ·exact .refl
theorem AU(d am:Int)(x:Std)(h:x.state=0):Later d x (CZ am x):=⟨λhn=>absurd h hn,λ_ h1=>by simp[CZ,h]at h1⟩
section
variable {b:Book} {d:Int} {s:St}
theorem Py(hv:Valid b){c:Nat}{m:Int}(hm:m≤1000000){i:Nat}(hi:i<b.ps.length)(h:Mid b c d m (s.cases c)):Mid b c d (m+10000) ((St.jH b d i s).cases c)∧Later d (s.cases c) ((St.jH b d i s).cases c):=by
 have hp:=hv.p _ (hv.pay hi);have same:Mid b c d (m+10000) (s.cases c)∧Later d (s.cases c) (s.cases c):=⟨h.mono (by omega),.refl⟩
 unfold St.jH;split
 ·split
  ·rw[Aq];exact same
  ·rw[xE];split
   ·rename_i h3;have hst:(s.cases c).state=0:=by rw[h3.1];exact h3.2.1
    exact⟨h.add hst (by omega) hp.2.2.2.2.2.1 hm,AU _ _ _ hst⟩
   ·exact same
 ·exact same
theorem Jb(hv:Valid b){c:Nat}{m:Int}(hm:m≤500000)(h:Mid b c d m (s.cases c)):∀k,k≤b.ps.length→Mid b c d (m+10000 * k) ((iter (St.jH b d) k s).cases c)∧Later d (s.cases c) ((iter (St.jH b d) k s).cases c)
 |0,_=>⟨by simpa[iter]using h,.refl⟩
 |k+1,hk=>by
  obtain⟨h1,h2⟩:=Jb hv hm h k (by omega);have hn:=hv.np;obtain⟨h3,h4⟩:=Py hv (by omega) (show k<b.ps.length by omega) h1;exact⟨h3.mono (by omega),h2.trans h4⟩
theorem PU(hv:Valid b)(hd:0≤d){i:Nat}(hi:i<b.ps.length)(h:∀c,c<b.cs.length→Aft b c d (s.cases c))(c:Nat)(hc:c<b.cs.length):Aft b c d ((St.mX b d i s).cases c)∧Later d (s.cases c) ((St.mX b d i s).cases c):=by
 have hp:=hv.p _ (hv.pay hi);unfold St.mX;split
 ·rename_i hday;rcases TN b i s with e|⟨hst,e⟩
  ·rw[e];exact⟨h c hc,.refl⟩
  ·rw[e,if_pos hc,hday.1];have hm:=(h c hc).mid hv hc;split
   ·rename_i h3;have hst:(s.cases c).state=0:=by rw[h3];exact hst
    have:=hm.add hst (by omega) hp.2.2.2.2.2.1 (by omega);exact⟨this.keep hd,(AU d (b.aV i).amount _ hst).trans (qI b d c _)⟩
   ·exact⟨hm.keep hd,qI b d c _⟩
 ·exact⟨h c hc,.refl⟩
theorem Jm(hv:Valid b)(hd:0≤d)(h:∀c,c<b.cs.length→Aft b c d (s.cases c)):∀k,k≤b.ps.length→∀c,c<b.cs.length→Aft b c d ((iter (St.mX b d) k s).cases c)∧Later d (s.cases c) ((iter (St.mX b d) k s).cases c)
 |0,_,c,hc=>⟨h c hc,.refl⟩
 |k+1,hk,c,hc=>by
  have ih:=Jm hv hd h k (by omega);obtain⟨h3,h4⟩:=PU hv hd (show k<b.ps.length by omega) (λc hc=>(ih c hc).1) c hc;exact⟨h3,(ih c hc).2.trans h4⟩
theorem xu(hv:Valid b)(hd:0≤d)(h:∀c,c<b.cs.length→Fore b c d (s.cases c))(c:Nat)(hc:c<b.cs.length):Aft b c d ((St.xq b s d).cases c)∧Later d (s.cases c) ((St.xq b s d).cases c):=by
 have k1:∀c,c<b.cs.length→Mid b c d 470000 ((s.iY b d).cases c)∧Later d (s.cases c) ((s.iY b d).cases c):=λc hc=>by
  rw[yF,if_pos hc];exact⟨(h c hc).iY,Gn _ _ _ _⟩
 have k2:∀c,c<b.cs.length→Aft b c d ((((s.iY b d).ins b d).keep b d).cases c)∧Later d (s.cases c) ((((s.iY b d).ins b d).keep b d).cases c):=λc hc=>by
  obtain⟨h1,h2⟩:=Jb hv (by omega) (k1 c hc).1 b.ps.length (ak _);rw[vg,if_pos hc];exact⟨h1.keep hd,((k1 c hc).2.trans h2).trans (qI _ _ _ _)⟩
 obtain⟨h3,h4⟩:=Jm hv hd (λc hc=>(k2 c hc).1) b.ps.length (ak _) c hc;exact⟨h3,(k2 c hc).2.trans h4⟩
end
theorem nR{b:Book}(hv:Valid b):∀(n:Nat) (c:Nat),c<b.cs.length→Aft b c n ((b.after n).cases c)
 |0,c,hc=>by
  have e:=b.kU (-1);rw[show(-1:Int)+1=0 from rfl,if_pos b.Oq,hv.zU]at e
  show Aft b c 0 ((b.after 0).cases c)
  rw[e];exact(xu hv (Int.le_refl _) (λc _=>.inl ⟨rfl,rfl,rfl,Int.le_refl _,by show(0:Int)≤470000;decide⟩) c hc).1
 |n+1,c,hc=>by
  have e:=b.kU n;have e2:((n+1:Nat):Int)=(n:Int)+1:=by omega
  rw[e2,e];split
  ·exact(xu hv (by omega) (λc hc=>(nR hv n c hc).fore hv hc (by omega)) c hc).1
  ·rename_i h;exact(nR hv n c hc).next hv hc h
theorem FT{b:Book}(hv:Valid b)(n:Nat)(c:Nat)(hc:c<b.cs.length):Later (n+1) ((b.after n).cases c) ((b.after (n+1:Nat)).cases c):=by
 have e:=b.kU n;have e2:((n+1:Nat):Int)=(n:Int)+1:=by omega
 rw[e2,e];split
 ·exact(xu hv (by omega) (λc hc=>(nR hv n c hc).fore hv hc (by omega)) c hc).2
 ·exact .refl
theorem yc{b:Book}(hv:Valid b)(n:Nat)(c:Nat)(hc:c<b.cs.length):∀k:Nat,Later (n+1) ((b.after n).cases c) ((b.after (n+k:Nat)).cases c)
 |0=>.refl
 |k+1=>(yc hv n c hc k).trans ((FT hv (n+k) c hc).mono (by omega))
structure DaysAre (b:Book) (c:Nat) (n:Nat) (x y:Std):Prop where
 gone:x.state≠1→x.day=0∧x.fee=0
 held0:x.state=1→x.held=0
 opn:y.state=0→(b.fee c n).2=true∧y.held<(b.fee c n).1∧0≤y.held
 shut:y.state≠0→y.held=0
 never:x.state≠1→((y.state=0↔(b.fee c n).2=true)∧(y.state=2↔(b.fee c n).2=false))
 day:x.state=1→0≤x.day∧x.day≤9999∧(y.state=1↔x.day≤n)∧(n<x.day→y.state=0)∧b.fee c x.day=(x.fee,true)
 same:y.state=1→y=x
 ys:y.state=0∨y.state=1∨y.state=2
theorem vZ{b:Book}(hv:Valid b){c:Nat}(hc:c<b.cs.length){n:Nat}(hn:n≤9999):DaysAre b c n ((b.after 9999).cases c) ((b.after n).cases c):=by
 have hx:=nR hv 9999 c hc;have hy:=nR hv n c hc;have hl:=yc hv n c hc (9999-n);rw[show n+(9999-n)=9999 by omega]at hl;have c9:((9999:Nat):Int)=9999:=rfl;rw[c9]at hx hl;generalize (b.after 9999).cases c=x at *;generalize (b.after n).cases c=y at *;rcases hy with⟨y1,y2,y3,y4,y5,y6⟩|⟨y1,y2,y3,y4,y5⟩|⟨y1,y2,y3,y4,y5⟩
 ·rcases hx with⟨x1,x2,x3,x4,x5,x6⟩|⟨x1,x2,x3,x4,x5⟩|⟨x1,x2,x3,x4,x5⟩
  ·exact⟨λ_=>⟨x2,x3⟩,λh=>by omega,λ_=>⟨y6,y5,y4⟩,λh=>by omega,λ_=>⟨by simp[y1,y6],by simp[y1,y6]⟩,λh=>by omega,λh=>by omega,.inl y1⟩
  ·have:=hl.2 y1 x1;exact⟨λh=>by omega,λ_=>x2,λ_=>⟨y6,y5,y4⟩,λh=>by omega,λh=>by omega,λ_=>⟨x3,x4,by omega,λ_=>y1,x5⟩,λh=>by omega,.inl y1⟩
  ·exact⟨λ_=>⟨x3,x4⟩,λh=>by omega,λ_=>⟨y6,y5,y4⟩,λh=>by omega,λ_=>⟨by simp[y1,y6],by simp[y1,y6]⟩,λh=>by omega,λh=>by omega,.inl y1⟩
 ·have e:=hl.1 (by omega);subst e;exact⟨λh=>by omega,λ_=>y2,λh=>by omega,λ_=>y2,λh=>by omega,λ_=>⟨y3,by omega,by omega,λh=>by omega,y5⟩,λ_=>rfl,.inr (.inl y1)⟩
 ·have e:=hl.1 (by omega);subst e;exact⟨λ_=>⟨y3,y4⟩,λh=>by omega,λh=>by omega,λ_=>y2,λ_=>⟨by simp[y1,y5],by simp[y1,y5]⟩,λh=>by omega,λ_=>rfl,.inr (.inr y1)⟩
end Go.Proofs.YtccjdkghgbbliaaGreatDoor
end
section
namespace Go.Proofs.YtccjdkghgbbliaaGreatDoor
set_option maxHeartbeats 1000000
set_option maxRecDepth 10000
open Go Go.RowKit
def bf:Book where
 aK:=[⟨#[101,117,114]⟩,⟨#[99,104,102]⟩]
 ts:=[⟨⟨#[102,105,108,101]⟩,0,100,30,1⟩,⟨⟨#[107,101,101,112]⟩,1,50,0,0⟩]
 cs:=[⟨⟨#[97]⟩,0,3,10,5,20⟩,⟨⟨#[98]⟩,1,1,8,0,0⟩,⟨⟨#[99]⟩,0,1,20,0,0⟩]
 ps:=[⟨0,4,0,150,0⟩,⟨1,6,1,30,0⟩,⟨0,7,0,40,1⟩,⟨2,9,0,30,0⟩,⟨2,12,0,30,0⟩,⟨0,12,0,5,0⟩]
theorem Sz:Valid bf where
 nc:=by decide
 nt:=by decide
 nk:=by decide
 np:=by decide
 t:=by
  intro t ht;simp only[bf,List.mem_cons,List.not_mem_nil,or_false]at ht;rcases ht with rfl|rfl<;>simp[bf]
 k:=by
  intro t ht;simp only[bf,List.mem_cons,List.not_mem_nil,or_false]at ht;rcases ht with rfl|rfl|rfl<;>simp[bf]
 p:=by
  intro t ht;simp only[bf,List.mem_cons,List.not_mem_nil,or_false]at ht;rcases ht with rfl|rfl|rfl|rfl|rfl|rfl<;>simp[bf]
theorem Sj:bf.fee 0 11=(180,true):=by decide +kernel
theorem Sl:bf.fee 0 16=(0,false):=by decide +kernel
def Std.four(x:Std):Int×Int×Int×Int:=(x.state,x.held,x.day,x.fee)
theorem OZ:((bf.after 8).cases 0).four=(0,150,0,0):=by decide +kernel
theorem O4:((bf.after 9).cases 1).state=2:=by decide +kernel
theorem ex_kept:((bf.after 9999).cases 0).four=(1,0,9,160):=by decide +kernel
theorem ex_acc8:((bf.after 8).acc 0,(bf.after 8).tkn 0,(bf.after 8).pd 0)=(40,0,190):=by decide +kernel
theorem RY:((bf.after 12).acc 0,(bf.after 12).tkn 0,(bf.after 12).pd 0)=(35,160,195):=by decide +kernel
theorem IL:(bf.after 9999).bV=[4]:=by decide +kernel
end Go.Proofs.YtccjdkghgbbliaaGreatDoor
end
section
namespace Go.Proofs
set_option maxHeartbeats 1000000
set_option maxRecDepth 10000
open Go.Shelf
def Tryz.Jf:Go.Shelf.Ren:=⟨fun|189=>61|125=>119|257=>118|128=>188|129=>189|294=>179|295=>180|296=>181|297=>182|298=>183|299=>184|216=>185|300=>186|301=>187|328=>240|329=>241|330=>242|331=>243|332=>244|215=>147|343=>269|n=>n,fun|28=>28|3=>3|46=>238|0=>0|51=>216|53=>264|4=>4|183=>299|182=>298|131=>88|5=>5|9=>9|218=>364|222=>367|228=>393|229=>394|n=>n,fun|n=>n⟩
theorem Tryz.lays189:Go.Proofs.Lays.n189 Tryz.prog Tryz.Jf:={
 mixed:=by kernel_rfl
 f125:=Tryz.func119.trans (congrArg some (by kernel_rfl))
 f128:=Tryz.func188.trans (congrArg some (by kernel_rfl))
 f129:=Tryz.func189.trans (congrArg some (by kernel_rfl))
 f189:=Tryz.func61.trans (congrArg some (by kernel_rfl))
 f215:=Tryz.func147.trans (congrArg some (by kernel_rfl))
 f216:=Tryz.func185.trans (congrArg some (by kernel_rfl))
 f257:=Tryz.func118.trans (congrArg some (by kernel_rfl))
 f294:=Tryz.func179.trans (congrArg some (by kernel_rfl))
 f295:=Tryz.func180.trans (congrArg some (by kernel_rfl))
 f296:=Tryz.func181.trans (congrArg some (by kernel_rfl))
 f297:=Tryz.func182.trans (congrArg some (by kernel_rfl))
 f298:=Tryz.func183.trans (congrArg some (by kernel_rfl))
 f299:=Tryz.func184.trans (congrArg some (by kernel_rfl))
 f300:=Tryz.func186.trans (congrArg some (by kernel_rfl))
 f301:=Tryz.func187.trans (congrArg some (by kernel_rfl))
 f328:=Tryz.func240.trans (congrArg some (by kernel_rfl))
 f329:=Tryz.func241.trans (congrArg some (by kernel_rfl))
 f330:=Tryz.func242.trans (congrArg some (by kernel_rfl))
 f331:=Tryz.func243.trans (congrArg some (by kernel_rfl))
 f332:=Tryz.func244.trans (congrArg some (by kernel_rfl))
 f343:=Tryz.func269.trans (congrArg some (by kernel_rfl))
 t0:=Tryz.underlying0
 a0:=Tryz.isAgg0
 z0:=Tryz.sizeOf0
 v0:=Tryz.zeroValue0
 t3:=Tryz.underlying3
 a3:=Tryz.isAgg3
 z3:=Tryz.sizeOf3
 v3:=Tryz.zeroValue3
 t4:=Tryz.underlying4
 a4:=Tryz.isAgg4
 z4:=Tryz.sizeOf4
 v4:=Tryz.zeroValue4
 t5:=Tryz.underlying5
 a5:=Tryz.isAgg5
 z5:=Tryz.sizeOf5
 v5:=Tryz.zeroValue5
 t9:=Tryz.underlying9
 a9:=Tryz.isAgg9
 z9:=Tryz.sizeOf9
 v9:=Tryz.zeroValue9
 t28:=Tryz.underlying28
 a28:=Tryz.isAgg28
 z28:=Tryz.sizeOf28
 v28:=Tryz.zeroValue28
 t46:=Tryz.underlying238
 a46:=Tryz.isAgg238
 z46:=Tryz.sizeOf238
 v46:=Tryz.zeroValue238
 t51:=Tryz.underlying216
 a51:=Tryz.isAgg216
 z51:=Tryz.sizeOf216
 v51:=Tryz.zeroValue216
 t53:=Tryz.underlying264
 a53:=Tryz.isAgg264
 z53:=Tryz.sizeOf264
 v53:=Tryz.zeroValue264
 t131:=Tryz.underlying88
 a131:=Tryz.isAgg88
 z131:=Tryz.sizeOf88
 v131:=Tryz.zeroValue88
 t182:=Tryz.underlying298
 a182:=Tryz.isAgg298
 z182:=Tryz.sizeOf298
 v182:=Tryz.zeroValue298
 t183:=Tryz.underlying299
 a183:=Tryz.isAgg299
 z183:=Tryz.sizeOf299
 v183:=Tryz.zeroValue299
 t218:=Tryz.underlying364
 a218:=Tryz.isAgg364
 z218:=Tryz.sizeOf364
 v218:=Tryz.zeroValue364
 t222:=Tryz.underlying367
 a222:=Tryz.isAgg367
 z222:=Tryz.sizeOf367
 v222:=Tryz.zeroValue367
 t228:=Tryz.underlying393
 a228:=Tryz.isAgg393
 z228:=Tryz.sizeOf393
 v228:=Tryz.zeroValue393
 t229:=Tryz.underlying394
 a229:=Tryz.isAgg394
 z229:=Tryz.sizeOf394
 v229:=Tryz.zeroValue394 }
def Tryz.Du:Go.Shelf.Ren:=⟨fun|20=>62|n=>n,fun|22=>28|3=>3|4=>4|0=>0|n=>n,fun|n=>n⟩
theorem Tryz.PK:Go.Proofs.Lays2.n20 Tryz.prog Tryz.Du:={
 mixed:=by kernel_rfl
 f20:=Tryz.func62.trans (congrArg some (by kernel_rfl))
 t0:=Tryz.underlying0
 a0:=Tryz.isAgg0
 z0:=Tryz.sizeOf0
 v0:=Tryz.zeroValue0
 t3:=Tryz.underlying3
 a3:=Tryz.isAgg3
 z3:=Tryz.sizeOf3
 v3:=Tryz.zeroValue3
 t4:=Tryz.underlying4
 a4:=Tryz.isAgg4
 z4:=Tryz.sizeOf4
 v4:=Tryz.zeroValue4
 t22:=Tryz.underlying28
 a22:=Tryz.isAgg28
 z22:=Tryz.sizeOf28
 v22:=Tryz.zeroValue28
 i3:=by kernel_rfl }
end Go.Proofs
namespace Go.Proofs.YtccjdkghgbbliaaGreatDoor
open Go Go.RowKit Go.Sort
theorem yB{L:List FuncId}{n:Nat}{f:FuncId}{args:Array Value}{w:World}{R:Ending→World→Prop}(h:∀D:Nat,CallsIn (Fence.list L (some D)) n Tryz.prog f args w R)(hL':L.all inside=true):CallsIn Fz 0 Tryz.prog f args w R:=
 have hL:∀x∈L,Inside x:=λx hx=>List.all_eq_true.1 hL' x hx
 ⟨hL _ (h 0).1,λcs _=>
  let ⟨e,w',fr,r,s,x⟩:=(h (cs.length+1+n)).2 cs (λ_ hd=>by cases hd;exact ak _)
  ⟨e,w',fr,r,ComesIn.mono (λ_ hm g hg=>let ⟨a,b,c,_⟩:=hm g hg;⟨a,b.imp (hL _) id,λk hk=>hL _ (c k hk),λd hd=>by cases hd⟩) s,x⟩⟩
theorem sort_in(blk off cap:Nat)(zs:List Int)(w:World)(hH:Holds (Value.int .i64) w blk off zs.toArray)(hblk:blk<w.heap.size)(hsz:zs.length<4611686018427387904) :
  CallsIn Fz 0 Tryz.prog 61 #[.slice (some ⟨blk,off,none⟩) zs.length cap] w λe w'=>e=.returned (.tuple #[])∧∃n os,w'=grow (putRow (Value.int .i64) (Sort.ahead w n) blk off (zs.mergeSort λx y=>decide (x≤y)).toArray) os:=
 yB (λD=>AnyS.slices_Sort_int_alone Tryz.lays189 D blk off cap zs w hH hblk hsz) (by kernel_rfl)
theorem KO(blk off cap:Nat)(zs:List Int)(w:World)(hH:Holds (Value.int .i64) w blk off zs.toArray)(hsz:zs.length≤9223372036854775807)(hcap:zs.length≤cap) :
  CallsIn Fz 0 Tryz.prog 62 #[.slice (some ⟨blk,off,none⟩) zs.length cap] w λe w'=>e=.returned (.slice (some ⟨blk,off,none⟩) (Lib.compact zs).length cap)∧∃q,w'=putRow (Value.int .i64) (Sort.ahead w q) blk off (Lib.compact zs++List.replicate (zs.length-(Lib.compact zs).length) 0).toArray:=
 yB (λD=>AnyS.slices_Compact_int_in Tryz.PK D blk off cap zs w hH hsz hcap) (by kernel_rfl)
end Go.Proofs.YtccjdkghgbbliaaGreatDoor
end
