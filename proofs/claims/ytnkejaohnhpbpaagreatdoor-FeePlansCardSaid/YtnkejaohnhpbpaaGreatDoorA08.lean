/- What the sort and Compact make of the days. -/
import Derived.Shelf.Slices.In.SortAlone
import Derived.Shelf.Slices.In.CompactI
import Derived.Test.YtnkejaohnhpbpaaGreatDoorA07
set_option linter.all false
section
namespace Go.Proofs.YtnkejaohnhpbpaaGreatDoor
open Go Go.RowKit
theorem nI(d:Array Int)(n:Nat)(hs:∀i j,i≤j→j<n→d[i]! ≤ d[j]!):∀m,m≤n→(Lib.compactUpTo d m).Pairwise (·<·)∧∀y,y∈Lib.compactUpTo d m↔∃j,j<m∧d[j]! = y
 |0,_=>by simp[Lib.compactUpTo]
 |m+1,hm=>by
  obtain⟨h1,h2⟩:=nI d n hs m (by omega);rw[Lib.compactUpTo_succ];by_cases hk:Lib.keeps d m=true
  ·rw[if_pos hk];have hk':m=0∨d[m]! ≠ d[m-1]! := by simpa[Lib.keeps]using hk
   refine⟨List.pairwise_append.2 ⟨h1,by simp,λa ha c hc=>?_⟩,λy=>?_⟩
   ·rw[List.mem_singleton]at hc;subst hc;obtain⟨j,hj,rfl⟩:=(h2 a).1 ha;rcases hk' with h0|h0
    ·omega
    ·have a1:=hs j (m-1) (by omega) (by omega);have a2:=hs (m-1) m (by omega) (by omega);omega
   ·rw[List.mem_append,h2,List.mem_singleton];constructor
    ·rintro(⟨j,hj,e⟩|e)
     ·exact⟨j,by omega,e⟩
     ·exact⟨m,by omega,e.symm⟩
    ·rintro⟨j,hj,e⟩;by_cases hjm:j=m
     ·subst hjm;exact .inr e.symm
     ·exact .inl ⟨j,by omega,e⟩
  ·rw[if_neg hk,List.append_nil];have hk':¬(m=0∨d[m]! ≠ d[m-1]!):=by simpa[Lib.keeps]using hk
   refine⟨h1,λy=>?_⟩;rw[h2];constructor
   ·rintro⟨j,hj,e⟩;exact⟨j,by omega,e⟩
   ·rintro⟨j,hj,e⟩;by_cases hjm:j=m
    ·subst hjm;refine⟨j-1,by omega,?_⟩;rw[← e];exact(Classical.not_not.1 λh=>hk' (.inr h)).symm
    ·exact⟨j,by omega,e⟩
theorem su(b:Book):Lib.compact (b.dH.mergeSort λx y=>decide (x≤y))=b.bD:=by
 have hsorted:(b.dH.mergeSort λx y=>decide (x≤y)).Pairwise (λx y=>decide (x≤y)=true):=
  List.pairwise_mergeSort (λa b c h1 h2=>by simp at *;omega) (λa b=>by simp;omega) _
 have hperm:=List.mergeSort_perm b.dH (λx y=>decide (x≤y));generalize (b.dH.mergeSort λx y=>decide (x≤y))=zs at *;have hget:∀j,j<zs.length→zs.toArray[j]! = zs.getD j 0:=λj hj=>by simp[hj]
 obtain⟨h1,h2⟩:=nI zs.toArray zs.length (λi j hij hj=>by
  by_cases e:i=j
  ·subst e;exact Int.le_refl _
  ·rw[hget i (by omega),hget j hj];have:=List.pairwise_iff_getElem.1 hsorted i j (by omega) hj (by omega);simpa[show i<zs.length by omega,hj]using this) zs.length (ay _)
 refine DN h1 b.iZ λy=>?_
 show y∈Lib.compactUpTo zs.toArray zs.length↔_
 rw[h2,b.kN,← hperm.mem_iff];constructor
 ·rintro⟨j,hj,rfl⟩;rw[hget j hj];simp[hj]
 ·intro hy;obtain⟨j,hj,e⟩:=List.mem_iff_getElem.1 hy;exact⟨j,hj,by rw[hget j hj];simp[hj,e]⟩
theorem sD{l:List Int}(h:l.Pairwise (·<·))(n:Int)(k:Nat)(hk:k≤l.length)(hle:∀j (hj:j<k),l[j]'(by omega)≤n)(hgt:∀(hk':k<l.length),n<l[k]):l.filter (λd=>decide (d≤n))=l.take k:=by
 rw[← List.take_append_drop k l];have e1:(l.take k).filter (λd=>decide (d≤n))=l.take k:=List.filter_eq_self.2 λa ha=>by
  obtain⟨j,hj,rfl⟩:=List.mem_iff_getElem.1 ha;rw[List.length_take]at hj;simp only[List.getElem_take,decide_eq_true_eq];exact hle j (by omega)
 have e2:(l.drop k).filter (λd=>decide (d≤n))=[]:=List.filter_eq_nil_iff.2 λa ha=>by
  obtain⟨j,hj,rfl⟩:=List.mem_iff_getElem.1 ha;rw[List.length_drop]at hj;have hg:=hgt (by omega);simp only[List.getElem_drop,decide_eq_true_eq];by_cases e:j=0
  ·subst e;simp only[Nat.add_zero];omega
  ·have:=List.pairwise_iff_getElem.1 h k (k+j) (by omega) (by omega) (by omega);omega
 rw[List.filter_append,e1,e2,List.append_nil,List.take_append_drop]
end Go.Proofs.YtnkejaohnhpbpaaGreatDoor
end
section
namespace Go.Proofs.YtnkejaohnhpbpaaGreatDoor
open Go Go.RowKit
def rZ(b:Book)(d:Int)(c:Nat)(x:Std):Std:=if(b.fee c d).2=false∧x.state=0 then⟨2,0,x.day,x.fee⟩else x
def xO(b:Book)(d:Int)(c:Nat)(x:Std):Std:=if x.state=0∧(b.fee c d).2=true∧(b.fee c d).1≤x.held then⟨1,0,d,(b.fee c d).1⟩else x
def GR(am:Int)(x:Std):Std:={ x with held:=wrap64 (x.held+am) }
theorem wS(f:Nat→St→St)(g:Nat→Std→Std)(hf:∀c s j,(f c s).cases j=if j=c then g c (s.cases c)else s.cases j):∀k s j,(iter f k s).cases j=if j<k then g j (s.cases j)else s.cases j
 |0,s,j=>by simp[iter]
 |k+1,s,j=>by
  have ih:=wS f g hf k s;rw[iter,hf,ih,ih];by_cases h:j=k
  ·subst h;simp
  ·by_cases h2:j<k
   ·rw[if_neg h,if_pos h2,if_pos (by omega)]
   ·rw[if_neg h,if_neg h2,if_neg (by omega)]
theorem H9(b:Book)(d:Int)(c:Nat)(s:St)(j:Nat):(St.fZ b d c s).cases j=if j=c then rZ b d c (s.cases c)else s.cases j:=by
 unfold St.fZ rZ;by_cases h:(b.fee c d).2=false∧(s.cases c).state=0
 ·rw[if_pos h,if_pos h];by_cases e:j=c<;>simp[St.setState,St.give,upd,e]
 ·rw[if_neg h,if_neg h];by_cases e:j=c<;>simp[e]
theorem JM(b:Book)(d:Int)(c:Nat)(s:St)(j:Nat):(St.iP b d c s).cases j=if j=c then xO b d c (s.cases c)else s.cases j:=by
 unfold St.iP xO;by_cases h:(s.cases c).state=0∧(b.fee c d).2=true∧(b.fee c d).1≤(s.cases c).held
 ·rw[if_pos h,if_pos h];by_cases e:j=c<;>simp[St.wU,St.kept,St.iF,St.rW,St.give,upd,e]
 ·rw[if_neg h,if_neg h];by_cases e:j=c<;>simp[e]
theorem JQ(b:Book)(d:Int)(s:St)(j:Nat):(s.iq b d).cases j=if j<b.cs.length then rZ b d j (s.cases j)else s.cases j:=wS _ (rZ b d) (H9 b d) _ _ _
theorem Cm(b:Book)(d:Int)(s:St)(j:Nat):(s.keep b d).cases j=if j<b.cs.length then xO b d j (s.cases j)else s.cases j:=wS _ (xO b d) (JM b d) _ _ _
theorem BU(b:Book)(i:Nat)(s:St):(s.yS b i).cases=s.cases:=rfl
theorem vC(s:St)(c:Nat)(x:Int)(j:Nat):(s.addHeld c x).cases j=if j=c then GR x (s.cases c)else s.cases j:=by
 by_cases e:j=c<;>simp[St.addHeld,St.iF,GR,upd,e]
theorem Qh(b:Book)(i:Nat)(s:St)(j:Nat):(s.inn b i).cases j=if j=(b.aO i).cas∧(s.cases (b.aO i).cas).state=0∧(b.aO i).aN=b.aN (b.aO i).cas then GR (b.aO i).amount (s.cases j)else s.cases j:=by
 unfold St.inn;split
 ·rename_i h;rw[vC]
  show(if j=_ then GR _ (s.cases _)else s.cases j)=_
  by_cases e:j=(b.aO i).cas
  ·rw[if_pos e,if_pos ⟨e,h⟩,e]
  ·rw[if_neg e,if_neg (λh=>e h.1)]
 ·rename_i h;rw[BU,if_neg (λh'=>h h'.2)]
theorem Uu(b:Book)(i:Nat)(s:St):(∀j,(s.mv b i).cases j=s.cases j)∨((s.cases (b.aO i).cas).state=0∧∀j,(s.mv b i).cases j=if j<b.cs.length then xO b (b.aO i).day j (if j=(b.aO i).cas then GR (b.aO i).amount (s.cases j)else s.cases j)else(if j=(b.aO i).cas then GR (b.aO i).amount (s.cases j)else s.cases j)):=by
 unfold St.mv;by_cases h:St.Nq b i s
 ·rw[if_pos h];refine .inr ⟨h.2.1,λj=>?_⟩;rw[Cm,vC];have:∀k,(s.xA (b.aO i).aN (b.aO i).amount).cases k=s.cases k:=λ_=>rfl;rw[this,this];by_cases e:j=(b.aO i).cas
  ·rw[← e]
  ·rw[if_neg e,if_neg e]
 ·rw[if_neg h];exact .inl λ_=>rfl
theorem fee_due(b:Book)(c:Nat)(d:Int)(hv:0≤(b.aY c).gy):(b.fee c d).2=decide (d≤(b.aY c).due+(b.aY c).gy):=by
 unfold Book.fee jL;by_cases h1:d≤(b.aY c).due
 ·have:d≤(b.aY c).due+(b.aY c).gy:=by omega
  simp[h1,this]
 ·by_cases h2:d≤(b.aY c).due+(b.aY c).gy<;>simp[h1,h2]
theorem Valid.cas{b:Book}(hv:Valid b){c:Nat}(hc:c<b.cs.length):b.aY c∈b.cs:=by
 have e1:b.cs[c]?=some (b.aY c):=by simp[Book.aY,hc]
 exact List.mem_of_getElem? e1
theorem Valid.tar{b:Book}(hv:Valid b){c:Nat}(hc:c<b.cs.length):b.dV c∈b.ts:=by
 have hl:=(hv.k _ (hv.cas hc)).1;have e2:b.ts[(b.aY c).tar]?=some (b.dV c):=by
  have:b.dV c=b.ts.getD (b.aY c).tar ⟨⟨#[]⟩,0,0,0,0⟩:=rfl;rw[this];simp[hl]
 exact List.mem_of_getElem? e2
theorem Valid.pay{b:Book}(hv:Valid b){i:Nat}(hi:i<b.ps.length):b.aO i∈b.ps:=by
 have e1:b.ps[i]?=some (b.aO i):=by simp[Book.aO,hi]
 exact List.mem_of_getElem? e1
section
variable {b:Book} (hv:Valid b) {c:Nat} (hc:c<b.cs.length)
include hv hc
theorem Valid.OA:0≤(b.dV c).base+(b.dV c).each * max 0 ((b.aY c).classes-(b.dV c).free)∧(b.dV c).base+(b.dV c).each * max 0 ((b.aY c).classes-(b.dV c).free)≤460000:=by
 have h1:=hv.k _ (hv.cas hc);have h2:=hv.t _ (hv.tar hc);have hm0:0≤max 0 ((b.aY c).classes-(b.dV c).free):=by omega
 have hm1:max 0 ((b.aY c).classes-(b.dV c).free)≤45:=by omega
 have:=Int.mul_nonneg h2.2.2.2.1 hm0;have:(b.dV c).each * max 0 ((b.aY c).classes-(b.dV c).free)≤10000 * 45:=Int.mul_le_mul h2.2.2.2.2.1 hm1 hm0 (by omega);omega
theorem Valid.due(d:Int):(b.fee c d).2=decide (d≤(b.aY c).due+(b.aY c).gy):=fee_due b c d (hv.k _ (hv.cas hc)).2.2.2.2.2.1
theorem Valid.yP(d:Int):0≤(b.fee c d).1∧(b.fee c d).1≤470000:=by
 have h:=hv.OA hc;have h1:=hv.k _ (hv.cas hc);unfold Book.fee jL;generalize (b.dV c).base+(b.dV c).each * max 0 ((b.aY c).classes-(b.dV c).free)=n at *;split
 ·simp only;omega
 ·split<;>simp only<;>omega
theorem Valid.TB{d e:Int}(hde:d≤e)(TW:(b.fee c e).2=true):(b.fee c d).1≤(b.fee c e).1∧(b.fee c d).2=true:=by
 have h:=hv.OA hc;have h1:=hv.k _ (hv.cas hc);rw[hv.due hc,decide_eq_true_eq]at TW;rw[hv.due hc,decide_eq_true_eq];refine⟨?_,by omega⟩;unfold Book.fee jL;generalize (b.dV c).base+(b.dV c).each * max 0 ((b.aY c).classes-(b.dV c).free)=n at *;by_cases h2:d≤(b.aY c).due
 ·by_cases h3:e≤(b.aY c).due
  ·simp[h2,h3]
  ·simp[h2,h3,TW];omega
 ·have h3:¬e≤(b.aY c).due:=by omega
  have h4:d≤(b.aY c).due+(b.aY c).gy:=by omega
  simp[h2,h3,h4,TW]
theorem Valid.end_ev:(b.aY c).due+(b.aY c).gy+1∈b.bD:=by
 rw[b.kN];unfold Book.dH;exact List.mem_cons_of_mem _ (List.mem_append_right _ (List.mem_map.2 ⟨_,hv.cas hc,rfl⟩))
end
def Mid(b:Book)(c:Nat)(d m:Int)(x:Std):Prop:=
 (x.state=0∧x.day=0∧x.fee=0∧0≤x.held∧x.held≤m∧(b.fee c d).2=true)∨
 (x.state=1∧x.held=0∧0≤x.day∧x.day≤d∧b.fee c x.day=(x.fee,true))∨
 (x.state=2∧x.held=0∧x.day=0∧x.fee=0∧(b.fee c d).2=false)
def Aft(b:Book)(c:Nat)(d:Int)(x:Std):Prop:=
 (x.state=0∧x.day=0∧x.fee=0∧0≤x.held∧x.held<(b.fee c d).1∧(b.fee c d).2=true)∨
 (x.state=1∧x.held=0∧0≤x.day∧x.day≤d∧b.fee c x.day=(x.fee,true))∨
 (x.state=2∧x.held=0∧x.day=0∧x.fee=0∧(b.fee c d).2=false)
def Fore(b:Book)(c:Nat)(d:Int)(x:Std):Prop:=
 (x.state=0∧x.day=0∧x.fee=0∧0≤x.held∧x.held≤470000)∨
 (x.state=1∧x.held=0∧0≤x.day∧x.day≤d∧b.fee c x.day=(x.fee,true))∨
 (x.state=2∧x.held=0∧x.day=0∧x.fee=0∧(b.fee c d).2=false)
section
variable {b:Book} {c:Nat} {d m:Int} {x:Std}
theorem Fore.iq(h:Fore b c d x):Mid b c d 470000 (rZ b d c x):=by
 unfold rZ;rcases h with⟨h1,h2,h3,h4,h5⟩|h|⟨h1,h2,h3,h4,h5⟩
 ·cases hd:(b.fee c d).2 with
  |false=>rw[if_pos ⟨rfl,h1⟩];exact .inr (.inr ⟨rfl,rfl,h2,h3,hd⟩)
  |true=>rw[if_neg (by simp)];exact .inl ⟨h1,h2,h3,h4,h5,hd⟩
 ·rw[if_neg (by have:=h.1;omega)];exact .inr (.inl h)
 ·rw[if_neg (by omega)];exact .inr (.inr ⟨h1,h2,h3,h4,h5⟩)
theorem Mid.keep(h:Mid b c d m x)(hd:0≤d):Aft b c d (xO b d c x):=by
 unfold xO;rcases h with⟨h1,h2,h3,h4,h5,h6⟩|h|h
 ·by_cases hf:(b.fee c d).1≤x.held
  ·rw[if_pos ⟨h1,h6,hf⟩];refine .inr (.inl ⟨rfl,rfl,hd,Int.le_refl _,?_⟩)
   show b.fee c d=((b.fee c d).1,true)
   rw[← h6]
  ·rw[if_neg (λh=>hf h.2.2)];exact .inl ⟨h1,h2,h3,h4,by omega,h6⟩
 ·rw[if_neg (by have:=h.1;omega)];exact .inr (.inl h)
 ·rw[if_neg (by have:=h.1;omega)];exact .inr (.inr h)
theorem Mid.mono{m':Int}(h:Mid b c d m x)(hm:m≤m'):Mid b c d m' x:=by
 rcases h with⟨h1,h2,h3,h4,h5,h6⟩|h|h
 ·exact .inl ⟨h1,h2,h3,h4,by omega,h6⟩
 ·exact .inr (.inl h)
 ·exact .inr (.inr h)
theorem Mid.add{am:Int}(h:Mid b c d m x)(hs:x.state=0)(h0:0≤am)(h1:am≤10000)(hm:m≤1000000):Mid b c d (m+10000) (GR am x):=by
 rcases h with⟨h1,h2,h3,h4,h5,h6⟩|h|h
 ·have:wrap64 (x.held+am)=x.held+am:=by unfold wrap64;omega
  refine .inl ⟨h1,h2,h3,?_,?_,h6⟩
  ·show 0≤wrap64 (x.held+am);omega
  ·show wrap64 (x.held+am)≤_;omega
 ·have:=h.1;omega
 ·have:=h.1;omega
theorem Aft.mid(h:Aft b c d x)(hv:Valid b)(hc:c<b.cs.length):Mid b c d 470000 x:=by
 have:=hv.yP hc d;rcases h with⟨h1,h2,h3,h4,h5,h6⟩|h|h
 ·exact .inl ⟨h1,h2,h3,h4,by omega,h6⟩
 ·exact .inr (.inl h)
 ·exact .inr (.inr h)
theorem Aft.fore{e:Int}(h:Aft b c e x)(hv:Valid b)(hc:c<b.cs.length)(hed:e≤d):Fore b c d x:=by
 have:=hv.yP hc e;rcases h with⟨h1,h2,h3,h4,h5,h6⟩|⟨h1,h2,h3,h4,h5⟩|⟨h1,h2,h3,h4,h5⟩
 ·exact .inl ⟨h1,h2,h3,h4,by omega⟩
 ·exact .inr (.inl ⟨h1,h2,h3,by omega,h5⟩)
 ·refine .inr (.inr ⟨h1,h2,h3,h4,?_⟩);rw[hv.due hc,decide_eq_false_iff_not]at h5 ⊢;omega
theorem Aft.next(h:Aft b c d x)(hv:Valid b)(hc:c<b.cs.length)(hn:d+1∉b.bD):Aft b c (d+1) x:=by
 have hne:d≠(b.aY c).due+(b.aY c).gy:=λe=>hn (by rw[e];exact hv.end_ev hc);rcases h with⟨h1,h2,h3,h4,h5,h6⟩|⟨h1,h2,h3,h4,h5⟩|⟨h1,h2,h3,h4,h5⟩
 ·have h6':=h6;rw[hv.due hc,decide_eq_true_eq]at h6;have hd1:(b.fee c (d+1)).2=true:=by rw[hv.due hc,decide_eq_true_eq];omega
  have:=(hv.TB hc (show d≤d+1 by omega) hd1).1;exact .inl ⟨h1,h2,h3,h4,by omega,hd1⟩
 ·exact .inr (.inl ⟨h1,h2,h3,by omega,h5⟩)
 ·refine .inr (.inr ⟨h1,h2,h3,h4,?_⟩);rw[hv.due hc,decide_eq_false_iff_not]at h5 ⊢;omega
end
def Later(d:Int)(x y:Std):Prop:=(x.state≠0→y=x)∧(x.state=0→y.state=1→d≤y.day)
theorem Later.refl{d:Int}{x:Std}:Later d x x:=⟨λ_=>rfl,λh h'=>by omega⟩
theorem Later.trans{d:Int}{x y z:Std}(h:Later d x y)(h':Later d y z):Later d x z:=by
 refine⟨λhx=>?_,λhx hz=>?_⟩
 ·have:=h.1 hx;subst this;exact h'.1 hx
 ·by_cases hy:y.state=0
  ·exact h'.2 hy hz
  ·have:=h'.1 hy;subst this;exact h.2 hx hz
theorem Later.mono{d d':Int}{x y:Std}(h:Later d x y)(hd:d'≤d):Later d' x y:=⟨h.1,λa b=>by have:=h.2 a b;omega⟩
theorem Ia(b:Book)(d:Int)(c:Nat)(x:Std):Later d x (rZ b d c x):=by
 unfold rZ;split
 ·rename_i h;exact⟨λhn=>absurd h.2 hn,λ_ h1=>by simp at h1⟩
 ·exact .refl
theorem sK(b:Book)(d:Int)(c:Nat)(x:Std):Later d x (xO b d c x):=by
 unfold xO;split
 ·rename_i h;exact⟨λhn=>absurd h.1 hn,λ_ _=>Int.le_refl _⟩
 ·exact .refl
theorem CG(d am:Int)(x:Std)(h:x.state=0):Later d x (GR am x):=⟨λhn=>absurd h hn,λ_ h1=>by simp[GR,h]at h1⟩
section
variable {b:Book} {d:Int} {s:St}
theorem Qj(hv:Valid b){c:Nat}{m:Int}(hm:m≤1000000){i:Nat}(hi:i<b.ps.length)(h:Mid b c d m (s.cases c)):Mid b c d (m+10000) ((St.jf b d i s).cases c)∧Later d (s.cases c) ((St.jf b d i s).cases c):=by
 have hp:=hv.p _ (hv.pay hi);have same:Mid b c d (m+10000) (s.cases c)∧Later d (s.cases c) (s.cases c):=⟨h.mono (by omega),.refl⟩
 unfold St.jf;split
 ·split
  ·rw[BU];exact same
  ·rw[Qh];split
   ·rename_i h3;have hst:(s.cases c).state=0:=by rw[h3.1];exact h3.2.1
    exact⟨h.add hst (by omega) hp.2.2.2.2.2.1 hm,CG _ _ _ hst⟩
   ·exact same
 ·exact same
theorem JJ(hv:Valid b){c:Nat}{m:Int}(hm:m≤500000)(h:Mid b c d m (s.cases c)):∀k,k≤b.ps.length→Mid b c d (m+10000 * k) ((iter (St.jf b d) k s).cases c)∧Later d (s.cases c) ((iter (St.jf b d) k s).cases c)
 |0,_=>⟨by simpa[iter]using h,.refl⟩
 |k+1,hk=>by
  obtain⟨h1,h2⟩:=JJ hv hm h k (by omega);have hn:=hv.np;obtain⟨h3,h4⟩:=Qj hv (by omega) (show k<b.ps.length by omega) h1;exact⟨h3.mono (by omega),h2.trans h4⟩
theorem Qu(hv:Valid b)(hd:0≤d){i:Nat}(hi:i<b.ps.length)(h:∀c,c<b.cs.length→Aft b c d (s.cases c))(c:Nat)(hc:c<b.cs.length):Aft b c d ((St.jM b d i s).cases c)∧Later d (s.cases c) ((St.jM b d i s).cases c):=by
 have hp:=hv.p _ (hv.pay hi);unfold St.jM;split
 ·rename_i P9;rcases Uu b i s with e|⟨hst,e⟩
  ·rw[e];exact⟨h c hc,.refl⟩
  ·rw[e,if_pos hc,P9.1];have hm:=(h c hc).mid hv hc;split
   ·rename_i h3;have hst:(s.cases c).state=0:=by rw[h3];exact hst
    have:=hm.add hst (by omega) hp.2.2.2.2.2.1 (by omega);exact⟨this.keep hd,(CG d (b.aO i).amount _ hst).trans (sK b d c _)⟩
   ·exact⟨hm.keep hd,sK b d c _⟩
 ·exact⟨h c hc,.refl⟩
theorem JY(hv:Valid b)(hd:0≤d)(h:∀c,c<b.cs.length→Aft b c d (s.cases c)):∀k,k≤b.ps.length→∀c,c<b.cs.length→Aft b c d ((iter (St.jM b d) k s).cases c)∧Later d (s.cases c) ((iter (St.jM b d) k s).cases c)
 |0,_,c,hc=>⟨h c hc,.refl⟩
 |k+1,hk,c,hc=>by
  have ih:=JY hv hd h k (by omega);obtain⟨h3,h4⟩:=Qu hv hd (show k<b.ps.length by omega) (λc hc=>(ih c hc).1) c hc;exact⟨h3,(ih c hc).2.trans h4⟩
theorem EX(hv:Valid b)(hd:0≤d)(h:∀c,c<b.cs.length→Fore b c d (s.cases c))(c:Nat)(hc:c<b.cs.length):Aft b c d ((St.pG b s d).cases c)∧Later d (s.cases c) ((St.pG b s d).cases c):=by
 have k1:∀c,c<b.cs.length→Mid b c d 470000 ((s.iq b d).cases c)∧Later d (s.cases c) ((s.iq b d).cases c):=λc hc=>by
  rw[JQ,if_pos hc];exact⟨(h c hc).iq,Ia _ _ _ _⟩
 have k2:∀c,c<b.cs.length→Aft b c d ((((s.iq b d).ins b d).keep b d).cases c)∧Later d (s.cases c) ((((s.iq b d).ins b d).keep b d).cases c):=λc hc=>by
  obtain⟨h1,h2⟩:=JJ hv (by omega) (k1 c hc).1 b.ps.length (ay _);rw[Cm,if_pos hc];exact⟨h1.keep hd,((k1 c hc).2.trans h2).trans (sK _ _ _ _)⟩
 obtain⟨h3,h4⟩:=JY hv hd (λc hc=>(k2 c hc).1) b.ps.length (ay _) c hc;exact⟨h3,(k2 c hc).2.trans h4⟩
end
theorem yL{b:Book}(hv:Valid b):∀(n:Nat) (c:Nat),c<b.cs.length→Aft b c n ((b.after n).cases c)
 |0,c,hc=>by
  have e:=b.qK (-1);rw[show(-1:Int)+1=0 from rfl,if_pos b.I7,hv.Bh]at e
  show Aft b c 0 ((b.after 0).cases c)
  rw[e];exact(EX hv (Int.le_refl _) (λc _=>.inl ⟨rfl,rfl,rfl,Int.le_refl _,by show(0:Int)≤470000;decide⟩) c hc).1
 |n+1,c,hc=>by
  have e:=b.qK n;have e2:((n+1:Nat):Int)=(n:Int)+1:=by omega
  rw[e2,e];split
  ·exact(EX hv (by omega) (λc hc=>(yL hv n c hc).fore hv hc (by omega)) c hc).1
  ·rename_i h;exact(yL hv n c hc).next hv hc h
structure DaysAre (b:Book) (c:Nat) (n:Nat) (x y:Std):Prop where
 gone:x.state≠1→x.day=0∧x.fee=0
 held0:x.state=1→x.held=0
 opn:y.state=0→(b.fee c n).2=true∧y.held<(b.fee c n).1∧0≤y.held
 shut:y.state≠0→y.held=0
 never:x.state≠1→((y.state=0↔(b.fee c n).2=true)∧(y.state=2↔(b.fee c n).2=false))
 day:x.state=1→0≤x.day∧x.day≤9999∧(y.state=1↔x.day≤n)∧(n<x.day→y.state=0)∧b.fee c x.day=(x.fee,true)
 same:y.state=1→y=x
 ys:y.state=0∨y.state=1∨y.state=2
end Go.Proofs.YtnkejaohnhpbpaaGreatDoor
end
section
namespace Go.Proofs.YtnkejaohnhpbpaaGreatDoor
open Go Go.RowKit
def bf:Book where
 aJ:=[⟨#[101,117,114]⟩,⟨#[99,104,102]⟩]
 ts:=[⟨⟨#[102,105,108,101]⟩,0,100,30,1⟩,⟨⟨#[107,101,101,112]⟩,1,50,0,0⟩]
 cs:=[⟨⟨#[97]⟩,0,3,10,5,20⟩,⟨⟨#[98]⟩,1,1,8,0,0⟩,⟨⟨#[99]⟩,0,1,20,0,0⟩]
 ps:=[⟨0,4,0,150,0⟩,⟨1,6,1,30,0⟩,⟨0,7,0,40,1⟩,⟨2,9,0,30,0⟩,⟨2,12,0,30,0⟩,⟨0,12,0,5,0⟩]
theorem TA:Valid bf where
 nc:=by decide
 nt:=by decide
 nk:=by decide
 np:=by decide
 t:=by
  intro t ht;simp only[bf,List.mem_cons,List.not_mem_nil,or_false]at ht;rcases ht with rfl|rfl<;>simp[bf]
 k:=by
  intro t ht;simp only[bf,List.mem_cons,List.not_mem_nil,or_false]at ht;rcases ht with rfl|rfl|rfl<;>simp[bf]
 p:=by
  intro t ht;simp only[bf,List.mem_cons,List.not_mem_nil,or_false]at ht;rcases ht with rfl|rfl|rfl|rfl|rfl|rfl<;>simp[bf]
theorem Tq:bf.fee 0 11=(180,true):=by decide +kernel
theorem Tt:bf.fee 0 16=(0,false):=by decide +kernel
def Std.four(x:Std):Int×Int×Int×Int:=(x.state,x.held,x.day,x.fee)
theorem PW:((bf.after 8).cases 0).four=(0,150,0,0):=by decide +kernel
theorem PX:((bf.after 9).cases 1).state=2:=by decide +kernel
theorem ex_kept:((bf.after 9999).cases 0).four=(1,0,9,160):=by decide +kernel
theorem ex_acc8:((bf.after 8).acc 0,(bf.after 8).tkn 0,(bf.after 8).pd 0)=(40,0,190):=by decide +kernel
theorem Tj:((bf.after 12).acc 0,(bf.after 12).tkn 0,(bf.after 12).pd 0)=(35,160,195):=by decide +kernel
theorem Jv:(bf.after 9999).bM=[4]:=by decide +kernel
end Go.Proofs.YtnkejaohnhpbpaaGreatDoor
end
section
namespace Go.Proofs
open Go.Shelf
def Tryz.JR:Go.Shelf.Ren:=⟨fun|189=>109|125=>143|257=>142|128=>165|129=>166|294=>156|295=>157|296=>158|297=>159|298=>160|299=>161|216=>162|300=>163|301=>164|328=>173|329=>174|330=>175|331=>176|332=>177|215=>101|343=>184|n=>n,fun|28=>44|3=>3|46=>173|0=>0|51=>153|53=>150|4=>4|183=>208|182=>207|131=>81|5=>5|9=>9|218=>219|222=>222|228=>231|229=>232|n=>n,fun|n=>n⟩
theorem Tryz.lays189:Go.Proofs.Lays.n189 Tryz.prog Tryz.JR:={
 mixed:=by kernel_rfl
 f125:=Tryz.func143.trans (congrArg some (by kernel_rfl))
 f128:=Tryz.func165.trans (congrArg some (by kernel_rfl))
 f129:=Tryz.func166.trans (congrArg some (by kernel_rfl))
 f189:=Tryz.func109.trans (congrArg some (by kernel_rfl))
 f215:=Tryz.func101.trans (congrArg some (by kernel_rfl))
 f216:=Tryz.func162.trans (congrArg some (by kernel_rfl))
 f257:=Tryz.func142.trans (congrArg some (by kernel_rfl))
 f294:=Tryz.func156.trans (congrArg some (by kernel_rfl))
 f295:=Tryz.func157.trans (congrArg some (by kernel_rfl))
 f296:=Tryz.func158.trans (congrArg some (by kernel_rfl))
 f297:=Tryz.func159.trans (congrArg some (by kernel_rfl))
 f298:=Tryz.func160.trans (congrArg some (by kernel_rfl))
 f299:=Tryz.func161.trans (congrArg some (by kernel_rfl))
 f300:=Tryz.func163.trans (congrArg some (by kernel_rfl))
 f301:=Tryz.func164.trans (congrArg some (by kernel_rfl))
 f328:=Tryz.func173.trans (congrArg some (by kernel_rfl))
 f329:=Tryz.func174.trans (congrArg some (by kernel_rfl))
 f330:=Tryz.func175.trans (congrArg some (by kernel_rfl))
 f331:=Tryz.func176.trans (congrArg some (by kernel_rfl))
 f332:=Tryz.func177.trans (congrArg some (by kernel_rfl))
 f343:=Tryz.func184.trans (congrArg some (by kernel_rfl))
 t0:=Tryz.underlying0
 a0:=Tryz.isAgg0
 z0:=Tryz.sizeOf0
 v0:=Tryz.zeroValue0
 t3:=Tryz.underlying3
 a3:=Tryz.isAgg3
 z3:=Tryz.sizeOf3
 v3:=Tryz.zeroValue3
 t4:=Tryz.underlying4
 a4:=Tryz.isAgg4
 z4:=Tryz.sizeOf4
 v4:=Tryz.zeroValue4
 t5:=Tryz.underlying5
 a5:=Tryz.isAgg5
 z5:=Tryz.sizeOf5
 v5:=Tryz.zeroValue5
 t9:=Tryz.underlying9
 a9:=Tryz.isAgg9
 z9:=Tryz.sizeOf9
 v9:=Tryz.zeroValue9
 t28:=Tryz.underlying44
 a28:=Tryz.isAgg44
 z28:=Tryz.sizeOf44
 v28:=Tryz.zeroValue44
 t46:=Tryz.underlying173
 a46:=Tryz.isAgg173
 z46:=Tryz.sizeOf173
 v46:=Tryz.zeroValue173
 t51:=Tryz.underlying153
 a51:=Tryz.isAgg153
 z51:=Tryz.sizeOf153
 v51:=Tryz.zeroValue153
 t53:=Tryz.underlying150
 a53:=Tryz.isAgg150
 z53:=Tryz.sizeOf150
 v53:=Tryz.zeroValue150
 t131:=Tryz.underlying81
 a131:=Tryz.isAgg81
 z131:=Tryz.sizeOf81
 v131:=Tryz.zeroValue81
 t182:=Tryz.underlying207
 a182:=Tryz.isAgg207
 z182:=Tryz.sizeOf207
 v182:=Tryz.zeroValue207
 t183:=Tryz.underlying208
 a183:=Tryz.isAgg208
 z183:=Tryz.sizeOf208
 v183:=Tryz.zeroValue208
 t218:=Tryz.underlying219
 a218:=Tryz.isAgg219
 z218:=Tryz.sizeOf219
 v218:=Tryz.zeroValue219
 t222:=Tryz.underlying222
 a222:=Tryz.isAgg222
 z222:=Tryz.sizeOf222
 v222:=Tryz.zeroValue222
 t228:=Tryz.underlying231
 a228:=Tryz.isAgg231
 z228:=Tryz.sizeOf231
 v228:=Tryz.zeroValue231
 t229:=Tryz.underlying232
 a229:=Tryz.isAgg232
 z229:=Tryz.sizeOf232
 v229:=Tryz.zeroValue232 }
def Tryz.En:Go.Shelf.Ren:=⟨fun|20=>110|n=>n,fun|22=>44|3=>3|4=>4|0=>0|n=>n,fun|n=>n⟩
theorem Tryz.Qp:Go.Proofs.Lays2.n20 Tryz.prog Tryz.En:={
 mixed:=by kernel_rfl
 f20:=Tryz.func110.trans (congrArg some (by kernel_rfl))
 t0:=Tryz.underlying0
 a0:=Tryz.isAgg0
 z0:=Tryz.sizeOf0
 v0:=Tryz.zeroValue0
 t3:=Tryz.underlying3
 a3:=Tryz.isAgg3
 z3:=Tryz.sizeOf3
 v3:=Tryz.zeroValue3
 t4:=Tryz.underlying4
 a4:=Tryz.isAgg4
 z4:=Tryz.sizeOf4
 v4:=Tryz.zeroValue4
 t22:=Tryz.underlying44
 a22:=Tryz.isAgg44
 z22:=Tryz.sizeOf44
 v22:=Tryz.zeroValue44
 i3:=by kernel_rfl }
end Go.Proofs
namespace Go.Proofs.YtnkejaohnhpbpaaGreatDoor
open Go Go.RowKit Go.Sort
theorem zF{L:List FuncId}{n:Nat}{f:FuncId}{args:Array Value}{w:World}{R:Ending→World→Prop}(h:∀D:Nat,CallsIn (Fence.list L (some D)) n Tryz.prog f args w R)(hL':L.all inside=true):CallsIn Fz 0 Tryz.prog f args w R:=
 have hL:∀x∈L,Inside x:=λx hx=>List.all_eq_true.1 hL' x hx
 ⟨hL _ (h 0).1,λcs _=>
  let ⟨e,w',fr,r,s,x⟩:=(h (cs.length+1+n)).2 cs (λ_ hd=>by cases hd;exact ay _)
  ⟨e,w',fr,r,ComesIn.mono (λ_ hm g hg=>let ⟨a,b,c,_⟩:=hm g hg;⟨a,b.imp (hL _) id,λk hk=>hL _ (c k hk),λd hd=>by cases hd⟩) s,x⟩⟩
theorem sort_in(blk off cap:Nat)(zs:List Int)(w:World)(hH:Holds (Value.int .i64) w blk off zs.toArray)(hblk:blk<w.heap.size)(hsz:zs.length<4611686018427387904) :
  CallsIn Fz 0 Tryz.prog 109 #[.slice (some ⟨blk,off,none⟩) zs.length cap] w λe w'=>e=.returned (.tuple #[])∧∃n os,w'=grow (putRow (Value.int .i64) (Sort.ahead w n) blk off (zs.mergeSort λx y=>decide (x≤y)).toArray) os:=
 zF (λD=>AnyS.slices_Sort_int_alone Tryz.lays189 D blk off cap zs w hH hblk hsz) (by kernel_rfl)
theorem L6(blk off cap:Nat)(zs:List Int)(w:World)(hH:Holds (Value.int .i64) w blk off zs.toArray)(hsz:zs.length≤9223372036854775807)(hcap:zs.length≤cap) :
  CallsIn Fz 0 Tryz.prog 110 #[.slice (some ⟨blk,off,none⟩) zs.length cap] w λe w'=>e=.returned (.slice (some ⟨blk,off,none⟩) (Lib.compact zs).length cap)∧∃q,w'=putRow (Value.int .i64) (Sort.ahead w q) blk off (Lib.compact zs++List.replicate (zs.length-(Lib.compact zs).length) 0).toArray:=
 zF (λD=>AnyS.slices_Compact_int_in Tryz.Qp D blk off cap zs w hH hsz hcap) (by kernel_rfl)
end Go.Proofs.YtnkejaohnhpbpaaGreatDoor
end
