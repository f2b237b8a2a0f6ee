/- A stable insertion, one element at a time, is what the sort of few elements does. -/
import Derived.Test.YtnkejaohnhpbpaaGreatDoorA69
import Derived.Test.YtnkejaohnhpbpaaGreatDoorA77
set_option linter.all false
namespace Go.Proofs.YtnkejaohnhpbpaaGreatDoor
section
open Go Go.Sort
section
variable {α:Type} [Inhabited α] (lt:α→α→Bool)
def lu(x:α)(l:List α):Nat→Nat
 |0=>0
 |k+1=>if lt x (l.getD k default)then lu x l k else k+1
def JI(x:α)(l:List α):List α:=l.take (lu lt x l l.length)++x::l.drop (lu lt x l l.length)
theorem OO(x:α)(l:List α):∀k,lu lt x l k≤k
 |0=>ay _
 |k+1=>by
  rw[lu];split
  ·exact Nat.le_succ_of_le (OO x l k)
  ·exact ay _
theorem zI(x:α)(l r:List α):∀k,k≤l.length→lu lt x (l++r) k=lu lt x l k
 |0,_=>rfl
 |k+1,h=>by
  rw[lu,lu,zI x l r k (by omega)];simp only[List.getD_eq_getElem?_getD,List.getElem?_append_left (show k<l.length by omega)]
theorem swp_two(T R:List α)(x y:α):swp (T++y::x::R).toArray (T.length+1) T.length=(T++x::y::R).toArray:=by
 unfold swp;have e1:(T++y::x::R).toArray[T.length]! = y:=by simp
 have e2:(T++y::x::R).toArray[T.length+1]! = x:=by simp
 rw[e1,e2];simp[List.set_append]
theorem vM(x:α):∀(j:Nat) (T R:List α),T.length=j→insInner lt 0 j (T++x::R).toArray=(T.take (lu lt x T j)++x::(T.drop (lu lt x T j)++R)).toArray
 |0,T,R,h=>by
  obtain rfl:=List.eq_nil_of_length_eq_zero h;rfl
 |j+1,T,R,h=>by
  obtain⟨T',y,rfl⟩:∃T' y,T=T'++[y]:=⟨T.dropLast,T.getLast (by intro q;rw[q]at h;cases h),(List.dropLast_concat_getLast _).symm⟩
  rw[List.length_append,List.length_singleton]at h;have hj:T'.length=j:=by omega
  have e:T'++[y]++x::R=T'++y::x::R:=by simp
  have e1:(T'++y::x::R).toArray[T'.length]! = y:=by simp
  have e2:(T'++y::x::R).toArray[T'.length+1]! = x:=by simp
  have e3:(T'++[y]).getD T'.length default=y:=by simp
  rw[hj]at e1 e2 e3;rw[e,insInner,e1,e2,lu,e3];have hsw:=swp_two T' R x y;rw[hj]at hsw;by_cases q:lt x y=true
  ·rw[if_pos (by simp[q]),if_pos q,hsw,vM x j T' (y::R) hj,zI lt x T' [y] _ (by omega)];have hk:lu lt x T' j≤T'.length:=by have:=OO lt x T' j;omega
   rw[List.take_append_of_le_length hk,List.drop_append_of_le_length hk];simp
  ·rw[if_neg (by simp[q]),if_neg q,List.take_of_length_le (by simp;omega),List.drop_of_length_le (by simp;omega)];simp
theorem vN(x:α):∀(j:Nat) (d:Array α),j<d.size→insInner lt 0 j (d.push x)=(insInner lt 0 j d).push x
 |0,_,_=>rfl
 |j+1,d,h=>by
  have e:∀i,i<d.size→(d.push x)[i]! = d[i]! := λi hi=>by
   simp only[getElem!_pos d i hi,getElem!_pos (d.push x) i (by rw[Array.size_push];omega),Array.getElem_push_lt hi]
  rw[insInner,insInner,e _ h,e j (by omega)];have es:swp (d.push x) (j+1) j=(swp d (j+1) j).push x:=by
   unfold swp;rw[e _ h,e j (by omega)];apply Array.ext_getElem?;intro i;simp only[Array.getElem?_setIfInBounds,Array.getElem?_push,Array.size_setIfInBounds,Array.size_push];by_cases q1:j=i
   ·subst q1;simp[show¬j=d.size by omega,show j<d.size by omega,show j<d.size+1 by omega]
   ·by_cases q2:j+1=i
    ·subst q2;simp[show¬j+1=d.size by omega,h,show j<d.size by omega]
    ·simp[q1,q2]
  split
  ·rw[es,vN x j _ (by rw[size_swp];omega)]
  ·rfl
theorem vP(x:α)(b:Nat):∀k i (d:Array α),b-i=k→b≤d.size→insOuter lt 0 b i (d.push x)=(insOuter lt 0 b i d).push x
 |0,i,d,h,_=>by rw[insOuter,if_neg (by omega)];conv=>rhs;rw[insOuter,if_neg (by omega)]
 |k+1,i,d,h,hb=>by
  rw[insOuter,if_pos (by omega),vN lt x i d (by omega),vP x b k (i+1) _ (by omega) (by rw[oW];exact hb)]
  conv=>rhs;rw[insOuter,if_pos (by omega)]
theorem vO(b:Nat):∀k i (d:Array α),b-i=k→i≤b→insOuter lt 0 (b+1) i d=insInner lt 0 b (insOuter lt 0 b i d)
 |0,i,d,h,hb=>by
  obtain rfl:i=b:=by omega
  rw[insOuter,if_pos (by omega),insOuter,if_neg (by omega)]
  conv=>rhs;rw[insOuter,if_neg (by omega)]
 |k+1,i,d,h,hb=>by
  rw[insOuter,if_pos (by omega),vO b k (i+1) _ (by omega) (by omega)]
  conv=>rhs;rw[insOuter,if_pos (by omega)]
theorem sJ(l:List α)(x:α):(insertionSort lt (l++[x]).toArray 0 (l++[x]).length).toList=JI lt x (insertionSort lt l.toArray 0 l.length).toList:=by
 have hp:(l++[x]).toArray=l.toArray.push x:=by simp
 rw[hp,List.length_append,List.length_singleton];have hs:=gK lt l.toArray 0 l.length;unfold insertionSort at *;by_cases h0:l.length=0
 ·obtain rfl:=List.eq_nil_of_length_eq_zero h0;rw[insOuter,if_neg (by simp)]
  conv=>rhs;rw[insOuter,if_neg (by simp)]
  rfl
 ·rw[vO lt l.length _ _ _ rfl (by omega),vP lt x l.length _ _ _ rfl (by simp)];generalize insOuter lt 0 l.length (0+1) l.toArray=A at *;obtain⟨L⟩:=A;have hL:L.length=l.length:=by simpa using hs
  have:=vM lt x L.length L [] rfl;rw[show(Array.mk L).push x=(L++[x]).toArray by simp,← hL,this];unfold JI;simp
end
theorem Oa(l:List Int)(x:Int):gB (l++[x])=JI ltI x (gB l):=sJ ltI l x
theorem Ob(l:List (Int×Int))(x:Int×Int):sortL (l++[x])=JI ltL x (sortL l):=sJ ltL l x
theorem Ih(x y:Int):ltI x y=decide (x<y):=by
 unfold ltI GY;by_cases h:x<y
 ·simp[h]
 ·by_cases h2:x=y
  ·simp[h2]
  ·simp[h,show y<x by omega]
end
section
open Go Go.RowKit Lift
theorem Q9{L:List (Int×Int)}{a:Int}{k k':Nat}(h:Gz L a k)(h':Gz L a k'):k=k':=by
 have e:=h.le;have e':=h'.le;rcases Nat.lt_trichotomy k k' with q|q|q
 ·have:=h'.had k q;have:=h.not (by omega);omega
 ·exact q
 ·have:=h.had k' q;have:=h'.not (by omega);omega
theorem yA{b:Book}{s:St}{day:Int}:∀{c:Nat} {cs ps cs' ps':List Int},jX b s day c cs ps→jX b s day c cs' ps'→cs=cs'∧ps=ps'
 |0,_,_,_,_,h,h'=>by
  obtain⟨rfl,rfl⟩:=h;obtain⟨rfl,rfl⟩:=h';exact⟨rfl,rfl⟩
 |c+1,_,_,_,_,h,h'=>by
  obtain⟨c0,p0,k,h0,ht,rfl,rfl⟩:=h;obtain⟨c1,p1,k',h1,ht',rfl,rfl⟩:=h';obtain⟨rfl,rfl⟩:=yA h0 h1;obtain rfl:=Q9 ht ht';exact⟨rfl,rfl⟩
def sums(L:List (Int×Int)):Nat→Int
 |0=>0
 |k+1=>wrap64 (sums L k+(L.getD k (0,0)).2)
theorem getD_mem{L:List (Int×Int)}{k:Nat}(h:k<L.length):L.getD k (0,0)∈L:=by
 rw[List.getD_eq_getElem?_getD,List.getElem?_eq_getElem h];exact List.getElem_mem _
section
variable {L:List (Int×Int)} (h0:∀x∈L,0≤x.2∧x.2≤1000000) (hL:L.length≤100)
include h0 hL
theorem oO:∀k,k≤L.length→0≤sums L k∧sums L k≤1000000 * k
 |0,_=>by simp[sums]
 |k+1,hk=>by
  have h:=oO k (by omega);have hx:=h0 _ (getD_mem (show k<L.length by omega));rw[sums];unfold wrap64;omega
theorem uT{k:Nat}(hk:k<L.length):sums L (k+1)=sums L k+(L.getD k (0,0)).2:=by
 have h:=oO h0 hL k (by omega);have hx:=h0 _ (getD_mem hk);rw[sums];unfold wrap64;omega
theorem yF{a:Int}(a0:0≤a)(a1:a≤100000000000){k:Nat}(hk:k≤L.length)(had:∀j,j<k→sums L (j+1)≤a)(hnot:k<L.length→a<sums L (k+1)):Gz L a k:=by
 have hl:∀j,j≤k→lefts L a j=a-sums L j:=by
  intro j
  induction j with
  |zero=>intro _;simp[lefts,sums]
  |succ j ih=>
   intro hj;have e:=ih (by omega);have s1:=oO h0 hL (j+1) (by omega);have hh:=had j (by omega);have hs:=uT h0 hL (show j<L.length by omega);rw[hs]at s1 hh;rw[CJ,e,hs];unfold wrap64;omega
 refine⟨hk,λj hj=>?_,λh=>?_⟩
 ·have hh:=had j hj;rw[uT h0 hL (by omega)]at hh;rw[hl j (by omega)];omega
 ·have hh:=hnot h;rw[uT h0 hL h]at hh;rw[hl k (ay _)];omega
end
structure Pj (cases proof:List Int) (L:List (Int×Int)) (i k:Nat) (pd:Int) (s:Nat) (sm mo le:Int):Prop where
 ck:k=(L.take i).countP (inL cases)
 cpd:pd=smP (inL cases) (L.take i)
 cs:s=(L.take i).countP (inL proof)
 csm:sm=smP (inL proof) (L.take i)
 m1:∀x∈L.take i,inL proof x=true→x.2≤mo
 m0:0≤mo
 mL:∀m,0≤m→(∀x∈L.take i,inL proof x=true→x.2≤m)→mo≤m
 l1:∀x∈L.take i,inL proof x=false→le≤x.2
 lL:∀m,m≤1073741824→(∀x∈L.take i,inL proof x=false→m≤x.2)→m≤le
 l0:le≤1073741824
theorem rv_zero(cases proof:List Int)(L:List (Int×Int)):Pj cases proof L 0 0 0 0 0 0 1073741824:=
 ⟨rfl,rfl,rfl,rfl,λx h=>absurd h List.not_mem_nil,Int.le_refl _,λm h _=>h,λx h=>absurd h List.not_mem_nil,λm h _=>h,Int.le_refl _⟩
section
variable {cases proof:List Int} {L:List (Int×Int)} (h0:∀x∈L,0≤x.2∧x.2≤1000000) (hL:L.length≤100)
include h0 hL
theorem y8{i k s:Nat}{pd sm mo le:Int}(h:Pj cases proof L i k pd s sm mo le):0≤pd∧pd≤100000000∧0≤sm∧sm≤100000000∧0≤mo∧mo≤1000000∧0≤le∧le≤1073741824∧k≤i∧s≤i:=by
 have hT:∀x∈L.take i,0≤x.2∧x.2≤1000000:=λx hx=>h0 x (List.mem_of_mem_take hx);have hl:(L.take i).length≤100:=by rw[List.length_take];omega
 have hi:(L.take i).length≤i:=by rw[List.length_take];omega
 have b1:=nY (p:=inL cases) hT;have b2:=nY (p:=inL proof) hT;rw[← h.cpd]at b1;rw[← h.csm]at b2;have b3:=h.mL 1000000 (by omega) λx hx _=>(hT x hx).2;have b4:=h.lL 0 (by omega) λx hx _=>(hT x hx).1;have b5:=h.m0;have b6:=h.l0;have b7:=List.countP_le_length (p:=inL cases) (l:=L.take i);have b8:=List.countP_le_length (p:=inL proof) (l:=L.take i);rw[← h.ck]at b7;rw[← h.cs]at b8;omega
theorem AZ{i k s:Nat}{pd sm mo le x1 x2:Int}(h:Pj cases proof L i k pd s sm mo le)(hi:i<L.length)(hx:L.getD i (0,0)=(x1,x2)) :
  Pj cases proof L (i+1) (if x1∈cases then k+1 else k) (if x1∈cases then wrap64 (pd+x2)else pd) (if x1∈proof then s+1 else s) (if x1∈proof then wrap64 (sm+x2)else sm) (if x1∈proof then max mo x2 else mo) (if x1∈proof then le else min le x2):=by
 have et:=DU L hi;rw[hx]at et;have hxm:=h0 _ (getD_mem hi);rw[hx]at hxm;simp only at hxm;have B:=y8 h0 hL h;have hmem:∀x,x∈L.take (i+1)↔x∈L.take i∨x=(x1,x2):=λx=>by rw[et,List.mem_append,List.mem_singleton]
 have hin:∀l,inL l (x1,x2)=decide (x1∈l):=λ_=>rfl;refine⟨?_,?_,?_,?_,λx hx' hp=>?_,?_,λm hm hall=>?_,λx hx' hp=>?_,λm hm hall=>?_,?_⟩
 ·rw[et,List.countP_append,List.countP_cons,List.countP_nil,h.ck,hin];by_cases q:x1∈cases<;>simp[q]
 ·rw[et,kR,smP,smP,← h.cpd,hin];by_cases q:x1∈cases
  ·rw[if_pos q,if_pos (decide_eq_true q)];unfold wrap64;omega
  ·rw[if_neg q,if_neg (by simpa using q)];omega
 ·rw[et,List.countP_append,List.countP_cons,List.countP_nil,h.cs,hin];by_cases q:x1∈proof<;>simp[q]
 ·rw[et,kR,smP,smP,← h.csm,hin];by_cases q:x1∈proof
  ·rw[if_pos q,if_pos (decide_eq_true q)];unfold wrap64;omega
  ·rw[if_neg q,if_neg (by simpa using q)];omega
 ·rcases(hmem x).1 hx' with q|rfl
  ·have:=h.m1 x q hp;split<;>omega
  ·rw[hin,decide_eq_true_eq]at hp;rw[if_pos hp];simp only;omega
 ·split<;>omega
 ·have e:=h.mL m hm λx q hp=>hall x ((hmem x).2 (.inl q)) hp;by_cases q:x1∈proof
  ·have:=hall (x1,x2) ((hmem _).2 (.inr rfl)) (by rw[hin];exact decide_eq_true q);simp only at this;rw[if_pos q];omega
  ·rw[if_neg q];exact e
 ·rcases(hmem x).1 hx' with q|rfl
  ·have:=h.l1 x q hp;split<;>omega
  ·rw[hin,decide_eq_false_iff_not]at hp;rw[if_neg hp];simp only;omega
 ·have e:=h.lL m hm λx q hp=>hall x ((hmem x).2 (.inl q)) hp;by_cases q:x1∈proof
  ·rw[if_pos q];exact e
  ·have:=hall (x1,x2) ((hmem _).2 (.inr rfl)) (by rw[hin];exact decide_eq_false q);simp only at this;rw[if_neg q];omega
 ·split<;>omega
def lN(n k:Nat)(pd:Int)(s:Nat)(sm mo le a:Int):Bool:=if a<pd then false else if k=n then decide (s=0)else decide (s=k+1)&&decide (mo≤le)&&decide (a<sm)
omit h0 hL in
theorem KJ{a:Int}:∀{i:Nat},i≤L.length→pv cases proof L a i=none→∃j,j<i∧(L.getD j (0,0)).1∈proof∧(L.take j).any (fK (L.getD j (0,0)).2 proof)=true
 |0,_,h=>by cases h
 |i+1,hi,h=>by
  cases e:pv cases proof L a i with
  |none=>
   obtain⟨j,h1,h2⟩:=KJ (by omega) e;exact⟨j,by omega,h2⟩
  |some q=>
   obtain⟨k,s,l,g⟩:=q;obtain⟨⟨x1,x2⟩,hx⟩:∃x,L.getD i (0,0)=x:=⟨_,rfl⟩
   rw[IE e hx]at h;split at h
   ·rename_i hq;refine⟨i,by omega,?_⟩;rw[hx];simpa using hq
   ·cases h
theorem rv_pv{a:Int}(a0:0≤a)(a1:a≤100000000000)(hs:∀i j,i<j→j<L.length→(L.getD i (0,0)).2≤(L.getD j (0,0)).2){k s:Nat}{pd sm mo le:Int}(h:Pj cases proof L L.length k pd s sm mo le) :
  lN L.length k pd s sm mo le a=jG cases proof L a:=by
 have hk:=h.ck;have hpd:=h.cpd;have hs':=h.cs;have hsm:=h.csm;rw[List.take_length]at hk hpd hs' hsm;unfold lN jG;cases e:pv cases proof L a L.length with
 |none=>
  obtain⟨j,hj,h1,h2⟩:=KJ (ay _) e;have hin:inL proof (L.getD j (0,0))=true:=decide_eq_true h1;have hpos:0<s:=by
   rw[hs'];exact List.countP_pos_iff.2 ⟨_,getD_mem hj,hin⟩
  obtain⟨y,hy,hl⟩:=List.any_eq_true.1 h2;unfold fK at hl;simp only[Bool.and_eq_true,decide_eq_true_eq,Bool.not_eq_true',decide_eq_false_iff_not]at hl;have m1:=h.m1 _ (by rw[List.take_length];exact getD_mem hj) hin;have m2:=h.l1 y (by rw[List.take_length];exact List.mem_of_mem_take hy) (decide_eq_false hl.2);have hml:¬mo≤le:=by omega
  simp only;split
  ·rfl
  ·split
   ·exact decide_eq_false (by omega)
   ·rw[decide_eq_false hml,Bool.and_false,Bool.false_and]
 |some q=>
  obtain⟨k',s',l,g⟩:=q;have P:=pv_is h0 hL a0 a1 (ay _) e;have pk:=P.k;have ps:=P.s;have pl:=P.l;have pg:=P.h;rw[List.take_length]at pk ps pl pg;obtain rfl:k'=k:=by rw[pk,hk]
  obtain rfl:s'=s:=by rw[ps,hs']
  obtain rfl:g=sm:=by rw[pg,hsm]
  rw[← hpd]at pl;have hml:mo≤le:=by
   have hpair:∀x∈L,∀y∈L,inL proof x=true→inL proof y=false→x.2≤y.2:=λx hx y hy qx qy=>by
    obtain⟨i,hi,rfl⟩:=List.mem_iff_getElem.1 hx;obtain⟨j,hj,rfl⟩:=List.mem_iff_getElem.1 hy;have ei:L.getD i (0,0)=L[i]:=by simp[hi]
    have ej:L.getD j (0,0)=L[j]:=by simp[hj]
    have qx':L[i].1∈proof:=by simpa[inL]using qx
    have qy':L[j].1∉proof:=by simpa[inL]using qy
    refine Decidable.byContradiction λhlt=>?_;by_cases hij:j<i
    ·have hok:=P.ok i hi (by rw[ei];exact qx');rw[ei,List.any_eq_false]at hok;refine hok L[j] (List.mem_iff_getElem.2 ⟨j,by rw[List.length_take];omega,by simp⟩) ?_;unfold fK;simp only[Bool.and_eq_true,decide_eq_true_eq,Bool.not_eq_true',decide_eq_false_iff_not];exact⟨by omega,qy'⟩
    ·by_cases e2:i=j
     ·subst e2;exact qy' qx'
     ·have:=hs i j (by omega) hj;rw[ei,ej]at this;omega
   refine h.mL le (y8 h0 hL h).2.2.2.2.2.2.1 λx hx qx=>?_;rw[List.take_length]at hx;refine h.lL x.2 (by have:=(h0 x hx).2;omega) λy hy qy=>?_;rw[List.take_length]at hy;exact hpair x hx y hy qx qy
  simp only[hml,decide_true,Bool.and_true];by_cases q1:a<pd
  ·rw[if_pos q1,decide_eq_true (show l<0 by omega)];rfl
  ·rw[if_neg q1,decide_eq_false (show¬l<0 by omega),Bool.not_false,Bool.true_and];by_cases q2:k'=L.length
   ·rw[if_pos q2];by_cases q3:s'=0
    ·rw[if_pos ⟨q2,q3⟩,decide_eq_true q3]
    ·rw[if_neg λz=>q3 z.2,decide_eq_false q3,decide_eq_true q2];rfl
   ·rw[if_neg q2,if_neg λz=>q2 z.1,decide_eq_false q2,Bool.false_or];by_cases q3:s'=k'+1
    ·by_cases q4:g≤a
     ·simp[q3,q4,show¬a<g by omega]
     ·simp[q3,q4,show a<g by omega]
    ·simp[q3]
end
end
section
open Go Go.RowKit Lift
section
variable {F:Fence} {n:Nat}
theorem rX{w:World}{o:Oper}{a:Act}{K:Act→World→Prop}{Q:Exit→Act→World→Prop}(s x:Operand)(hop:o.op=.call { callee:=.builtin .append,args:=#[s,x],argTypes:=#[44,44] })
  {base k:Nat} {v u:Value} {xs ys:List Int} (hs:a.eval s=v) (hown:w.ownsRow base 3 1 v k (ints xs)) (hx:a.eval x=u) (hy:bQ w u ys) (hk:k+ys.length≤1000000) (hb:base≤w.heap.size)
  (hK:∀v' w',w'.ownsRow base 3 1 v' (k+ys.length) (ints (xs++ys))→w.grownBy w' v.ownBlock→(v'.ownBlock=v.ownBlock∨v'.ownBlock=some w.heap.size)→K (a.put o.dst v') w'):o.wpIn F n Tryz.prog a w K Q:=by
 obtain⟨i0,hi0,hz0,hz1,hz2⟩:=info_parts Tryz.pY;obtain⟨b0,off,cap,rfl,hr⟩:=hy;have fin:∀v' w',(Builtin.append_ #[44,44] o.type #[v,.slice b0 ys.length cap]).run Tryz.prog w=.ok v' w'→K (a.put o.dst v') w'→o.wpIn F n Tryz.prog a w K Q:=λv' w' hrun h=>by
  unfold Oper.wpIn;refine⟨?_,?_⟩
  ·simp[Oper.about,hop,resolve,Target.leads,Sem.run_pure]
  ·rw[Oper.semAt_plain F _ _ (by rw[hop];intro c hc';cases hc')];simp[execOp,hop,resolve,invoke,builtin,hs,hx,hrun,Result.andThen];exact h
 have hil:(ints ys).length=ys.length:=by unfold ints;rw[List.length_map]
 have hia:ints (xs++ys)=ints xs++ints ys:=by unfold ints;rw[List.map_append]
 rw[hia]at hK;cases b0 with
 |none=>
  have hnil:ys=[]:=by
   cases ys with
   |nil=>rfl
   |cons y ys=>obtain⟨_,e,_⟩:=hr 0 (by simp);cases e
  subst hnil;refine fin _ _ (yB Tryz.underlying44 hi0 hown) (hK v w ?_ ⟨rfl,rfl,rfl,ay _,λ_ _ _=>rfl⟩ (.inl rfl));simpa[ints]using hown
 |some ad=>
  have hcell:∀j u,(ints ys)[j]?=some u→w.cell? (ad.add j)=some u:=λj u hu=>by
   have hj:j<ys.length:=by have:=(List.getElem?_eq_some_iff.1 hu).1;omega
   obtain⟨B,e,-,h5⟩:=hr j hj;cases e;have hv:(ints ys)[j]?=some (.int .i64 (ys.getD j 0)):=by simp[ints,hj]
   rw[hv]at hu;cases hu;rw[Addr.add_mid];exact h5
  obtain⟨v',w',hrun,r1,r2,r3,r4⟩:=run_append_own_at (P:=Tryz.prog) w base 44 o.type 3 i0 _ 1 8 Tryz.underlying44 hi0 hz0 hz1 hz2 rfl (by decide) v k _ hown ad ys.length cap (ints ys) (by rw[hil,Nat.mul_one]) hcell (λu h=>by
   unfold ints at h;obtain⟨y,_,rfl⟩:=List.mem_map.1 h;rfl) (by unfold maxLen;omega) (by omega) hb
  exact fin v' w' hrun (hK v' w' r1 r2 r4)
theorem dF{w:World}{ops:Array Oper}{rest:List Oper}{o:Oper}{a:Act}{Q:Exit→Act→World→Prop}(hg:o.guard=none)(s x:Operand)(hop:o.op=.call { callee:=.builtin .append,args:=#[s,x],argTypes:=#[44,44] })
  {base k:Nat} {v u:Value} {xs ys:List Int} (hs:a.eval s=v) (hown:w.ownsRow base 3 1 v k (ints xs)) (hx:a.eval x=u) (hy:bQ w u ys) (hk:k+ys.length≤1000000) (hb:base≤w.heap.size)
  (hK:∀v' w',w'.ownsRow base 3 1 v' (k+ys.length) (ints (xs++ys))→w.grownBy w' v.ownBlock→(v'.ownBlock=v.ownBlock∨v'.ownBlock=some w.heap.size)→wpListIn F n Tryz.prog ops Q rest (a.put o.dst v') w'):wpListIn F n Tryz.prog ops Q (o::rest) a w:=
 wpListIn_plain hg λK hK'=>rX s x hop hs hown hx hy hk hb λv' w' h1 h2 h3=>hK' _ _ (hK v' w' h1 h2 h3)
end
theorem LW{o:Oper}{a:Act}{w:World}{K:Act→World→Prop}{Q:Exit→Act→World→Prop}(hop:o.op=.buildSlice 44 0 #[])(h:K (a.put o.dst (.slice (some ⟨w.heap.size,0,none⟩) 0 0)) (w.alloc (.cells #[] 3))):o.wpIn Fz 0 Tryz.prog a w K Q:=by
 obtain⟨d,op,ty,ps,af,gd⟩:=o;simp only at hop h;subst hop;gi_wp2
 all_goals exact h
theorem nR{w:World}{base:Nat}(hb:base≤w.heap.size):(w.alloc (.cells #[] 3)).ownsRow base 3 1 (.slice (some ⟨w.heap.size,0,none⟩) 0 0) 0 (ints []):=World.ownsRow_lit w #[] 0 hb (by decide) rfl
theorem Dx{w:World}{base:Nat}(hb:base≤w.heap.size)(y:Int):(w.alloc (.cells #[.int .i64 y] 3)).ownsRow base 3 1 (.slice (some ⟨w.heap.size,0,none⟩) 1 1) 1 (ints [y]):=World.ownsRow_lit w #[.int .i64 y] 1 hb (by decide) rfl
theorem bQ.to{w:World}{a:Option Addr}{n cap:Nat}{xs:List Int}(h:bQ w (.slice a n cap) xs){k c:Nat}(hk:k≤xs.length):bQ w (.slice a k c) (xs.take k):=by
 obtain⟨b,off,c',e,h2⟩:=h;have hl:(xs.take k).length=k:=by rw[List.length_take];omega
 cases e;refine⟨_,off,c,by rw[hl],λi hi=>?_⟩;rw[hl]at hi;obtain⟨B,e2,h4,h5⟩:=h2 i (by omega);refine⟨B,e2,h4,?_⟩;rw[h5,List.getD_eq_getElem?_getD,List.getD_eq_getElem?_getD,List.getElem?_take_of_lt hi]
theorem bQ.from{w:World}{a:Option Addr}{n c:Nat}{xs:List Int}(h:bQ w (.slice a n c) xs){k:Nat}(hk:k≤xs.length)(hn:n=xs.length)(hc:n≤c):bQ w (.slice (if c=k then a else Option.map (λx=>x.add k) a) (n-k) (c-k)) (xs.drop k):=by
 obtain⟨b,off,c',e,h2⟩:=h;have hl:(xs.drop k).length=n-k:=by rw[List.length_drop];omega
 cases e;refine⟨_,off+k,c-k,by rw[hl],λi hi=>?_⟩;rw[hl]at hi;obtain⟨B,rfl,h4,h5⟩:=h2 (k+i) (by omega);refine⟨B,by rw[if_neg (by omega)];simp only[Option.map_some,Addr.add_mid],h4,?_⟩;rw[Nat.add_assoc,h5,List.getD_eq_getElem?_getD,List.getD_eq_getElem?_getD,List.getElem?_drop]
theorem tu{w:World}{N k n c:Nat}{e:TypeId}{a:Option Addr}{xs:List Value}(h:w.ownsRow N e k (.slice a n c) n xs):n≤c:=by
 rcases h.2 with⟨_,h0⟩|⟨g,cap,cur,e,_,_,h3,_⟩
 ·omega
 ·cases e;exact h3
theorem bQ.nil{w:World}(c:Nat):bQ w (.slice none 0 c) []:=⟨none,0,c,rfl,λi hi=>absurd hi (by simp)⟩
structure WAI (ix:Ix) (sv:Tmp) (w0:World) (xs:List Int) (y:Int) (D:Nat→Bool) (x:Tmp→Value) (w:World):Prop where
 bel:Below w0.heap.size w0 w
 o1:D ix.i1=true→D ix.i2=false→w.ownsRow w0.heap.size 3 1 (x ix.s1) 0 (ints [])
 o2:D ix.i2=true→D ix.i4=false→w.ownsRow w0.heap.size 3 1 (x ix.s2) xs.length (ints xs)
 o3:D ix.i3=true→D ix.i4=false→w.ownsRow w0.heap.size 3 1 (x ix.s3) 1 (ints [y])
 o4:D ix.i4=true→w.ownsRow w0.heap.size 3 1 (x ix.s4) (xs.length+1) (ints (xs++[y]))
 ne:D ix.i1=true→D ix.i2=false→D ix.i3=true→D ix.i4=false→(x ix.s1).ownBlock≠(x ix.s3).ownBlock∨(x ix.s3).ownBlock=none
 SK:D ix.i2=true→D ix.i1=true
 SL:D ix.i4=true→D ix.i2=true∧D ix.i3=true
 mv:D ix.i5=true→x sv=x ix.s4∧D ix.i4=true
section
variable {ix:Ix} {sv:Tmp} {w0 w w':World} {xs:List Int} {y:Int} {D:Nat→Bool} {x:Tmp→Value}
theorem WAI.start{x0:Tmp→Value}:WAI ix sv w0 xs y (λ_=>false) x0 { w0 with drawn:=w0.drawn+1 }:=
 ⟨⟨rfl,rfl,rfl,ay _,λ_ _=>rfl⟩,λh=>by(cases h),λh=>by(cases h),λh=>by(cases h),λh=>by(cases h),λh=>by(cases h),λh=>by(cases h),λh=>by(cases h),λh=>by(cases h)⟩
theorem WAI.pure(h:WAI ix sv w0 xs y D x w){i:Nat}(hi:i∉[ix.i1,ix.i2,ix.i3,ix.i4,ix.i5]):WAI ix sv w0 xs y (aQ D i) x w:=by
 simp only[List.mem_cons,List.not_mem_nil,or_false,not_or]at hi;obtain⟨h1,h2,h3,h4,h5⟩:=hi;have e1:=aT (D:=D) (Ne.symm h1);have e2:=aT (D:=D) (Ne.symm h2);have e3:=aT (D:=D) (Ne.symm h3);have e4:=aT (D:=D) (Ne.symm h4);have e5:=aT (D:=D) (Ne.symm h5);exact⟨h.bel,by rw[e1,e2];exact h.o1,by rw[e2,e4];exact h.o2,by rw[e3,e4];exact h.o3,by rw[e4];exact h.o4,by rw[e1,e2,e3,e4];exact h.ne,by rw[e2,e1];exact h.SK,by rw[e4,e2,e3];exact h.SL,by rw[e5,e4];exact h.mv⟩
variable (hok:ix.ok=true) (hsv:sv∉[ix.s1,ix.s2,ix.s3,ix.s4])
include hok hsv
theorem WAI.SA(h:WAI ix sv w0 xs y D x w)(d1':D ix.i1=false)(d5:D ix.i5=false):WAI ix sv w0 xs y (aQ D ix.i1) (iU x ix.s1 (.slice (some ⟨w.heap.size,0,none⟩) 0 0)) (w.alloc (.cells #[] 3)):=by
 obtain⟨⟨a1,a2,a3,a4⟩,⟨b1,b2,b3⟩,⟨c1,c2⟩,d1,⟨s1,s2,s3⟩,⟨t1,t2⟩,u1⟩:=Ix.ok.to hok;have hb:=h.bel;have d2:=sQ h.SK d1';have d4:=sQ (λq=>(h.SL q).1) d2;have e2:aQ D ix.i1 ix.i2=D ix.i2:=aT (Ne.symm a1);have e3:aQ D ix.i1 ix.i3=D ix.i3:=aT (Ne.symm a2);have e4:aQ D ix.i1 ix.i4=D ix.i4:=aT (Ne.symm a3);have e5:aQ D ix.i1 ix.i5=D ix.i5:=aT (Ne.symm a4);refine⟨hb.alloc hb.size _,λ_ _=>?_,λq=>nof (e2.trans d2) q,λq q'=>?_,λq=>nof (e4.trans d4) q,λ_ _ q q'=>?_,λ_=>bJ,λq=>nof (e4.trans d4) q,λq=>nof (e5.trans d5) q⟩
 ·rw[eH];exact nR hb.size
 ·rw[e3]at q;rw[e4]at q';rw[dN (Ne.symm s2)];exact(h.o3 q q').alloc _
 ·rw[e3]at q;rw[e4]at q';rw[eH,dN (Ne.symm s2)];cases hv:(x ix.s3).ownBlock with
  |none=>exact .inr rfl
  |some k=>
   have:=AY (h.o3 q q') hv;exact .inl λe=>by simp[Value.ownBlock]at e;omega
theorem WAI.SB(h:WAI ix sv w0 xs y D x w)(d3':D ix.i3=false)(d5:D ix.i5=false):WAI ix sv w0 xs y (aQ D ix.i3) (iU x ix.s3 (.slice (some ⟨w.heap.size,0,none⟩) 1 1)) (w.alloc (.cells #[.int .i64 y] 3)):=by
 obtain⟨⟨a1,a2,a3,a4⟩,⟨b1,b2,b3⟩,⟨c1,c2⟩,d1,⟨s1,s2,s3⟩,⟨t1,t2⟩,u1⟩:=Ix.ok.to hok;have hb:=h.bel;have d4:=sQ (λq=>(h.SL q).2) d3';have e1:aQ D ix.i3 ix.i1=D ix.i1:=aT a2;have e2:aQ D ix.i3 ix.i2=D ix.i2:=aT b1;have e4:aQ D ix.i3 ix.i4=D ix.i4:=aT (Ne.symm c1);have e5:aQ D ix.i3 ix.i5=D ix.i5:=aT (Ne.symm c2);refine⟨hb.alloc hb.size _,λq q'=>?_,λq q'=>?_,λ_ _=>?_,λq=>nof (e4.trans d4) q,λq q' _ _=>?_,λq=>by rw[e2]at q;rw[e1];exact h.SK q,λq=>nof (e4.trans d4) q,λq=>nof (e5.trans d5) q⟩
 ·rw[e1]at q;rw[e2]at q';rw[dN s2];exact(h.o1 q q').alloc _
 ·rw[e2]at q;rw[dN t1];exact(h.o2 q d4).alloc _
 ·rw[eH];exact Dx hb.size y
 ·rw[e1]at q;rw[e2]at q';rw[eH,dN s2];refine .inl λe=>?_;have:=AY (h.o1 q q') (k:=w.heap.size) (by rw[e];rfl);omega
theorem WAI.app1(h:WAI ix sv w0 xs y D x w)(q1:D ix.i1=true)(d2:D ix.i2=false)(d5:D ix.i5=false){v:Value}(hown:w'.ownsRow w0.heap.size 3 1 v (0+xs.length) (ints ([]++xs)))(hg:w.grownBy w' (x ix.s1).ownBlock) :
  WAI ix sv w0 xs y (aQ D ix.i2) (iU x ix.s2 v) w':=by
 obtain⟨⟨a1,a2,a3,a4⟩,⟨b1,b2,b3⟩,⟨c1,c2⟩,d1,⟨s1,s2,s3⟩,⟨t1,t2⟩,u1⟩:=Ix.ok.to hok;have hb:=h.bel;have d4:=sQ (λq=>(h.SL q).1) d2;have e1:aQ D ix.i2 ix.i1=D ix.i1:=aT a1;have e3:aQ D ix.i2 ix.i3=D ix.i3:=aT (Ne.symm b1);have e4:aQ D ix.i2 ix.i4=D ix.i4:=aT (Ne.symm b2);have e5:aQ D ix.i2 ix.i5=D ix.i5:=aT (Ne.symm b3);rw[Nat.zero_add,List.nil_append]at hown;refine⟨hb.trans (eY (h.o1 q1 d2) hg hb.size),λ_ q=>nof q bJ,λ_ _=>by rw[eH];exact hown,λq _=>?_,λq=>nof (e4.trans d4) q,λ_ q=>nof q bJ,λ_=>e1.trans q1,λq=>nof (e4.trans d4) q,λq=>nof (e5.trans d5) q⟩;rw[e3]at q;rw[dN (Ne.symm t1)];refine Dv (h.o3 q d4) hg ?_;rcases h.ne q1 d2 q d4 with e|e
 ·exact .inl (Ne.symm e)
 ·exact .inr e
theorem WAI.app2(h:WAI ix sv w0 xs y D x w)(q2:D ix.i2=true)(q3:D ix.i3=true)(d4:D ix.i4=false)(d5:D ix.i5=false){v:Value}(hown:w'.ownsRow w0.heap.size 3 1 v (xs.length+1) (ints (xs++[y])))(hg:w.grownBy w' (x ix.s2).ownBlock) :
  WAI ix sv w0 xs y (aQ D ix.i4) (iU x ix.s4 v) w':=by
 obtain⟨⟨a1,a2,a3,a4⟩,⟨b1,b2,b3⟩,⟨c1,c2⟩,d1,⟨s1,s2,s3⟩,⟨t1,t2⟩,u1⟩:=Ix.ok.to hok;have hb:=h.bel;have e1:aQ D ix.i4 ix.i1=D ix.i1:=aT a3;have e3:aQ D ix.i4 ix.i3=D ix.i3:=aT c1;have e2:aQ D ix.i4 ix.i2=D ix.i2:=aT b2;have e5:aQ D ix.i4 ix.i5=D ix.i5:=aT (Ne.symm d1);exact⟨hb.trans (eY (h.o2 q2 d4) hg hb.size),λ_ q=>nof q (e2.trans q2),λ_ q=>nof q bJ,λ_ q=>nof q bJ,λ_=>by rw[eH];exact hown,λ_ _ _ q=>nof q bJ,λq=>by rw[e2]at q;rw[e1];exact h.SK q,λ_=>⟨e2.trans q2,e3.trans q3⟩,λq=>nof (e5.trans d5) q⟩
theorem WAI.move(h:WAI ix sv w0 xs y D x w)(q4:D ix.i4=true):WAI ix sv w0 xs y (aQ D ix.i5) (iU x sv (x ix.s4)) w:=by
 obtain⟨⟨a1,a2,a3,a4⟩,⟨b1,b2,b3⟩,⟨c1,c2⟩,d1,-⟩:=Ix.ok.to hok;simp only[List.mem_cons,List.not_mem_nil,or_false,not_or]at hsv;obtain⟨v1,v2,v3,v4⟩:=hsv;have e1:aQ D ix.i5 ix.i1=D ix.i1:=aT a4;have e2:aQ D ix.i5 ix.i2=D ix.i2:=aT b3;have e3:aQ D ix.i5 ix.i3=D ix.i3:=aT c2;have e4:aQ D ix.i5 ix.i4=D ix.i4:=aT d1;have hx:∀{s:Tmp},sv≠s→∀u,iU x sv u s=x s:=λhs u=>dN (Ne.symm hs);refine⟨h.bel,?_,?_,?_,?_,?_,by rw[e2,e1];exact h.SK,by rw[e4,e2,e3];exact h.SL,λ_=>⟨by rw[eH,hx v4],e4.trans q4⟩⟩
 ·rw[e1,e2,hx v1];exact h.o1
 ·rw[e2,e4,hx v2];exact h.o2
 ·rw[e3,e4,hx v3];exact h.o3
 ·rw[e4,hx v4];exact h.o4
 ·rw[e1,e2,e3,e4,hx v1,hx v3];exact h.ne
end
theorem gl5{P:Tmp→Prop}{a b c d e:Tmp}(h1:P a)(h2:P b)(h3:P c)(h4:P d)(h5:P e):∀x∈[a,b,c,d,e],P x:=λx hx=>by
 simp only[List.mem_cons,List.not_mem_nil,or_false]at hx;rcases hx with rfl|rfl|rfl|rfl|rfl<;>assumption
theorem Ce{α:Type}[Inhabited α](lt:α→α→Bool)(x:α)(l:List α){k:Nat}(h:lu lt x l l.length=k):JI lt x l=l.take k++[x]++l.drop k:=by
 unfold JI;rw[h];simp
end
section
open Go Go.RowKit Lift
theorem Oh(xs:List Int){i:Nat}(hi:i<xs.length):xs.take (i+1)=xs.take i++[xs.getD i 0]:=by
 rw[List.take_add_one,List.getElem?_eq_getElem hi];simp[List.getD_eq_getElem?_getD,List.getElem?_eq_getElem hi]
theorem KQ{w:World}{a:Option Addr}{n c:Nat}{L:List Int}(h:bQ w (.slice a n c) L){m:Nat}(hm:m<L.length):∃G o,a=some ⟨G,o,none⟩∧G<w.heap.size∧w.cell? ⟨G,o+m,none⟩=some (.int .i64 (L.getD m 0)):=by
 obtain⟨b,off,c',e,h2⟩:=h;obtain⟨B,e2,h4,h5⟩:=h2 m hm;cases e;exact⟨B,off,e2,h4,h5⟩
set_option maxHeartbeats 16000000 in
set_option maxRecDepth 100000 in
theorem KT{w:World}{v:Value}{xs:List Int}(h:bQ w v xs)(hn:xs.length<1000) :
  CallsIn Fz 0 Tryz.prog 68 #[v] w λe w'=>∃v',e=.returned v'∧w'.ownsRow w.heap.size 3 1 v' xs.length (ints (gB xs))∧Below w.heap.size w w':=by
 obtain⟨base,off,cap,rfl,h2⟩:=h;gi_enter Tryz.func68,Tryz.ntmps68
 gi_wp2;gi_loopw [3,4] (λv i wr=>∃(k:Nat) (a:Option Addr) (c:Nat),k≤xs.length∧i=.int .i64 k∧v=.slice a k c∧wr.ownsRow w.heap.size 3 1 v k (ints (gB (xs.take k)))∧Below w.heap.size w wr∧k≤c) (λ_ i _=>xs.length-(intOf i).toNat)
 case atStart=>exact⟨0,none,0,Nat.zero_le _,rfl,rfl,by rw[show gB (xs.take 0)=[]from List.eq_nil_of_length_eq_zero (by rw[dI];rfl)];exact World.ownsRow_nil _ _ _ _,Below.refl _ _,ay _⟩
 case round=>
  obtain⟨i,a,c,hi,rfl,rfl,hrow,HB,hic⟩:=hrel;by_cases hl:i<xs.length
  ·obtain⟨B,rfl,hB,hc⟩:=h2 i hl;have hBr:B<wr.heap.size:=aA hB HB.size;have hcr:=(HB.cell (p:=⟨B,off+i,none⟩) hB).trans hc;have hsn:=Oa (xs.take i) (xs.getD i 0);rw[← Oh xs hl]at hsn;have hL:(gB (xs.take i)).length=i:=by rw[dI,List.length_take];omega
   generalize gB (xs.take i)=L at *;generalize xs.getD i 0=y at *;have HSN:=Lib.hid hsn;clear hsn hc;have hq:bQ wr (.slice a i c) L:=eF hrow hL.symm;gi_wp2;generalize hw1:wr=w1 at *;clear hw1 wr;gi_loopw [5] (λkv wr=>Below w1.heap.size w1 wr∧∃k:Nat,k≤i∧kv=.int .i64 k∧lu ltI y L L.length=lu ltI y L k) (λkv _=>(intOf kv).toNat)
   case atStart=>exact⟨Below.refl _ _,i,ay _,rfl,by rw[hL]⟩
   case round=>
    obtain⟨HB1,k,hk,rfl,hins⟩:=hrel;replace hrow:=cZ hrow HB1;replace hq:=hq.below HB1;replace hcr:=(HB1.cell (p:=⟨B,off+i,none⟩) hBr).trans hcr;replace hBr:=aA hBr HB1.size;replace HB:=HB.trans (HB1.mono HB.size);by_cases hgo:0<k∧y<L.getD (k - 1) 0
    ·obtain⟨hk0,hlt⟩:=hgo;obtain⟨m,rfl⟩:∃m,k=m+1:=⟨k - 1,by omega⟩
     rw[Nat.add_sub_cancel]at hlt;obtain⟨G,o,rfl,hG,hcl⟩:=KQ hq (show m<L.length by omega);have hnx:lu ltI y L L.length=lu ltI y L m:=by
      rw[hins,lu];have:L.getD m default=L.getD m 0:=rfl;rw[this,Ih,if_pos (decide_eq_true hlt)]
     generalize L.getD m 0=z at *;have hdt:decide (y<z)=true:=decide_eq_true hlt;have hz:(0:Int)<(m:Int)+1:=by omega
     have HNX:=Lib.hid hnx;have HI:=Lib.hid hins;clear hnx hins;gi_wp2;gi_big_quiet_th (fail)
     gi_wp2_with fail
     go_roundw
     case rel=>exact⟨HB1.trans ((below_drewN wr nq).mono HB1.size),m,by omega,by go_num,HNX.out⟩
     case measure=>simp[intOf]
    ·have hfin:JI ltI y L=L.take k++[y]++L.drop k:=Ce ltI y L (by
      rw[hins];cases k with
      |zero=>rfl
      |succ m=>
       rw[Nat.add_sub_cancel]at hgo;rw[lu];have:L.getD m default=L.getD m 0:=rfl;rw[this,Ih,if_neg (by simpa using λq=>hgo ⟨Nat.succ_pos _,q⟩)])
     have HFI:=Lib.hid hfin;clear hfin hins;have hstop:k=0∨∃m,k=m+1∧decide (y<L.getD m 0)=false:=by
      cases k with
      |zero=>exact .inl rfl
      |succ m=>
       rw[Nat.add_sub_cancel]at hgo;exact .inr ⟨m,rfl,decide_eq_false λq=>hgo ⟨Nat.succ_pos _,q⟩⟩
     have hkc:k≤c:=by omega
     have hki:(k:Int)≤c:=by omega
     have hkj:(k:Int)≤i:=by omega
     clear hgo;generalize wr=wr at *;rcases hstop with hk0|⟨m,rfl,hdf⟩;have hz:decide ((0:Int)<k)=false:=decide_eq_false (by omega);have hy:decide (0<k)=false:=decide_eq_false (by omega);clear hk0;gi_wp2;gi_big_quiet_th (fail)
     gi_wp2_with fail
     clear hz hy
     rotate_left
     obtain⟨G,o,rfl,hG,hcl⟩:=KQ hq (show m<L.length by omega);generalize L.getD m 0=z at *;have hz:(0:Int)<(m:Int)+1:=by omega
     gi_wp2;gi_big_quiet_th (fail)
     gi_wp2_with fail
     clear hz hdf hcl;generalize hkm:m+1=k at *;clear hkm;generalize (some ⟨G,o,none⟩:Option Addr)=a at *
     all_goals
      have hdr:=below_drewN wr nq;replace hq:=hq.below hdr;replace hcr:=(hdr.cell (p:=⟨B,off+i,none⟩) hBr).trans hcr;replace hBr:=aA hBr hdr.size;replace HB:=HB.trans (hdr.mono HB.size);clear hdr HB1 hrow;generalize wr.drewN nq=wr at *;have hto:bQ wr (.slice a k c) (L.take k):=hq.to (by omega);refine aV rfl mixed (by kernel_rfl) (WAI ⟨0,4,9,10,11,31,35,40,41⟩ 6 wr (L.take k) y) [31,35,40,41,6] (x₀:=pk [(31,u31),(35,u35),(40,u40),(41,u41),(6,u6)]) (gl5 rfl rfl rfl rfl rfl) WAI.start ?_;simp only[aC,aB,aF,Nat.reduceAdd,List.range,List.range.loop];refine fH 31 (by decide) rfl (λ_=>rfl) rfl rfl (λD x w' hm hW K Q hK=>LW rfl (hK _ _ (WAI.SA rfl (by decide) hW hm.1 (hm.2.2 11 (by kernel_rfl))))) ?_
      iterate 3
       refine dA (u0:=pk [(31,u31),(35,u35),(40,u40),(41,u41),(6,u6)]) rfl (λ_=>rfl) (by decide) (gl5 rfl rfl rfl rfl rfl) ?_;apply ah;refine⟨λD x w' hm hW K Q hK=>?_,?_⟩
       ·simp only[Lift.Act.bC,List.foldl_cons,List.foldl_nil,aj,au,ak];gi_wp2;exact hW.pure (by decide)
       apply ah;refine⟨λx=>?_,?_⟩
       ·simp only[Lift.Act.bC,List.foldl_cons,List.foldl_nil,aj,au,ak,Act.put];rfl
      refine fH 35 (by decide) rfl (λ_=>rfl) rfl rfl (λD x w' hm hW K Q hK=>?_) ?_
      ·have d5:=hm.2.2 11 (by kernel_rfl);have q1:=hm.2.1 0 (by kernel_rfl);exact rX (.tmp 31) (.tmp 34) rfl rfl (hW.o1 q1 hm.1) rfl (hto.below hW.bel) (by rw[List.length_take];omega) hW.bel.size λv w'' hown hg _=>hK v w'' (WAI.app1 rfl (by decide) hW q1 hm.1 d5 hown hg)
      iterate 3
       refine dA (u0:=pk [(31,u31),(35,u35),(40,u40),(41,u41),(6,u6)]) rfl (λ_=>rfl) (by decide) (gl5 rfl rfl rfl rfl rfl) ?_;apply ah;refine⟨λD x w' hm hW K Q hK=>?_,?_⟩
       ·simp only[Lift.Act.bC,List.foldl_cons,List.foldl_nil,aj,au,ak];gi_wp2;exact hW.pure (by decide)
       apply ah;refine⟨λx=>?_,?_⟩
       ·simp only[Lift.Act.bC,List.foldl_cons,List.foldl_nil,aj,au,ak,Act.put];rfl
      refine dA (u0:=pk [(31,u31),(35,u35),(40,u40),(41,u41),(6,u6)]) rfl (λ_=>rfl) (by decide) (gl5 rfl rfl rfl rfl rfl) ?_;apply ah;refine⟨λD x w' hm hW K Q hK=>?_,?_⟩
      ·have cr:=(hW.bel.cell (p:=⟨B,off+i,none⟩) hBr).trans hcr;have hBr':=aA hBr hW.bel.size;simp only[Lift.Act.bC,List.foldl_cons,List.foldl_nil,aj,au,ak];gi_wp2;exact hW.pure (by decide)
      apply ah;refine⟨λx=>?_,?_⟩
      ·simp only[Lift.Act.bC,List.foldl_cons,List.foldl_nil,aj,au,ak,Act.put];rfl
      refine fH 40 (by decide) rfl (λ_=>rfl) rfl rfl (λD x w' hm hW K Q hK=>Px rfl rfl (hK _ _ (WAI.SB rfl (by decide) hW hm.1 (hm.2.2 11 (by kernel_rfl))))) ?_;refine fH 41 (by decide) rfl (λ_=>rfl) rfl rfl (λD x w' hm hW K Q hK=>?_) ?_
      ·have d5:=hm.2.2 11 (by kernel_rfl);have q2:=hm.2.1 4 (by kernel_rfl);have q3:=hm.2.1 9 (by kernel_rfl);exact rX (.tmp 35) (.tmp 40) rfl rfl (hW.o2 q2 hm.1) rfl (eF (hW.o3 q3 hm.1) rfl) (by rw[List.length_take];simp;omega) hW.bel.size λv w'' hown hg _=>hK v w'' (WAI.app2 rfl (by decide) hW q2 q3 hm.1 d5 hown hg)
      refine fH 6 (by decide) rfl (λ_=>rfl) rfl rfl (λD x w' hm hW K Q hK=>?_) ?_
      ·have hst:=WAI.move rfl (by decide) hW (hm.2.1 10 (by kernel_rfl));simp only[Lift.Act.bC,List.foldl_cons,List.foldl_nil,aj,au,ak]at hK ⊢;gi_wp2
      rintro x w2 hW;have d10:(λj=>decide (j<12)) 10=true:=rfl;obtain⟨e6,-⟩:=hW.mv rfl;have ho6:=hW.o4 rfl
      try simp only at e6 ho6
      rw[← e6]at ho6;obtain⟨g6,c6,hx6⟩:=QG ho6;rw[hx6]at ho6;simp only[Lift.Act.bC,List.foldl_cons,List.foldl_nil,aj,au,ak,hx6];replace hq:=hq.below hW.bel;have HB2:=HB.trans (hW.bel.mono HB.size);have hwz:=hW.bel.size;clear hW e6 hx6 d10 hto;have hn7:(L.take k).length+1+(L.drop k).length=i+1:=by rw[List.length_take,List.length_drop];omega
      gi_wp2_with (gi_at_builtin;refine dF rfl _ _ rfl (base:=wr.heap.size) rfl ho6 rfl (hq.from (by omega) hL.symm hic) (by omega) hwz ?_;intro v' w3 ho7 hg7 _;rw[hn7]at ho7;obtain⟨a7,c7,rfl⟩:=fE ho7;go_frame)
      refine⟨⟨i+1,_,_,by omega,by go_num,rfl,?_,?_,tu ho7⟩,by simp[intOf];omega⟩
      ·rw[HSN.out,HFI.out];exact jl ho7 HB.size
      ·exact HB2.trans ((eY ho6 hg7 hwz).mono HB.size)
  ·obtain rfl:i=xs.length:=by omega
   rw[List.take_length]at hrow;gi_wp2;go_ret;exact⟨_,rfl,hrow,HB⟩
end
section
open Go Go.RowKit Lift
theorem OT(x y:Int×Int):ltL x y=decide (x.2<y.2):=Ih x.2 y.2
def lC(b:Book)(s:St)(aN:Nat)(day:Int)(k:Nat)(c:Nat):Int:=if c<k∧(s.cases c).state=0∧b.aN c=aN then wrap64 ((b.fee c day).1 - (s.cases c).held)else 0
structure LD (N:Nat) (v:Value) (LB n:Nat) (L:List (Int×Int)) (w:World):Prop where
 row:w.ownsRow N 3 1 v L.length (ints (L.map (·.1)))
 lk:∃f:Nat→Int,Blk w LB 3 (nums f n)∧∀p∈L,∃c:Nat,p.1=c∧c<n∧f c=p.2
theorem LD.below{N LB n:Nat}{v:Value}{L:List (Int×Int)}{w w':World}(h:LD N v LB n L w)(hb:Below w.heap.size w w'):LD N v LB n L w':=
 ⟨cZ h.row hb,let ⟨f,h1,h2⟩:=h.lk;⟨f,h1.below hb,h2⟩⟩
theorem LD.at{N LB n:Nat}{a:Option Addr}{c0 k:Nat}{L:List (Int×Int)}{w:World}(h:LD N (.slice a k c0) LB n L w){m:Nat}(hm:m<L.length):∃(G c:Nat) (x:Int),a=some ⟨G,0,none⟩∧G<w.heap.size∧L.getD m (0,0)=((c:Int),x)∧c<n∧w.cell? ⟨G,m,none⟩=some (.int .i64 c)∧LB<w.heap.size∧w.cell? ⟨LB,c,none⟩=some (.int .i64 x):=by
 obtain⟨f,hb,hf⟩:=h.lk;obtain⟨c,e1,hc,e2⟩:=hf _ (getD_mem hm);have hl:(ints (L.map (·.1))).length=L.length:=by simp[ints]
 rcases h.row.2 with⟨_,q⟩|⟨g,cap,cur,e,_⟩
 ·omega
 cases e;have hg:=(h.row.lt g rfl).2;have hcell:=h.row.cellAt m (by omega);refine⟨g,c,(L.getD m (0,0)).2,rfl,hg,by rw[← e1],hc,?_,hb.lt,?_⟩
 ·rw[hcell];simp only[ints,List.map_map,List.getElem?_map,List.getElem?_eq_getElem hm,Option.map_some,Function.comp_apply];rw[← e1,List.getD_eq_getElem?_getD,List.getElem?_eq_getElem hm,Option.getD_some]
 ·rw[hb.cell,nN hc,e2]
def WO(w0:World)(LB i0:Nat)(cs cs':Array Value):Wm:=λD _ w=>Tch (·=LB) w0 w∧Blk w LB 3 (if D i0=true then cs' else cs)
section
variable {w0 w w':World} {LB i0 i:Nat} {cs cs':Array Value} {D:Nat→Bool} {x:Tmp→Value}
theorem WO.start(h:Blk w0 LB 3 cs):WO w0 LB i0 cs cs' (λ_=>false) x { w0 with drawn:=w0.drawn+1 }:=⟨(Tch.refl _ _).drawn _,h⟩
theorem WO.step(h:WO w0 LB i0 cs cs' D x w)(hi:i≠i0)(hb:Below w.heap.size w w'):WO w0 LB i0 cs cs' (aQ D i) x w':=⟨h.1.trans (Tch.of_below hb),by rw[fU (Ne.symm hi)];exact h.2.below hb⟩
theorem WO.put(h:WO w0 LB i0 cs cs' D x w)(d:D i0=false){j:Nat}{v:Value}(e:cs.setIfInBounds j v=cs'):WO w0 LB i0 cs cs' (aQ D i0) x (w.setCell ⟨LB,j,none⟩ v):=by
 obtain⟨h1,h2⟩:=h;rw[d,if_neg Bool.false_ne_true]at h2;exact⟨h1.set rfl v,by rw[bJ,if_pos rfl,← e];exact h2.kQ j v⟩
theorem UM{N n:Nat}{v:Value}{xs:List Value}{e:TypeId}{k:Nat}(h:w.ownsRow N e k v n xs)(hT:Tch (·=LB) w w')(hL:LB<N):w'.ownsRow N e k v n xs:=xk h λg c hg hc=>hc.tch hT λz=>by have:=mD h g hg;omega
end
set_option maxHeartbeats 16000000 in
set_option maxRecDepth 100000 in
theorem KA{N:Nat}{l:Lay}{b:Book}{w:World}(hbk:dQ N l b w)(hv:Valid b){M:Nat}{R:RW}{s:St}(hG:bP M R b s w){aN:Nat}{day:Int}(TW:∀c,c<b.cs.length→(s.cases c).state=0→(b.fee c day).2=true) :
  CallsIn Fz 0 Tryz.prog 67 #[l.val b,.agg (R.arr b),.int .i64 aN,.int .i64 day] w λe w'=>∃v LB,e=.returned (.tuple #[v,.slice (some ⟨LB,0,none⟩) b.cs.length b.cs.length])∧LD w.heap.size v LB b.cs.length (b.short s day aN) w'∧Below w.heap.size w w':=by
 have hnk:=hv.nk;have hb1:Below w.heap.size w (w.alloc (.cells (l.arr b) 27)):=(Below.refl _ w).alloc (ay _) _;have hb2:=hb1.alloc (by simp) (.cells (R.arr b) 102);have hb3:=hb2.alloc (by simp;omega) (.cells (nums (λ_=>0) b.cs.length) 3);have hA:=((Blk.new w (l.arr b) 27).below ((Below.refl _ _).alloc (ay _) (.cells (R.arr b) 102))).below ((Below.refl _ _).alloc (ay _) (.cells (nums (λ_=>0) b.cs.length) 3));have hR:=(Blk.new (w.alloc (.cells (l.arr b) 27)) (R.arr b) 102).below ((Below.refl _ _).alloc (ay _) (.cells (nums (λ_=>0) b.cs.length) 3));have hL:=Blk.new ((w.alloc (.cells (l.arr b) 27)).alloc (.cells (R.arr b) 102)) (nums (λ_=>0) b.cs.length) 3;simp only[World.size_alloc]at hR hL;have hN1:=hbk.below (hb3.mono hbk.hN);have hG1:=hG.same hb3;have hmk:∀w,(Instr.makeSlice 44 (.int .i64 b.cs.length) (.int .i64 b.cs.length)).run Tryz.prog w=_:=IQ hnk;unfold Lay.val;have z0:=((Blk.new w (l.arr b) 27).below ((Below.refl _ _).alloc (ay _) (.cells (R.arr b) 102))).cell 2;simp at z0;gi_enter Tryz.func67,Tryz.ntmps67
 gi_wp2;clear z0;have hWs:(((w.alloc (.cells (l.arr b) 27)).alloc (.cells (R.arr b) 102)).alloc (.cells (nums (λ_=>0) b.cs.length) 3)).heap.size=w.heap.size+1+1+1:=by simp
 have hL0:Blk (((w.alloc (.cells (l.arr b) 27)).alloc (.cells (R.arr b) 102)).alloc (.cells (nums (λ_=>0) b.cs.length) 3)) (w.heap.size+1+1) 3 (nums (lC b s aN day 0) b.cs.length):=by
  rw[wZ (f:=lC b s aN day 0) (g:=λ_=>0) λc _=>if_neg λq=>absurd q.1 (Nat.not_lt_zero _)];exact hL
 clear hL hmk hN1 hG1 hb1 hb2;generalize ((w.alloc _).alloc _).alloc _=W at *;obtain⟨LB,hLB⟩:∃LB,w.heap.size+1+1=LB:=⟨_,rfl⟩
 rw[hLB]at hL0 hWs ⊢;have hsn0:sortL (b.lacks s aN day 0)=[]:=List.eq_nil_of_length_eq_zero (by rw[fF];rfl);gi_loopw [11,12] (λv i wr=>∃(k n:Nat) (a:Option Addr) (c:Nat),k≤b.cs.length∧i=.int .i64 k∧v=.slice a n c∧n=(b.lacks s aN day k).length∧wr.ownsRow (LB+1) 3 1 v n (ints ((sortL (b.lacks s aN day k)).map (·.1)))∧n≤c∧Blk wr LB 3 (nums (lC b s aN day k) b.cs.length)∧Below LB W wr∧LB<wr.heap.size) (λ_ i _=>b.cs.length-(intOf i).toNat)
 case atStart=>exact⟨0,0,none,0,Nat.zero_le _,rfl,rfl,rfl,by rw[hsn0];exact World.ownsRow_nil _ _ _ _,ay _,hL0,Below.refl _ _,by omega⟩
 case round=>
  obtain⟨k,n,a,c,hk,rfl,rfl,hn,hrow,hnc,hlk,HB,hLs⟩:=hrel;have rU:Below w.heap.size w wr:=hb3.trans (HB.mono (by omega));have hA2:=hA.wE HB (by omega);have hR2:=hR.wE HB (by omega);have yJ:=hbk.below (rU.mono hbk.hN);have hG2:=hG.same rU;have a0:=hA2.cell 0;have a1:=hA2.cell 1;have a2:=hA2.cell 2;have a3:=hA2.cell 3;simp at a0 a1 a2 a3;have kU:=hA2.lt;by_cases hl:k<b.cs.length
  ·have h00:0<cnt b 0:=Nat.lt_of_le_of_lt (Nat.zero_le _) hl;have JA:k<cnt b 0:=hl;have HAT0:=Lib.hid (hG2.at_ 0 (by omega) h00);have HAT1:=Lib.hid (hG2.at_ 1 (by omega) h00);have hco:=λ{w'} (h:Below N wr w')=>pF (yJ.below h) hv hl;unfold Lay.val at hco;have r0:=hR2.cell 0;have r1:=hR2.cell 1;simp at r0 r1;rw[HAT0.out]at r0;rw[HAT1.out]at r1;have lD:=hR2.lt;have s0:=hG2.cell (j:=0) (i:=k) (by omega) JA;have AV:=hG2.blt (j:=0) (i:=k) (by omega) JA;simp only[cval]at s0;have hll:=kD b s aN day k;have hsl:(sortL (b.lacks s aN day k)).length=n:=by rw[fF,hn]
   by_cases hc:b.aN k=aN
   ·by_cases hs:(s.cases k).state=0
    ·have hcl:b.lacks s aN day (k+1)=b.lacks s aN day k++[((k:Int),wrap64 ((b.fee k day).1 - (s.cases k).held))]:=by rw[iC,if_pos ⟨hs,hc⟩]
     have hsn:=Ob (b.lacks s aN day k) ((k:Int),wrap64 ((b.fee k day).1 - (s.cases k).held));rw[← hcl]at hsn;have hfs:(nums (lC b s aN day k) b.cs.length).setIfInBounds k (.int .i64 (wrap64 ((b.fee k day).1 - (s.cases k).held)))=nums (lC b s aN day (k+1)) b.cs.length:=UA hl (if_pos ⟨Nat.lt_succ_self _,hs,hc⟩) λj _ hj=>by
      unfold lC;simp only[show j<k+1↔j<k by omega]
     have hmm:∀p∈sortL (b.lacks s aN day k),∃c:Nat,p.1=c∧c<b.cs.length∧lC b s aN day (k+1) c=p.2:=λp hp=>by
      obtain⟨c',h1,h2,h3,rfl⟩:=qm ((xu _).mem_iff.2 hp);exact⟨c',rfl,by omega,if_pos ⟨by omega,h2,h3⟩⟩
     have hfk:lC b s aN day (k+1) k=wrap64 ((b.fee k day).1 - (s.cases k).held):=if_pos ⟨Nat.lt_succ_self _,hs,hc⟩;have hfe:=λ{w'} (h:Below N wr w')=>BK (yJ.below h) hv hl day;simp only[yO (TW k hl hs)]at hfe;unfold Lay.val at hfe;rw[hc]at hco;rw[hs]at s0;have hcs:(b.lacks s aN day (k+1)).length=n+1:=by rw[hcl,List.length_append,hn];rfl
     obtain⟨hd,hhd⟩:∃hd,(s.cases k).held=hd:=⟨_,rfl⟩
     rw[hhd]at hsn hfs hfk;have hn6:n<1000:=by omega
     have HHD:=Lib.hid hhd;have HS:=Lib.hid hs;have HC:=Lib.hid hcs;have HSN:=Lib.hid hsn;clear hhd hs hcl hcs hsn s0 AV r0 r1 lD hn hll;generalize (b.fee k day).1=fe at *;generalize lC b s aN day k=f at *;obtain⟨f',hf'⟩:∃f',lC b s aN day (k+1)=f':=⟨_,rfl⟩
     simp only[hf']at hfs hmm hfk;have HF:=Lib.hid hf';clear hf';generalize sortL (b.lacks s aN day k)=L at *
     gi_wp2_with (gi_at_call 62;with_reducible refine(hco (Below.refl N wr)).mono ?_;rintro e w9 ⟨rfl,oD⟩;have r0:=(hR2.below oD).cell 0;have lD:=(hR2.below oD).lt;simp at r0;rw[HAT0.out]at r0;have s0:=(hG2.same oD).cell (j:=0) (i:=k) (by omega) JA;have AV:=(hG2.same oD).blt (j:=0) (i:=k) (by omega) JA;simp only[cval]at s0;rw[HS.out]at s0)
     replace hrow:=cZ hrow oD;replace hlk:=hlk.below oD;replace hA2:=hA2.below oD;replace hR2:=hR2.below oD;replace rU:=rU.trans (oD.mono (by omega));replace HB:=HB.trans (oD.mono (by omega));have hbz:=oD.size;replace hLs:LB<w9.heap.size:=by omega
     replace hfe:=λ{w'} (h:Below N w9 w')=>hfe ((oD.mono yJ.hN).trans h);have hAn:w.heap.size≠LB:=by omega
     have hRn:w.heap.size+1≠LB:=by omega
     have Rx:=hbk.hN;have hNl:N≤w9.heap.size:=by omega
     have hNS:∀k,k=LB→N≤k:=λk e=>by omega
     have hwl:w.heap.size≤w9.heap.size:=by omega
     have hwS:∀k,k=LB→w.heap.size≤k:=λk e=>by omega
     clear a0 a1 a2 a3 kU r0 lD s0 AV oD yJ hG2 hbz;refine aV rfl mixed (by kernel_rfl) (WO w9 LB 13 (nums f b.cs.length) (nums f' b.cs.length)) [] (x₀:=λ_=>undef) (λg hg=>by cases hg) (WO.start hlk) ?_;simp only[aC,aB,aF,Nat.reduceAdd,List.range,List.range.loop]
     iterate 2
      refine dn rfl rfl ?_;apply ah;refine⟨λD x w' hm hW K Q hK=>?_,?_⟩
      ·gi_wp2;exact hW.step (by decide) (Below.refl _ _)
      refine⟨_,rfl,?_⟩
     refine dn rfl rfl ?_;apply ah;refine⟨λD x w' hm hW K Q hK=>?_,?_⟩
     ·have q:=hA2.tch hW.1 hAn;have q0:=q.cell 0;have q1:=q.cell 1;have q2:=q.cell 2;have q3:=q.cell 3;simp at q0 q1 q2 q3;have mV:=q.lt;gi_wp2;exact hW.step (by decide) (Below.refl _ _)
     iterate 2
      refine⟨_,rfl,?_⟩;refine dn rfl rfl ?_;apply ah;refine⟨λD x w' hm hW K Q hK=>?_,?_⟩
      ·gi_wp2;exact hW.step (by decide) (Below.refl _ _)
     refine⟨_,rfl,?_⟩;refine dn rfl rfl ?_;apply ah;refine⟨λD x w' hm hW K Q hK=>?_,?_⟩
     ·have hb7:Below N w9 w':=hW.1.below hNl hNS;have hcall:=hfe hb7
      gi_wp2_with (gi_at_call 48;with_reducible refine hcall.mono ?_;rintro e w3 ⟨rfl,hb⟩)
      exact hW.step (by decide) hb
     refine⟨_,rfl,?_⟩;refine dn rfl rfl ?_;apply ah;refine⟨λD x w' hm hW K Q hK=>?_,?_⟩
     ·gi_wp2;exact hW.step (by decide) (Below.refl _ _)
     refine⟨_,rfl,?_⟩;refine dn rfl rfl ?_;apply ah;refine⟨λD x w' hm hW K Q hK=>?_,?_⟩
     ·have q:=hR2.tch hW.1 hRn;have q1:=q.cell 1;simp at q1;rw[HAT1.out]at q1;have mV:=q.lt;gi_wp2;exact hW.step (by decide) (Below.refl _ _)
     iterate 2
      refine⟨_,rfl,?_⟩;refine dn rfl rfl ?_;apply ah;refine⟨λD x w' hm hW K Q hK=>?_,?_⟩
      ·gi_wp2;exact hW.step (by decide) (Below.refl _ _)
     refine⟨_,rfl,?_⟩;refine dn rfl rfl ?_;apply ah;refine⟨λD x w' hm hW K Q hK=>?_,?_⟩
     ·have H:=hG.same (rU.trans (hW.1.below hwl hwS));have q:=H.cell (j:=1) (i:=k) (by omega) JA;have mV:=H.blt (j:=1) (i:=k) (by omega) JA;simp only[cval]at q;rw[HHD.out]at q;gi_wp2;exact hW.step (by decide) (Below.refl _ _)
     iterate 2
      refine⟨_,rfl,?_⟩;refine dn rfl rfl ?_;apply ah;refine⟨λD x w' hm hW K Q hK=>?_,?_⟩
      ·gi_wp2;exact hW.step (by decide) (Below.refl _ _)
     refine⟨_,rfl,?_⟩;refine jS rfl rfl rfl (λD x w' hm hW K Q hK=>?_) ?_
     ·have ds:=hm.1;have hz:=hW.2;rw[ds,if_neg Bool.false_ne_true]at hz;have y0:=hz.cell k;rw[nN hl]at y0;have y1:=hz.frozen k;have uI:=hz.lt;have hst:=hW.put ds hfs;gi_wp2
      all_goals exact hst
     rintro x w4 ⟨hT,hB4⟩;simp only[aC,aB,aF,Nat.reduceAdd,Nat.reduceLT,decide_true,if_true]at hB4;simp only[Lift.Act.bC,List.foldl_cons,List.foldl_nil,aj,au,ak];have hop:LD (LB+1) (.slice a n c) LB b.cs.length L w4:=⟨by rw[hsl];exact UM hrow hT (Nat.lt_succ_self _),f',hB4,hmm⟩
     have HB4:=HB.trans (hT.below (by omega) (λk e=>by omega):Below LB w9 w4);have vg:LB<w4.heap.size:=hB4.lt;have yk:=hB4.cell k;rw[nN hl,hfk]at yk;generalize wrap64 (fe-hd)=y at *;clear hT hrow hmm hfs hfk hfe hlk hA2 hR2 rU hAn hRn hNl hNS hwl hwS hco HAT0 HAT1 HS HHD HB hLs;gi_wp2;gi_loopw [13] (λkv wr=>Below w4.heap.size w4 wr∧∃m:Nat,m≤n∧kv=.int .i64 m∧lu ltL ((k:Int),y) L L.length=lu ltL ((k:Int),y) L m) (λkv _=>(intOf kv).toNat)
     case atStart=>exact⟨Below.refl _ _,n,ay _,rfl,by rw[hsl]⟩
     case round=>
      obtain⟨HB1,m,hm,rfl,hins⟩:=hrel;have HO:=hop.below HB1;have hBL:=hB4.below HB1;replace yk:=(HB1.cell (p:=⟨LB,k,none⟩) vg).trans yk;replace HB4:=HB4.trans (HB1.mono (Nat.le_of_lt vg));replace vg:=aA vg HB1.size;by_cases hgo:0<m∧y<(L.getD (m - 1) (0,0)).2
      ·obtain⟨hk0,hlt⟩:=hgo;obtain⟨m,rfl⟩:∃m',m=m'+1:=⟨m - 1,by omega⟩
       rw[Nat.add_sub_cancel]at hlt;obtain⟨G,ci,z,rfl,hG,hgd,hci,c1,hlb,c2⟩:=HO.at (show m<L.length by omega)
       have hnx:lu ltL ((k:Int),y) L L.length=lu ltL ((k:Int),y) L m:=by
        rw[hins,lu];have:L.getD m default=L.getD m (0,0):=rfl;rw[this,OT,if_pos (decide_eq_true hlt)]
       rw[hgd]at hlt;have hdt:decide (y<z)=true:=decide_eq_true hlt;have hz:(0:Int)<(m:Int)+1:=by omega
       have hci':(ci:Int)<b.cs.length:=by omega
       have hmn:(m:Int)<n:=by omega
       have HNX:=Lib.hid hnx;clear hnx hins hgd;gi_wp2;gi_big_quiet_th (fail)
       gi_wp2_with fail
       go_roundw
       case rel=>exact⟨HB1.trans ((below_drewN wr nq).mono HB1.size),m,by omega,by go_num,HNX.out⟩
       case measure=>simp[intOf]
      ·have hfin:JI ltL ((k:Int),y) L=L.take m++[((k:Int),y)]++L.drop m:=Ce ltL _ L (by
        rw[hins];cases m with
        |zero=>rfl
        |succ m=>
         rw[Nat.add_sub_cancel]at hgo;rw[lu];have:L.getD m default=L.getD m (0,0):=rfl;rw[this,OT,if_neg (by simpa using λq=>hgo ⟨Nat.succ_pos _,q⟩)])
       have HFI:=Lib.hid hfin;clear hfin hins;have hstop:m=0∨∃j,m=j+1∧decide (y<(L.getD j (0,0)).2)=false:=by
        cases m with
        |zero=>exact .inl rfl
        |succ j=>
         rw[Nat.add_sub_cancel]at hgo;exact .inr ⟨j,rfl,decide_eq_false λq=>hgo ⟨Nat.succ_pos _,q⟩⟩
       have hkc:m≤c:=by omega
       have hki:(m:Int)≤c:=by omega
       have hkj:(m:Int)≤n:=by omega
       clear hgo;rcases hstop with hk0|⟨j,rfl,hdf⟩
       ·have hz:decide ((0:Int)<m)=false:=decide_eq_false (by omega);have hy:decide (0<m)=false:=decide_eq_false (by omega);clear hk0;gi_wp2;gi_big_quiet_th (fail)
        clear hz hy;have hdr:=below_drewN wr nq;replace HO:=HO.below hdr;replace hBL:=hBL.below hdr;replace HB4:=HB4.trans (hdr.mono (Nat.le_of_lt vg));replace vg:=aA vg hdr.size;clear hdr HB1 yk;generalize wr.drewN nq=wr at *;have he:=(Below.refl wr.heap.size wr).alloc (ay _) (.cells #[] 3);have hq:bQ wr (.slice a n c) (L.map (·.1)):=eF HO.row (by simp);have hml:(L.map (·.1)).length=n:=by rw[List.length_map,hsl]
        have ht:=(hq.to (k:=m) (c:=c) (by omega)).below he;have hn7:0+((L.map (·.1)).take m).length+1+((L.map (·.1)).drop m).length=n+1:=by rw[List.length_take,List.length_drop];omega
        have hb1:0+((L.map (·.1)).take m).length≤100000:=by rw[List.length_take];omega
        gi_wp2_with (first
         |(gi_at_builtin;refine dF rfl _ _ rfl (base:=wr.heap.size) rfl (nR (ay _)) rfl ht (Nat.le_trans hb1 (by decide)) he.size ?_;intro v1 w5 ho1 hg1 _;have hb5:=he.trans (eY (nR (ay _)) hg1 he.size);obtain⟨a5,c5,rfl⟩:=fE ho1;go_frame)
         |(gi_at_builtin;refine dF rfl _ _ rfl (base:=wr.heap.size) rfl (ho1.alloc _) rfl (eF (Dx hb5.size (k:Int)) rfl) (by simp only[aB,aF];omega) (Nat.le_trans hb5.size (by simp)) ?_;intro v2 w6 ho2 hg2 _;have hb6:=(hb5.alloc hb5.size _).trans (eY (ho1.alloc _) hg2 (Nat.le_trans hb5.size (by simp)));obtain⟨a6,c6,rfl⟩:=fE ho2;go_frame)
         |(gi_at_builtin;refine dF rfl _ _ rfl (base:=wr.heap.size) rfl ho2 rfl ((hq.from (k:=m) (by omega) hml.symm hnc).below hb6) (by simp only[aB,aF];omega) hb6.size ?_;intro v3 w7 ho3 hg3 _;have hb7:=hb6.trans (eY ho2 hg3 hb6.size);simp only[aB,aF]at ho3;rw[hn7]at ho3;obtain⟨a7,c7,rfl⟩:=fE ho3;go_frame))
        refine⟨⟨k+1,n+1,a7,c7,by omega,by go_num,rfl,HC.out.symm,?_,tu ho3,by rw[HF.out];exact hBL.below hb7,HB4.trans (hb7.mono (Nat.le_of_lt vg)),aA vg hb7.size⟩,by simp[intOf];omega⟩;rw[HSN.out,HFI.out,List.map_append,List.map_append,List.map_take,List.map_drop];exact jl ho3 vg
       ·obtain⟨G,ci,z,rfl,hG,hgd,hci,c1,hlb,c2⟩:=HO.at (show j<L.length by omega)
        rw[hgd]at hdf;have hdt:decide (y<z)=false:=hdf;have hz:(0:Int)<(j:Int)+1:=by omega
        have hci':(ci:Int)<b.cs.length:=by omega
        have hmn:(j:Int)<n:=by omega
        clear hdf hgd;gi_wp2;gi_big_quiet_th (fail)
        clear hz c1 c2 hmn hci' hci;generalize hkm:j+1=m at *;clear hkm;generalize (some ⟨G,0,none⟩:Option Addr)=a at *;have hdr:=below_drewN wr nq;replace HO:=HO.below hdr;replace hBL:=hBL.below hdr;replace HB4:=HB4.trans (hdr.mono (Nat.le_of_lt vg));replace vg:=aA vg hdr.size;clear hdr HB1 yk;generalize wr.drewN nq=wr at *;have he:=(Below.refl wr.heap.size wr).alloc (ay _) (.cells #[] 3);have hq:bQ wr (.slice a n c) (L.map (·.1)):=eF HO.row (by simp);have hml:(L.map (·.1)).length=n:=by rw[List.length_map,hsl]
        have ht:=(hq.to (k:=m) (c:=c) (by omega)).below he;have hn7:0+((L.map (·.1)).take m).length+1+((L.map (·.1)).drop m).length=n+1:=by rw[List.length_take,List.length_drop];omega
        have hb1:0+((L.map (·.1)).take m).length≤100000:=by rw[List.length_take];omega
        gi_wp2_with (first
         |(gi_at_builtin;refine dF rfl _ _ rfl (base:=wr.heap.size) rfl (nR (ay _)) rfl ht (Nat.le_trans hb1 (by decide)) he.size ?_;intro v1 w5 ho1 hg1 _;have hb5:=he.trans (eY (nR (ay _)) hg1 he.size);obtain⟨a5,c5,rfl⟩:=fE ho1;go_frame)
         |(gi_at_builtin;refine dF rfl _ _ rfl (base:=wr.heap.size) rfl (ho1.alloc _) rfl (eF (Dx hb5.size (k:Int)) rfl) (by simp only[aB,aF];omega) (Nat.le_trans hb5.size (by simp)) ?_;intro v2 w6 ho2 hg2 _;have hb6:=(hb5.alloc hb5.size _).trans (eY (ho1.alloc _) hg2 (Nat.le_trans hb5.size (by simp)));obtain⟨a6,c6,rfl⟩:=fE ho2;go_frame)
         |(gi_at_builtin;refine dF rfl _ _ rfl (base:=wr.heap.size) rfl ho2 rfl ((hq.from (k:=m) (by omega) hml.symm hnc).below hb6) (by simp only[aB,aF];omega) hb6.size ?_;intro v3 w7 ho3 hg3 _;have hb7:=hb6.trans (eY ho2 hg3 hb6.size);simp only[aB,aF]at ho3;rw[hn7]at ho3;obtain⟨a7,c7,rfl⟩:=fE ho3;go_frame))
        refine⟨⟨k+1,n+1,a7,c7,by omega,by go_num,rfl,HC.out.symm,?_,tu ho3,by rw[HF.out];exact hBL.below hb7,HB4.trans (hb7.mono (Nat.le_of_lt vg)),aA vg hb7.size⟩,by simp[intOf];omega⟩;rw[HSN.out,HFI.out,List.map_append,List.map_append,List.map_take,List.map_drop];exact jl ho3 vg
    ·have hno:¬((s.cases k).state=0∧b.aN k=aN):=(λq=>hs q.1)
     have hcl:b.lacks s aN day (k+1)=b.lacks s aN day k:=by rw[iC,if_neg hno,List.append_nil]
     have hcf:nums (lC b s aN day (k+1)) b.cs.length=nums (lC b s aN day k) b.cs.length:=wZ λj _=>by
      unfold lC;by_cases q:j=k
      ·subst q;rw[if_neg λz=>hno ⟨z.2.1,z.2.2⟩,if_neg λz=>absurd z.1 (Nat.lt_irrefl _)]
      ·simp only[show j<k+1↔j<k by omega]
     have HCL:=Lib.hid hcl;have HCF:=Lib.hid hcf;have HN:=Lib.hid hn;clear hcl hcf hn hno hll hsl;rw[hc]at hco;obtain⟨st,hst⟩:∃st,(s.cases k).state=st:=⟨_,rfl⟩
     rw[hst]at hs s0;have HST:=Lib.hid hst;clear hst s0 AV r0 lD
     gi_wp2_with (gi_at_call 62;with_reducible refine(hco (Below.refl N wr)).mono ?_;rintro e w9 ⟨rfl,oD⟩;have r0:=(hR2.below oD).cell 0;have lD:=(hR2.below oD).lt;simp at r0;rw[HAT0.out]at r0;have s0:=(hG2.same oD).cell (j:=0) (i:=k) (by omega) JA;have AV:=(hG2.same oD).blt (j:=0) (i:=k) (by omega) JA;simp only[cval]at s0;rw[HST.out]at s0)
     go_roundw
     case rel=>exact⟨k+1,n,a,c,by omega,by go_num,rfl,by rw[HCL.out];exact HN.out,by rw[HCL.out];exact cZ hrow oD,hnc,by rw[HCF.out];exact hlk.below oD,HB.trans (oD.mono (by omega)),aA hLs oD.size⟩
     case measure=>simp[intOf];omega
   ·have hno:¬((s.cases k).state=0∧b.aN k=aN):=(λq=>hc q.2)
    have hcl:b.lacks s aN day (k+1)=b.lacks s aN day k:=by rw[iC,if_neg hno,List.append_nil]
    have hcf:nums (lC b s aN day (k+1)) b.cs.length=nums (lC b s aN day k) b.cs.length:=wZ λj _=>by
     unfold lC;by_cases q:j=k
     ·subst q;rw[if_neg λz=>hno ⟨z.2.1,z.2.2⟩,if_neg λz=>absurd z.1 (Nat.lt_irrefl _)]
     ·simp only[show j<k+1↔j<k by omega]
    have HCL:=Lib.hid hcl;have HCF:=Lib.hid hcf;have HN:=Lib.hid hn;clear hcl hcf hn hno hll hsl;have hcn:¬((b.aN k:Int)=(aN:Int)):=by omega
    clear s0 AV
    gi_wp2_with (gi_at_call 62;with_reducible refine(hco (Below.refl N wr)).mono ?_;rintro e w9 ⟨rfl,oD⟩)
    go_roundw
    case rel=>exact⟨k+1,n,a,c,by omega,by go_num,rfl,by rw[HCL.out];exact HN.out,by rw[HCL.out];exact cZ hrow oD,hnc,by rw[HCF.out];exact hlk.below oD,HB.trans (oD.mono (by omega)),aA hLs oD.size⟩
    case measure=>simp[intOf];omega
  ·obtain rfl:k=b.cs.length:=by omega
   gi_wp2
   (try simp only[Exit.inBlock,Exit.then])
   refine bodyPost_ret (results_tmp2 rfl _ _ _) rfl ?_;have hnl:n=(b.short s day aN).length:=by unfold Book.short;rw[fF,hn]
   refine⟨_,LB,rfl,⟨?_,lC b s aN day b.cs.length,hlk,λp hp=>?_⟩,rU⟩
   ·rw[← hnl];exact jl hrow (by omega)
   ·obtain⟨c',h1,h2,h3,rfl⟩:=qm ((xu _).mem_iff.2 hp);exact⟨c',rfl,h1,if_pos ⟨h1,h2,h3⟩⟩
end
