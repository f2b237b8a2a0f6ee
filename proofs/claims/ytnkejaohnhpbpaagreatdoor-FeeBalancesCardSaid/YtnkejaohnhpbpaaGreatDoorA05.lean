/- A region that draws its order, walked once, in the order of the text: calls may make memory, one operation may write. Nothing of the program stands here. -/
import Derived.OrdersIn
import Derived.Test.YtnkejaohnhpbpaaGreatDoorA01
set_option linter.all false
section
namespace Go.Proofs.YtnkejaohnhpbpaaGreatDoor.Lift
open Go
def bH(ops:Array Oper)(j:Nat):Option Tmp:=(ops[j]?).bind (·.dst)
def cu(ops:Array Oper)(i j:Nat):Bool:=((ops[i]?).map λo=>o.after.toList.any λe=>Region.binds .any e&&e.on==j).getD false
def noSelect(o:Oper):Bool:=match o.op with
 |.select _ _=>false
 |_=>true
def textual(ops:Array Oper):Bool:=(List.range ops.size).all λi=>match ops[i]? with
 |none=>false
 |some o=>noSelect o&&(o.after.all λe=>!Region.binds .any e||decide (e.on<i))&&
   ((o.looksAt ops).all λt=>(List.range ops.size).all λj=>!(bH ops j==some t)||j==i||cu ops i j||cu ops j i)&&
   ((List.range ops.size).all λj=>j==i||o.dst.isNone||!(bH ops j==o.dst))
section
variable {F:Fence} {n:Nat} {P:Program} {ops:Array Oper} {Q:Exit→Act→World→Prop}
theorem nC{o:Oper}{a₁ a₂:Act}{w:World}{v:Value}{T:World→Prop}{K:Act→World→Prop}(hro:F.round=none)(hs:noSelect o=true)(hsz:a₂.tmps.size=a₁.tmps.size)
  (he:∀x∈o.op.operands,a₂.eval x=a₁.eval x) (h:o.wpIn F n P a₁ w (λa' w'=>a'=a₁.put o.dst v∧T w') (λ_ _ _=>False)) (hK:∀w',T w'→K (a₂.put o.dst v) w'):o.wpIn F n P a₂ w K Q:=by
 unfold Oper.wpIn at h ⊢;obtain⟨h1,h2⟩:=h;have hab:o.about P w a₂.eval=o.about P w a₁.eval:=about_congr o w he;have hex:execOp a₂.eval o=execOp a₁.eval o:=execOp_congr o (λcs b e=>by simp[noSelect,e]at hs) he;rw[hro,Oper.semAt_none]at h2;rw[hro,Oper.semAt_none,hab,hex];refine⟨h1,?_⟩;have key:∀u w',(a₁.put o.dst u=a₁.put o.dst v∧T w')→K (a₂.put o.dst u) w':=by
  rintro u w' ⟨e,ht⟩;have:a₂.put o.dst u=a₂.put o.dst v:=by
   cases hd:o.dst with
   |none=>rfl
   |some d=>
    rw[hd]at e;by_cases hlt:d<a₁.tmps.size
    ·have e2:(a₁.put (some d) u).tmps[d]?=(a₁.put (some d) v).tmps[d]?:=by rw[e]
     simp[Act.put,hlt]at e2;rw[e2]
    ·have hle:a₂.tmps.size≤d:=by rw[hsz];exact Nat.le_of_not_lt hlt
     simp only[Act.put];rw[Array.setIfInBounds_eq_of_size_le hle,Array.setIfInBounds_eq_of_size_le hle]
  rw[this];exact hK w' ht
 revert h2
 cases(execOp a₁.eval o).run P w with
 |ok x w'=>
  cases x with
  |value u=>exact λh=>key u w' h
  |skip=>exact λh=>key undef w' h
  |enter f args=>
   rintro⟨hn,hc⟩;exact⟨hn,hc.mono λe w'' he=>by
    cases e with
    |returned u=>exact key u w'' he
    |panicked ch=>exact he.elim
    |outgrown=>obtain⟨_,_,x⟩:=he;exact x.elim⟩
  |row r args=>rintro⟨hn,hc⟩;exact⟨hn,hc.mono λu w'' he=>key u w'' he⟩
  |round l f t x y=>
   rintro⟨hn,hc⟩;exact⟨hn,hc.mono λe w'' he=>by
    cases e with
    |returned u=>exact key u w'' he
    |panicked ch=>exact he.elim
    |outgrown=>obtain⟨_,_,x⟩:=he;exact x.elim⟩
  |defer d=>
   rintro⟨e,_⟩;have:=congrArg (λa=>a.defers.length) e;cases hd:o.dst<;>simp[Act.put,hd]at this
  |_=>exact λh=>h.elim
 |halt x w'=>cases x<;>exact λh=>h.elim
variable (F n P ops)in
def yI(W:Bool→World→Prop)(m i:Nat)(o:Oper)(a a':Act):Prop:=
 if i=m then∀w,W false w→∀K Q,(∀w',W true w'→K a' w')→o.wpIn F n P a w K Q
 else∀s w,(cu ops m i=true→s=false)→W s w→∀K Q,(∀w',W s w'→K a' w')→o.wpIn F n P a w K Q
variable (F n P ops)in
def Det(W:Bool→World→Prop)(m:Nat):List Nat→Act→(Act→Prop)→Prop
 | [],a,R=>R a
 |i::rest,a,R=>∃o,ops[i]?=some o∧
   ((Region.wanted o (yielded ops a.tmps)=true∧∃v a',a'=a.put o.dst v∧yI F n P ops W m i o a a'∧Det W m rest a' R)∨
    (Region.wanted o (yielded ops a.tmps)=false∧i≠m∧(∀w f,o.about P w a.eval=some f→F.fn f)∧Det W m rest (a.put o.dst undef) R))
variable (F n P ops)in
def GoodAt(W:Bool→World→Prop)(m i:Nat)(a:Act)(v:Value):Prop:=∃o,ops[i]?=some o∧
 ((Region.wanted o (yielded ops a.tmps)=true∧yI F n P ops W m i o a (a.put o.dst v))∨(Region.wanted o (yielded ops a.tmps)=false∧i≠m∧(∀w f,o.about P w a.eval=some f→F.fn f)∧v=undef))
theorem Np{W:Bool→World→Prop}{m:Nat}{R:Act→Prop}:∀(k s:Nat) (a:Act),Det F n P ops W m (List.range' s k) a R→
  ∃(vals:Nat→Value) (acts:Nat→Act),acts s=a∧(∀i,s≤i→i<s+k→acts (i+1)=(acts i).put (bH ops i) (vals i)∧GoodAt F n P ops W m i (acts i) (vals i))∧R (acts (s+k)):=by
 intro k
 induction k with
 |zero=>intro s a h;exact⟨λ_=>undef,λ_=>a,rfl,λi h1 h2=>by omega,h⟩
 |succ k ih=>
  intro s a h;rw[List.range'_succ]at h;obtain⟨o,ho,h⟩:=h;have hd:bH ops s=o.dst:=by simp[bH,ho]
  have:∃v,GoodAt F n P ops W m s a v∧Det F n P ops W m (List.range' (s+1) k) (a.put o.dst v) R:=by
   rcases h with⟨hw,v,a',rfl,h1,h2⟩|⟨hw,h0,h1,h2⟩
   ·exact⟨v,⟨o,ho,.inl ⟨hw,h1⟩⟩,h2⟩
   ·exact⟨undef,⟨o,ho,.inr ⟨hw,h0,h1,rfl⟩⟩,h2⟩
  obtain⟨v,hg,h2⟩:=this;obtain⟨vals,acts,e,hall,hR⟩:=ih (s+1) _ h2;refine⟨λj=>if j=s then v else vals j,λj=>if j=s then a else acts j,by simp,λi h1 h2=>?_,?_⟩
  ·by_cases hi:i=s
   ·subst hi;simp only[if_pos];rw[if_neg (by omega),e,hd];exact⟨rfl,hg⟩
   ·simp only[if_neg hi];rw[if_neg (by omega)];exact hall i (by omega) (by omega)
  ·show R (if s+(k+1)=s then a else acts (s+(k+1)))
   rw[if_neg (by omega),show s+(k+1)=s+1+k by omega];exact hR
structure Slots (ops:Array Oper) (vals:Nat→Value) (a₀:Act) (D:Nat→Prop) (a:Act):Prop where
 size:a.tmps.size=a₀.tmps.size
 defers:a.defers=a₀.defers
 off:∀k:Nat,(∀j,D j→bH ops j≠some k)→a.tmps[k]?=a₀.tmps[k]?
 on:∀(j k:Nat),D j→bH ops j=some k→k<a₀.tmps.size→a.tmps[k]?=some (vals j)
section
variable {vals:Nat→Value} {a₀ a:Act} {D:Nat→Prop}
theorem Slots.put(h:Slots ops vals a₀ D a){i:Nat}(hn:∀j,D j→∀k,bH ops i=some k→bH ops j≠some k):Slots ops vals a₀ (λj=>D j∨j=i) (a.put (bH ops i) (vals i)):=by
 cases hd:bH ops i with
 |none=>
  refine⟨h.size,h.defers,λk hk=>h.off k λj hj=>hk j (.inl hj),λj k hj hjk hlt=>?_⟩;rcases hj with hj|rfl
  ·exact h.on j k hj hjk hlt
  ·rw[hd]at hjk;cases hjk
 |some d=>
  refine⟨by simpa[Act.put]using h.size,h.defers,λk hk=>?_,λj k hj hjk hlt=>?_⟩
  ·have hne:d≠k:=λe=>hk i (.inr rfl) (by rw[hd,e]);simp only[Act.put];rw[aA hne];exact h.off k λj hj=>hk j (.inl hj)
  ·by_cases hji:j=i
   ·subst hji;rw[hd]at hjk;cases hjk;simp[Act.put,h.size,hlt]
   ·have hj':D j:=hj.resolve_right hji;have hne:d≠k:=λe=>hn j hj' d hd (by rw[hjk,e]);simp only[Act.put];rw[aA hne];exact h.on j k hj' hjk hlt
theorem Slots.unique{a':Act}(h:Slots ops vals a₀ D a)(h':Slots ops vals a₀ D a'):a=a':=by
 have ht:a.tmps=a'.tmps:=by
  apply Array.ext_getElem?;intro k;by_cases hk:∃j,D j∧bH ops j=some k
  ·obtain⟨j,hj,hd⟩:=hk;by_cases hlt:k<a₀.tmps.size
   ·rw[h.on j k hj hd hlt,h'.on j k hj hd hlt]
   ·rw[Array.getElem?_eq_none (by rw[h.size];omega),Array.getElem?_eq_none (by rw[h'.size];omega)]
  ·have hk':∀j,D j→bH ops j≠some k:=λj hj hd=>hk ⟨j,hj,hd⟩;rw[h.off k hk',h'.off k hk']
 have hd:=h.defers.trans h'.defers.symm;obtain⟨t,d⟩:=a;obtain⟨t',d'⟩:=a';simp only at ht hd;rw[ht,hd]
end
theorem nK{i j:Nat}{o:Oper}(ho:ops[i]?=some o)(h:cu ops i j=true):∃e∈o.after,Region.binds .any e=true∧e.on=j:=by
 simp only[cu,ho,Option.map_some,Option.getD_some,List.any_eq_true,Array.mem_toList_iff,Bool.and_eq_true,beq_iff_eq]at h;obtain⟨e,he,h1,h2⟩:=h;exact⟨e,he,h1,h2⟩
theorem lI:∀(l:List Bool) (i:Nat),l[i]?=some false→(l.set i true).count false+1=l.count false
 | [],i,h=>by simp at h
 |b::l,0,h=>by
  simp at h;subst h;simp
 |b::l,i+1,h=>by
  have:=lI l i (by simpa using h);simp only[ak,List.count_cons];omega
theorem eY{i:Nat}{l:Array Bool}:i∈Region.ready .any ops l↔i<ops.size∧l.getD i true=false∧∀j,cu ops i j=true→l.getD j false=true:=by
 unfold Region.ready;rw[List.mem_filter,List.mem_range,Bool.and_eq_true];constructor
 ·rintro⟨h1,h2,h3⟩;refine⟨h1,by simpa using h2,λj hj=>?_⟩;have ho:ops[i]?=some ops[i]:=Array.getElem?_eq_getElem h1;obtain⟨e,he,hb,rfl⟩:=nK ho hj;simp only[ho,Option.map_some,Option.getD_some,Array.all_eq_true_iff_forall_mem]at h3;have:=h3 e he;simpa[hb]using this
 ·rintro⟨h1,h2,h3⟩;refine⟨h1,by simpa using h2,?_⟩;have ho:ops[i]?=some ops[i]:=Array.getElem?_eq_getElem h1;simp only[ho,Option.map_some,Option.getD_some,Array.all_eq_true_iff_forall_mem];intro e he;cases hb:Region.binds .any e with
  |false=>simp
  |true=>
   have:=h3 e.on (by
    simp only[cu,ho,Option.map_some,Option.getD_some,List.any_eq_true,Array.mem_toList_iff,Bool.and_eq_true,beq_iff_eq];exact⟨e,he,hb,rfl⟩)
   simpa using this
theorem oC{id:Nat}{a₀:Act}{w₀:World}(hro:F.round=none)(hm:P.follows .mixedOrders=true)(ht:textual ops=true)(W:Bool→World→Prop)(m:Nat)(h0:W false { w₀ with drawn:=w₀.drawn+1 })
  (h:Det F n P ops W m (List.range ops.size) a₀ (λa=>∀w,W (decide (m<ops.size)) w→Q .normal a w)):(Code.region id ops true).wpIn F n P Q a₀ w₀:=by
 rw[List.range_eq_range']at h;obtain⟨vals,acts,e0,hall,hR⟩:=Np ops.size 0 a₀ h;rw[Nat.zero_add]at hR
 have T:∀i,i<ops.size→∃o,ops[i]?=some o∧noSelect o=true∧(∀j,cu ops i j=true→j<i)∧(∀t∈o.looksAt ops,∀j,bH ops j=some t→j=i∨cu ops i j=true∨cu ops j i=true)∧
   (∀j d,bH ops i=some d→bH ops j=some d→j=i):=by
  intro i hi;have:=List.all_eq_true.1 ht i (List.mem_range.2 hi);have ho:ops[i]?=some ops[i]:=Array.getElem?_eq_getElem hi;simp only[ho,Bool.and_eq_true]at this;obtain⟨⟨⟨h1,h2⟩,h3⟩,h4⟩:=this;have lt_of:∀{j d},bH ops j=some d→j<ops.size:=λ{j d} hj=>by
   rcases Nat.lt_or_ge j ops.size with h|h
   ·exact h
   ·simp[bH,Array.getElem?_eq_none h]at hj
  refine⟨_,ho,h1,λj hj=>?_,λt htt j hj=>?_,λj d hd hj=>?_⟩
  ·obtain⟨e,he,hb,rfl⟩:=nK ho hj;have:=(Array.all_eq_true_iff_forall_mem.1 h2) e he;simpa[hb]using this
  ·have:=List.all_eq_true.1 (List.all_eq_true.1 h3 t htt) j (List.mem_range.2 (lt_of hj));simp only[hj,beq_self_eq_true,Bool.not_true,Bool.false_or,Bool.or_eq_true,beq_iff_eq]at this;rcases this with(h|h)|h
   ·exact .inl h
   ·exact .inr (.inl h)
   ·exact .inr (.inr h)
  ·have hd':ops[i].dst=some d:=by simpa[bH,ho]using hd
   have:=List.all_eq_true.1 h4 j (List.mem_range.2 (lt_of hj));simp only[hj,hd',Option.isNone_some,Bool.or_false,beq_self_eq_true,Bool.not_true,beq_iff_eq,Bool.false_eq_true,or_false,Bool.or_eq_true]at this;exact this
 have hacts:∀i,i≤ops.size→Slots ops vals a₀ (·<i) (acts i):=by
  intro i
  induction i with
  |zero=>intro _;rw[e0];exact⟨rfl,rfl,λ_ _=>rfl,λj k hj=>by omega⟩
  |succ i ih=>
   intro hi;rw[(hall i (Nat.zero_le _) (by omega)).1];have:=(ih (by omega)).put (i:=i) (λj hj k hk hjk=>by
    obtain⟨_,_,_,_,_,hu⟩:=T i (by omega);have:=hu j k hk hjk;omega)
   refine⟨this.size,this.defers,λk hk=>this.off k λj hj=>hk j (by omega),λj k hj=>this.on j k (by omega)⟩
 refine wpIn_region_any hm ?_
 have key:∀(fuel:Nat) (l:Array Bool) (a:Act) (w:World),l.size=ops.size→l.toList.count false≤fuel→(∀j,l.getD j false=true→∀i,cu ops j i=true→l.getD i false=true)→
   Slots ops vals a₀ (λj=>l.getD j false=true) a→W (l.getD m false) w→wpAnyIn F n P .any ops Q fuel l a w:=by
  intro fuel;have finish:∀(l:Array Bool) (a:Act) (w:World),l.size=ops.size→Slots ops vals a₀ (λj=>l.getD j false=true) a→W (l.getD m false) w→Region.ready .any ops l=[]→Q .normal a w:=by
   intro l a w hl hS hW hr;have hdone:∀i,i<ops.size→l.getD i false=true:=by
    intro i
    induction i using Nat.strongRecOn with
    |_ i ih=>
     intro hi;cases hli:l.getD i false with
     |true=>rfl
     |false=>
      exfalso;have:i∈Region.ready .any ops l:=eY.2 ⟨hi,by simp[aB,hl,hi]at hli ⊢;exact hli,λj hj=>by
       obtain⟨_,_,_,h3,_⟩:=T i hi;have:=h3 j hj;exact ih j this (by omega)⟩
      rw[hr]at this;cases this
   have hlm:l.getD m false=decide (m<ops.size):=by
    by_cases h:m<ops.size
    ·rw[hdone m h];simp[h]
    ·simp[aB,hl,h]
   rw[hlm]at hW;have hS2:Slots ops vals a₀ (·<ops.size) a:=by
    have iff:∀j,l.getD j false=true↔j<ops.size:=λj=>⟨λh=>by
     rcases Nat.lt_or_ge j ops.size with h1|h1
     ·exact h1
     ·simp[aB,hl,h1]at h,hdone j⟩
    exact⟨hS.size,hS.defers,λk hk=>hS.off k λj hj=>hk j ((iff j).1 hj),λj k hj=>hS.on j k ((iff j).2 hj)⟩
   rw[hS2.unique (hacts ops.size (ay _))];exact hR w hW
  induction fuel with
  |zero=>
   intro l a w hl hc hcl hS hW;have hnil:Region.ready .any ops l=[]:=by
    cases hr:Region.ready .any ops l with
    |nil=>rfl
    |cons x xs=>
     exfalso;have hx:x∈Region.ready .any ops l:=by rw[hr];simp
     obtain⟨h1,h2,_⟩:=eY.1 hx;have hxl:x<l.size:=by omega
     simp[aB,hxl]at h2;have h3:false∈l.toList:=by rw[← h2];exact Array.getElem_mem_toList hxl
     have:=List.count_pos_iff.2 h3;omega
   exact⟨hnil,finish l a w hl hS hW hnil⟩
  |succ fuel ih=>
   intro l a w hl hc hcl hS hW;refine⟨finish l a w hl hS hW,λi hi=>?_⟩;obtain⟨hlt,hli,hdeps⟩:=eY.1 hi;obtain⟨o,ho,hns,htop,hlook,huniq⟩:=T i hlt;have hil:i<l.size:=by omega
   have hli':l.getD i false=false:=by simp[aB,hil]at hli ⊢;exact hli
   have hdi:bH ops i=o.dst:=by simp[bH,ho]
   have hA:=hacts i (by omega);have hag:∀t∈o.looksAt ops,a.tmps[t]?=(acts i).tmps[t]?:=by
    intro t htt;by_cases hts:t<a₀.tmps.size
    ·by_cases hex:∃j,bH ops j=some t
     ·obtain⟨j,hj⟩:=hex;have only:∀j',bH ops j'=some t→j'=j:=λj' hj'=>by
       have hjlt:j<ops.size:=by
        rcases Nat.lt_or_ge j ops.size with h|h
        ·exact h
        ·simp[bH,Array.getElem?_eq_none h]at hj
       obtain⟨_,_,_,_,_,hu⟩:=T j hjlt;exact hu j' t hj hj'
      have base:l.getD j false=false→¬j<i→a.tmps[t]?=(acts i).tmps[t]?:=λh1 h2=>by
       rw[hS.off t (λj' hj' hd=>by rw[only j' hd]at hj';rw[h1]at hj';cases hj'),hA.off t (λj' hj' hd=>by rw[only j' hd]at hj';exact h2 hj')]
      rcases hlook t htt j hj with rfl|h|h
      ·exact base hli' (by omega)
      ·rw[hS.on j t (hdeps j h) hj hts,hA.on j t (htop j h) hj hts]
      ·have hij:i<j:=by
        have hjlt:j<ops.size:=by
         rcases Nat.lt_or_ge j ops.size with h|h
         ·exact h
         ·simp[bH,Array.getElem?_eq_none h]at hj
        obtain⟨_,_,_,ht2,_⟩:=T j hjlt;exact ht2 i h
       refine base ?_ (by omega);cases hlj:l.getD j false with
       |false=>rfl
       |true=>have:=hcl j hlj i h;rw[hli']at this;cases this
     ·rw[hS.off t λj _ hd=>hex ⟨j,hd⟩,hA.off t λj _ hd=>hex ⟨j,hd⟩]
    ·have hle:=Nat.le_of_not_lt hts;rw[Array.getElem?_eq_none (by rw[hS.size];exact hle),Array.getElem?_eq_none (by rw[hA.size];exact hle)]
   have hev:∀x∈o.op.operands,a.eval x=(acts i).eval x:=by
    intro x hx;cases x with
    |tmp t=>
     have:=hag t (List.mem_append_left _ (List.mem_filterMap.2 ⟨.tmp t,by simpa using hx,rfl⟩));simp[Act.eval,aB,this]
    |_=>rfl
   have hwant:Region.wanted o (yielded ops a.tmps)=Region.wanted o (yielded ops (acts i).tmps):=by
    unfold Region.wanted;cases hg:o.guard with
    |none=>rfl
    |some gw=>
     obtain⟨g,want⟩:=gw;have hy:yielded ops a.tmps g=yielded ops (acts i).tmps g:=by
      unfold yielded;cases ht:(ops[g]?).bind (·.dst)with
      |none=>rfl
      |some t=>
       have:=hag t (by simp[Oper.looksAt,hg,ht]);simp only[Option.bind_some];rw[this]
     simp only[hy]
   have hl2:(l.setIfInBounds i true).size=ops.size:=by simpa using hl
   have hgd:∀j,(l.setIfInBounds i true).getD j false=true↔(l.getD j false=true∨j=i):=by
    intro j;by_cases hji:i=j
    ·subst hji;simp[aB,hil]
    ·rw[aB,aA hji,← aB];exact⟨.inl,λh=>h.resolve_right (λe=>hji e.symm)⟩
   have hcount:(l.setIfInBounds i true).toList.count false≤fuel:=by
    have h2:l.toList[i]?=some false:=by
     simp[aB,hil]at hli';simp[hil,hli']
    have:=lI l.toList i h2;rw[Array.toList_setIfInBounds];omega
   have hcl2:∀j,(l.setIfInBounds i true).getD j false=true→∀i',cu ops j i'=true→(l.setIfInBounds i true).getD i' false=true:=by
    intro j hj i' hb;rw[hgd]at hj ⊢;rcases hj with hj|rfl
    ·exact .inl (hcl j hj i' hb)
    ·exact .inl (hdeps i' hb)
   have hS2:Slots ops vals a₀ (λj=>(l.setIfInBounds i true).getD j false=true) (a.put o.dst (vals i)):=by
    have:=hS.put (i:=i) (λj hj k hk hjk=>by
     have:=huniq j k hk hjk;subst this;rw[hli']at hj;cases hj)
    rw[hdi]at this;exact⟨this.size,this.defers,λk hk=>this.off k λj hj=>hk j ((hgd j).2 hj),λj k hj=>this.on j k ((hgd j).1 hj)⟩
   obtain⟨_,o',ho',hg⟩:=hall i (Nat.zero_le _) (by omega);rw[ho]at ho';cases ho';unfold wpOpIn;simp only[ho];rw[hwant];rcases hg with⟨hw,hst⟩|⟨hw,him,hab,hv⟩
   ·rw[if_pos hw];by_cases him:i=m
    ·subst him;rw[hli']at hW;unfold yI at hst;rw[if_pos rfl]at hst;refine nC (T:=W true) hro hns (by rw[hS.size,hA.size]) hev (hst w hW _ _ λw' hw'=>⟨rfl,hw'⟩) λw' hw'=>ih _ _ _ hl2 hcount hcl2 hS2 ?_;have:(l.setIfInBounds i true).getD i false=true:=(hgd i).2 (.inr rfl);rw[this];exact hw'
    ·unfold yI at hst;rw[if_neg him]at hst;refine nC (T:=W (l.getD m false)) hro hns (by rw[hS.size,hA.size]) hev (hst (l.getD m false) w (λhb=>?_) hW _ _ λw' hw'=>⟨rfl,hw'⟩) λw' hw'=>ih _ _ _ hl2 hcount hcl2 hS2 ?_
     ·cases hlm:l.getD m false with
      |false=>rfl
      |true=>have:=hcl m hlm i hb;rw[hli']at this;cases this
     ·have:(l.setIfInBounds i true).getD m false=l.getD m false:=by
       rw[aB,aA him,← aB]
      rw[this];exact hw'
   ·rw[if_neg (by rw[hw];simp)];have hmi:(l.setIfInBounds i true).getD m false=l.getD m false:=by rw[aB,aA him,← aB]
    refine⟨λf hf=>hab w f (by rw[← hf];exact(about_congr o w hev).symm),ih _ _ _ hl2 hcount hcl2 ?_ (by rw[hmi];exact hW)⟩;rw[← hv];exact hS2
 refine key ops.size (Array.replicate ops.size false) a₀ _ (by simp) (by have:=List.count_le_length (a:=false) (l:=(Array.replicate ops.size false).toList);simp at this ⊢) (λj hj=>?_) ⟨rfl,rfl,λ_ _=>rfl,λj k hj=>?_⟩ ?_
 ·rw[aB,Array.getElem?_replicate]at hj;split at hj<;>simp at hj
 ·rw[aB,Array.getElem?_replicate]at hj;split at hj<;>simp at hj
 ·have:(Array.replicate ops.size false).getD m false=false:=by
   rw[aB,Array.getElem?_replicate];split<;>rfl
  rw[this];exact h0
def Wst(W0 W1:World→Prop):Bool→World→Prop
 |false=>W0
 |true=>W1
section
variable {W0 W1:World→Prop} {m i:Nat} {rest:List Nat} {a:Act} {R:Act→Prop} {o:Oper}
theorem aT(ho:ops[i]?=some o)(hw:Region.wanted o (yielded ops a.tmps)=true)(hb:(i != m&&(cu ops m i||decide (ops.size≤m)))=true)(hm:m<ops.size∨W1=W0)
  (hr:∃a',(∀w,W0 w→∀K Q,(∀w',W0 w'→K a' w')→o.wpIn F n P a w K Q)∧∃v,a'=a.put o.dst v∧Det F n P ops (Wst W0 W1) m rest a' R):Det F n P ops (Wst W0 W1) m (i::rest) a R:=by
 obtain⟨a',hs,v,e,hr⟩:=hr;simp only[Bool.and_eq_true,bne_iff_ne,ne_eq,Bool.or_eq_true,decide_eq_true_eq]at hb;refine⟨o,ho,.inl ⟨hw,v,a',e,?_,hr⟩⟩;unfold yI;rw[if_neg hb.1];intro s w hbs hW K Q hK;rcases hm with hm|hm
 ·have hb2:=hb.2.resolve_right (by omega);rw[hbs hb2]at hW hK;exact hs w hW K Q hK
 ·subst hm;cases s<;>exact hs w hW K Q hK
theorem jD(ho:ops[i]?=some o)(hw:Region.wanted o (yielded ops a.tmps)=true)(hb:i=m)
  (hr:∃a',(∀w,W0 w→∀K Q,(∀w',W1 w'→K a' w')→o.wpIn F n P a w K Q)∧∃v,a'=a.put o.dst v∧Det F n P ops (Wst W0 W1) m rest a' R):Det F n P ops (Wst W0 W1) m (i::rest) a R:=by
 obtain⟨a',hs,v,e,hr⟩:=hr;refine⟨o,ho,.inl ⟨hw,v,a',e,?_,hr⟩⟩;unfold yI;rw[if_pos hb];exact hs
theorem aI(ho:ops[i]?=some o)(hw:Region.wanted o (yielded ops a.tmps)=true)(hb:i≠m)
  (hr:∃a',(∀(T:World→Prop) w,T w→∀K Q,(∀w',T w'→K a' w')→o.wpIn F n P a w K Q)∧∃v,a'=a.put o.dst v∧Det F n P ops (Wst W0 W1) m rest a' R):Det F n P ops (Wst W0 W1) m (i::rest) a R:=by
 obtain⟨a',hs,v,e,hr⟩:=hr;refine⟨o,ho,.inl ⟨hw,v,a',e,?_,hr⟩⟩;unfold yI;rw[if_neg hb];exact λs w _ hW K Q hK=>hs _ w hW K Q hK
theorem Nl(ho:ops[i]?=some o)(hw:Region.wanted o (yielded ops a.tmps)=false)(hb:i≠m)(hab:∀w f,o.about P w a.eval=some f→F.fn f) 
  (hr:∃a',a'=a.put o.dst undef∧Det F n P ops (Wst W0 W1) m rest a' R):Det F n P ops (Wst W0 W1) m (i::rest) a R:=by
 obtain⟨a',rfl,hr⟩:=hr;exact⟨o,ho,.inr ⟨hw,hb,hab,hr⟩⟩
theorem bn(ho:ops[i]?=some o)(hw:Region.wanted o (yielded ops a.tmps)=false)(hb:i≠m)(hab:∀w f,o.about P w a.eval=some f→F.fn f)(e:a.put o.dst undef=a)
  (hr:Det F n P ops (Wst W0 W1) m rest a R):Det F n P ops (Wst W0 W1) m (i::rest) a R:=⟨o,ho,.inr ⟨hw,hb,hab,e.symm▸hr⟩⟩
theorem dF{id:Nat}{a₀:Act}{w₀:World}(W0 W1:World→Prop)(m:Nat)(hro:F.round=none)(hm:P.follows .mixedOrders=true)(ht:(textual ops&&decide (m<ops.size))=true)(h0:∀d,W0 { w₀ with drawn:=d })
  (h:Det F n P ops (Wst W0 W1) m (List.range ops.size) a₀ (λa=>∀w,W1 w→Q .normal a w)):(Code.region id ops true).wpIn F n P Q a₀ w₀:=by
 rw[Bool.and_eq_true,decide_eq_true_eq]at ht;refine oC hro hm ht.1 (Wst W0 W1) m (h0 _) ?_;have:decide (m<ops.size)=true:=by simp[ht.2]
 rw[this];exact h
theorem bG{id:Nat}{a₀:Act}{w₀:World}(W0:World→Prop)(hro:F.round=none)(hm:P.follows .mixedOrders=true)(ht:textual ops=true)(h0:∀d,W0 { w₀ with drawn:=d })
  (h:Det F n P ops (Wst W0 W0) ops.size (List.range ops.size) a₀ (λa=>∀w,W0 w→Q .normal a w)):(Code.region id ops true).wpIn F n P Q a₀ w₀:=by
 refine oC hro hm ht (Wst W0 W0) ops.size (h0 _) ?_;have:decide (ops.size<ops.size)=false:=by simp
 rw[this];exact h
end
end
end Go.Proofs.YtnkejaohnhpbpaaGreatDoor.Lift
end
section
namespace Go.Proofs.YtnkejaohnhpbpaaGreatDoor.Lift
open Go
def Act.bM(a:Act)(g:Tmp)(x:Value):Act:={ a with tmps:=a.tmps.setIfInBounds g x }
def aJ(D:Nat→Bool)(i:Nat):Nat→Bool:=λj=>D j||j==i
def kT(ops:Array Oper)(D:Nat→Bool)(i:Nat):Prop:=D i=false∧(∀j,cu ops i j=true→D j=true)∧(∀j,cu ops j i=true→D j=false)
abbrev Wg:=(Nat→Bool)→Value→World→Prop
section
variable {F:Fence} {n:Nat} {P:Program} {ops:Array Oper} {Q:Exit→Act→World→Prop}
theorem qO{o:Oper}{a₁ a₂:Act}{w:World}{T:Value→World→Prop}{K:Act→World→Prop}(hro:F.round=none)(hs:noSelect o=true)(hsz:a₂.tmps.size=a₁.tmps.size)
  (he:∀x∈o.op.operands,a₂.eval x=a₁.eval x) (h:o.wpIn F n P a₁ w (λa' w'=>∃u,a'=a₁.put o.dst u∧T u w') (λ_ _ _=>False)) (hK:∀u w',T u w'→K (a₂.put o.dst u) w'):o.wpIn F n P a₂ w K Q:=by
 unfold Oper.wpIn at h ⊢;obtain⟨h1,h2⟩:=h;have hab:o.about P w a₂.eval=o.about P w a₁.eval:=about_congr o w he;have hex:execOp a₂.eval o=execOp a₁.eval o:=execOp_congr o (λcs b e=>by simp[noSelect,e]at hs) he;rw[hro,Oper.semAt_none]at h2;rw[hro,Oper.semAt_none,hab,hex];refine⟨h1,?_⟩;have key:∀u w',(∃v,a₁.put o.dst u=a₁.put o.dst v∧T v w')→K (a₂.put o.dst u) w':=by
  rintro u w' ⟨v,e,ht⟩;have:a₂.put o.dst u=a₂.put o.dst v:=by
   cases hd:o.dst with
   |none=>rfl
   |some d=>
    rw[hd]at e;by_cases hlt:d<a₁.tmps.size
    ·have e2:(a₁.put (some d) u).tmps[d]?=(a₁.put (some d) v).tmps[d]?:=by rw[e]
     simp[Act.put,hlt]at e2;rw[e2]
    ·have hle:a₂.tmps.size≤d:=by rw[hsz];exact Nat.le_of_not_lt hlt
     simp only[Act.put];rw[Array.setIfInBounds_eq_of_size_le hle,Array.setIfInBounds_eq_of_size_le hle]
  rw[this];exact hK v w' ht
 revert h2
 cases(execOp a₁.eval o).run P w with
 |ok x w'=>
  cases x with
  |value u=>exact λh=>key u w' h
  |skip=>exact λh=>key undef w' h
  |enter f args=>
   rintro⟨hn,hc⟩;exact⟨hn,hc.mono λe w'' he=>by
    cases e with
    |returned u=>exact key u w'' he
    |panicked ch=>exact he.elim
    |outgrown=>obtain⟨_,_,x⟩:=he;exact x.elim⟩
  |row r args=>rintro⟨hn,hc⟩;exact⟨hn,hc.mono λu w'' he=>key u w'' he⟩
  |round l f t x y=>
   rintro⟨hn,hc⟩;exact⟨hn,hc.mono λe w'' he=>by
    cases e with
    |returned u=>exact key u w'' he
    |panicked ch=>exact he.elim
    |outgrown=>obtain⟨_,_,x⟩:=he;exact x.elim⟩
  |defer d=>
   rintro⟨v,e,_⟩;have:=congrArg (λa=>a.defers.length) e;cases hd:o.dst<;>simp[Act.put,hd]at this
  |_=>exact λh=>h.elim
 |halt x w'=>cases x<;>exact λh=>h.elim
variable (F n P ops)in
def StepG(W:Wg)(g:Tmp)(i:Nat)(o:Oper)(a:Act)(v:Value):Prop:=∀D x w,kT ops D i→W D x w→
 o.wpIn F n P (Act.bM a g x) w (λa'' w'=>∃u,a''=(Act.bM a g x).put o.dst u∧(if o.dst=some g then W (aJ D i) u w' else u=v∧W (aJ D i) x w')) (λ_ _ _=>False)
variable (F n P ops)in
def sV(W:Wg)(g:Tmp):List Nat→Act→(Act→Prop)→Prop
 | [],a,R=>R a
 |i::rest,a,R=>∃o,ops[i]?=some o∧
   (((∀x,Region.wanted o (yielded ops (Act.bM a g x).tmps)=true)∧∃v a',a'=a.put o.dst v∧StepG F n P ops W g i o a v∧sV W g rest a' R)∨
    ((∀x,Region.wanted o (yielded ops (Act.bM a g x).tmps)=false)∧o.dst≠some g∧(∀x w f,o.about P w (Act.bM a g x).eval=some f→F.fn f)∧(∀D x w,kT ops D i→W D x w→W (aJ D i) x w)∧sV W g rest (a.put o.dst undef) R))
variable (F n P ops)in
def GoodG(W:Wg)(g:Tmp)(i:Nat)(a:Act)(v:Value):Prop:=∃o,ops[i]?=some o∧
 (((∀x,Region.wanted o (yielded ops (Act.bM a g x).tmps)=true)∧StepG F n P ops W g i o a v)∨
  ((∀x,Region.wanted o (yielded ops (Act.bM a g x).tmps)=false)∧o.dst≠some g∧(∀x w f,o.about P w (Act.bM a g x).eval=some f→F.fn f)∧(∀D x w,kT ops D i→W D x w→W (aJ D i) x w)∧v=undef))
theorem Kv{W:Wg}{g:Tmp}{R:Act→Prop}:∀(k s:Nat) (a:Act),sV F n P ops W g (List.range' s k) a R→
  ∃(vals:Nat→Value) (acts:Nat→Act),acts s=a∧(∀i,s≤i→i<s+k→acts (i+1)=(acts i).put (bH ops i) (vals i)∧GoodG F n P ops W g i (acts i) (vals i))∧R (acts (s+k)):=by
 intro k
 induction k with
 |zero=>intro s a h;exact⟨λ_=>undef,λ_=>a,rfl,λi h1 h2=>by omega,h⟩
 |succ k ih=>
  intro s a h;rw[List.range'_succ]at h;obtain⟨o,ho,h⟩:=h;have hd:bH ops s=o.dst:=by simp[bH,ho]
  have:∃v,GoodG F n P ops W g s a v∧sV F n P ops W g (List.range' (s+1) k) (a.put o.dst v) R:=by
   rcases h with⟨hw,v,a',rfl,h1,h2⟩|⟨hw,h0,h1,h3,h2⟩
   ·exact⟨v,⟨o,ho,.inl ⟨hw,h1⟩⟩,h2⟩
   ·exact⟨undef,⟨o,ho,.inr ⟨hw,h0,h1,h3,rfl⟩⟩,h2⟩
  obtain⟨v,hg,h2⟩:=this;obtain⟨vals,acts,e,hall,hR⟩:=ih (s+1) _ h2;refine⟨λj=>if j=s then v else vals j,λj=>if j=s then a else acts j,by simp,λi h1 h2=>?_,?_⟩
  ·by_cases hi:i=s
   ·subst hi;simp only[if_pos];rw[if_neg (by omega),e,hd];exact⟨rfl,hg⟩
   ·simp only[if_neg hi];rw[if_neg (by omega)];exact hall i (by omega) (by omega)
  ·show R (if s+(k+1)=s then a else acts (s+(k+1)))
   rw[if_neg (by omega),show s+(k+1)=s+1+k by omega];exact hR
structure jJ (ops:Array Oper) (vals:Nat→Value) (a₀:Act) (g:Tmp) (D:Nat→Prop) (a:Act):Prop where
 size:a.tmps.size=a₀.tmps.size
 defers:a.defers=a₀.defers
 off:∀k:Nat,k≠g→(∀j,D j→bH ops j≠some k)→a.tmps[k]?=a₀.tmps[k]?
 on:∀(j k:Nat),k≠g→D j→bH ops j=some k→k<a₀.tmps.size→a.tmps[k]?=some (vals j)
section
variable {vals:Nat→Value} {a₀ a:Act} {g:Tmp} {D:Nat→Prop}
theorem jJ.put(h:jJ ops vals a₀ g D a){i:Nat}(hn:∀j,D j→∀k,bH ops i=some k→bH ops j≠some k){u:Value}(hu:bH ops i≠some g→u=vals i):jJ ops vals a₀ g (λj=>D j∨j=i) (a.put (bH ops i) u):=by
 cases hd:bH ops i with
 |none=>
  refine⟨h.size,h.defers,λk hkg hk=>h.off k hkg λj hj=>hk j (.inl hj),λj k hkg hj hjk hlt=>?_⟩;rcases hj with hj|rfl
  ·exact h.on j k hkg hj hjk hlt
  ·rw[hd]at hjk;cases hjk
 |some d=>
  refine⟨by simpa[Act.put]using h.size,h.defers,λk hkg hk=>?_,λj k hkg hj hjk hlt=>?_⟩
  ·have hne:d≠k:=λe=>hk i (.inr rfl) (by rw[hd,e]);simp only[Act.put];rw[aA hne];exact h.off k hkg λj hj=>hk j (.inl hj)
  ·by_cases hji:j=i
   ·subst hji;rw[hd]at hjk;cases hjk;rw[hu (by rw[hd];intro e;exact hkg (Option.some.inj e))];simp[Act.put,h.size,hlt]
   ·have hj':D j:=hj.resolve_right hji;have hne:d≠k:=λe=>hn j hj' d hd (by rw[hjk,e]);simp only[Act.put];rw[aA hne];exact h.on j k hkg hj' hjk hlt
theorem jJ.unique{a':Act}(h:jJ ops vals a₀ g D a)(h':jJ ops vals a₀ g D a')(hg:a.tmps[g]?=a'.tmps[g]?):a=a':=by
 have ht:a.tmps=a'.tmps:=by
  apply Array.ext_getElem?;intro k;by_cases hkg:k=g
  ·subst hkg;exact hg
  by_cases hk:∃j,D j∧bH ops j=some k
  ·obtain⟨j,hj,hd⟩:=hk;by_cases hlt:k<a₀.tmps.size
   ·rw[h.on j k hkg hj hd hlt,h'.on j k hkg hj hd hlt]
   ·rw[Array.getElem?_eq_none (by rw[h.size];omega),Array.getElem?_eq_none (by rw[h'.size];omega)]
  ·have hk':∀j,D j→bH ops j≠some k:=λj hj hd=>hk ⟨j,hj,hd⟩;rw[h.off k hkg hk',h'.off k hkg hk']
 have hd:=h.defers.trans h'.defers.symm;obtain⟨t,d⟩:=a;obtain⟨t',d'⟩:=a';simp only at ht hd;rw[ht,hd]
theorem jJ.bM(h:jJ ops vals a₀ g D a)(x:Value):jJ ops vals a₀ g D (Act.bM a g x):=
 ⟨by simp[Act.bM,h.size],h.defers,λk hkg hk=>by simp only[Act.bM];rw[aA (Ne.symm hkg)];exact h.off k hkg hk,λj k hkg hj hd hlt=>by simp only[Act.bM];rw[aA (Ne.symm hkg)];exact h.on j k hkg hj hd hlt⟩
end
theorem eP{id:Nat}{a₀:Act}{w₀:World}(hro:F.round=none)(hm:P.follows .mixedOrders=true)(ht:textual ops=true)(W:Wg)(g:Tmp){x₀:Value}(hg0:a₀.tmps[g]?=some x₀)(h0:W (λ_=>false) x₀ { w₀ with drawn:=w₀.drawn+1 })
  (h:sV F n P ops W g (List.range ops.size) a₀ (λa=>∀x w,W (λj=>decide (j<ops.size)) x w→Q .normal (Act.bM a g x) w)):(Code.region id ops true).wpIn F n P Q a₀ w₀:=by
 rw[List.range_eq_range']at h;obtain⟨vals,acts,e0,hall,hR⟩:=Kv ops.size 0 a₀ h;rw[Nat.zero_add]at hR;have hgs:g<a₀.tmps.size:=(Array.getElem?_eq_some_iff.1 hg0).1
 have T:∀i,i<ops.size→∃o,ops[i]?=some o∧noSelect o=true∧(∀j,cu ops i j=true→j<i)∧(∀t∈o.looksAt ops,∀j,bH ops j=some t→j=i∨cu ops i j=true∨cu ops j i=true)∧
   (∀j d,bH ops i=some d→bH ops j=some d→j=i):=by
  intro i hi;have:=List.all_eq_true.1 ht i (List.mem_range.2 hi);have ho:ops[i]?=some ops[i]:=Array.getElem?_eq_getElem hi;simp only[ho,Bool.and_eq_true]at this;obtain⟨⟨⟨h1,h2⟩,h3⟩,h4⟩:=this;have lt_of:∀{j d},bH ops j=some d→j<ops.size:=λ{j d} hj=>by
   rcases Nat.lt_or_ge j ops.size with h|h
   ·exact h
   ·simp[bH,Array.getElem?_eq_none h]at hj
  refine⟨_,ho,h1,λj hj=>?_,λt htt j hj=>?_,λj d hd hj=>?_⟩
  ·obtain⟨e,he,hb,rfl⟩:=nK ho hj;have:=(Array.all_eq_true_iff_forall_mem.1 h2) e he;simpa[hb]using this
  ·have:=List.all_eq_true.1 (List.all_eq_true.1 h3 t htt) j (List.mem_range.2 (lt_of hj));simp only[hj,beq_self_eq_true,Bool.not_true,Bool.false_or,Bool.or_eq_true,beq_iff_eq]at this;rcases this with(h|h)|h
   ·exact .inl h
   ·exact .inr (.inl h)
   ·exact .inr (.inr h)
  ·have hd':ops[i].dst=some d:=by simpa[bH,ho]using hd
   have:=List.all_eq_true.1 h4 j (List.mem_range.2 (lt_of hj));simp only[hj,hd',Option.isNone_some,Bool.or_false,beq_self_eq_true,Bool.not_true,beq_iff_eq,Bool.false_eq_true,or_false,Bool.or_eq_true]at this;exact this
 have hacts:∀i,i≤ops.size→jJ ops vals a₀ g (·<i) (acts i):=by
  intro i
  induction i with
  |zero=>intro _;rw[e0];exact⟨rfl,rfl,λ_ _ _=>rfl,λj k _ hj=>by omega⟩
  |succ i ih=>
   intro hi;rw[(hall i (Nat.zero_le _) (by omega)).1];have:=(ih (by omega)).put (i:=i) (u:=vals i) (λj hj k hk hjk=>by
    obtain⟨_,_,_,_,_,hu⟩:=T i (by omega);have:=hu j k hk hjk;omega) (λ_=>rfl)
   refine⟨this.size,this.defers,λk hkg hk=>this.off k hkg λj hj=>hk j (by omega),λj k hkg hj=>this.on j k hkg (by omega)⟩
 refine wpIn_region_any hm ?_
 have key:∀(fuel:Nat) (l:Array Bool) (a:Act) (x:Value) (w:World),l.size=ops.size→l.toList.count false≤fuel→(∀j,l.getD j false=true→∀i,cu ops j i=true→l.getD i false=true)→
   jJ ops vals a₀ g (λj=>l.getD j false=true) a→a.tmps[g]?=some x→W (λj=>l.getD j false) x w→wpAnyIn F n P .any ops Q fuel l a w:=by
  intro fuel;have finish:∀(l:Array Bool) (a:Act) (x:Value) (w:World),l.size=ops.size→jJ ops vals a₀ g (λj=>l.getD j false=true) a→a.tmps[g]?=some x→W (λj=>l.getD j false) x w→Region.ready .any ops l=[]→Q .normal a w:=by
   intro l a x w hl hS hx hW hr;have hdone:∀i,i<ops.size→l.getD i false=true:=by
    intro i
    induction i using Nat.strongRecOn with
    |_ i ih=>
     intro hi;cases hli:l.getD i false with
     |true=>rfl
     |false=>
      exfalso;have:i∈Region.ready .any ops l:=eY.2 ⟨hi,by simp[aB,hl,hi]at hli ⊢;exact hli,λj hj=>by
       obtain⟨_,_,_,h3,_⟩:=T i hi;have:=h3 j hj;exact ih j this (by omega)⟩
      rw[hr]at this;cases this
   have hlm:(λj=>l.getD j false)=λj=>decide (j<ops.size):=by
    funext m
    by_cases h:m<ops.size
    ·rw[hdone m h];simp[h]
    ·simp[aB,hl,h]
   rw[hlm]at hW;have hS2:jJ ops vals a₀ g (·<ops.size) a:=by
    have iff:∀j,l.getD j false=true↔j<ops.size:=λj=>⟨λh=>by
     rcases Nat.lt_or_ge j ops.size with h1|h1
     ·exact h1
     ·simp[aB,hl,h1]at h,hdone j⟩
    exact⟨hS.size,hS.defers,λk hkg hk=>hS.off k hkg λj hj=>hk j ((iff j).1 hj),λj k hkg hj=>hS.on j k hkg ((iff j).2 hj)⟩
   have hA:=hacts ops.size (ay _);rw[hS2.unique (hA.bM x) (by rw[hx];simp[Act.bM,hA.size,hgs])];exact hR x w hW
  induction fuel with
  |zero=>
   intro l a x w hl hc hcl hS hx hW;have hnil:Region.ready .any ops l=[]:=by
    cases hr:Region.ready .any ops l with
    |nil=>rfl
    |cons y ys=>
     exfalso;have hy:y∈Region.ready .any ops l:=by rw[hr];simp
     obtain⟨h1,h2,_⟩:=eY.1 hy;have hxl:y<l.size:=by omega
     simp[aB,hxl]at h2;have h3:false∈l.toList:=by rw[← h2];exact Array.getElem_mem_toList hxl
     have:=List.count_pos_iff.2 h3;omega
   exact⟨hnil,finish l a x w hl hS hx hW hnil⟩
  |succ fuel ih=>
   intro l a x w hl hc hcl hS hx hW;refine⟨finish l a x w hl hS hx hW,λi hi=>?_⟩;obtain⟨hlt,hli,hdeps⟩:=eY.1 hi;obtain⟨o,ho,hns,htop,hlook,huniq⟩:=T i hlt;have hil:i<l.size:=by omega
   have hli':l.getD i false=false:=by simp[aB,hil]at hli ⊢;exact hli
   have hdi:bH ops i=o.dst:=by simp[bH,ho]
   have hA:=hacts i (by omega);have hAx:(Act.bM (acts i) g x).tmps[g]?=some x:=by simp[Act.bM,hA.size,hgs]
   have hAo:∀t,t≠g→(Act.bM (acts i) g x).tmps[t]?=(acts i).tmps[t]?:=λt htg=>by simp only[Act.bM];rw[aA (Ne.symm htg)]
   have hag:∀t∈o.looksAt ops,a.tmps[t]?=(Act.bM (acts i) g x).tmps[t]?:=by
    intro t htt;by_cases htg:t=g
    ·subst htg;rw[hx,hAx]
    rw[hAo t htg];by_cases hts:t<a₀.tmps.size
    ·by_cases hex:∃j,bH ops j=some t
     ·obtain⟨j,hj⟩:=hex;have only:∀j',bH ops j'=some t→j'=j:=λj' hj'=>by
       have hjlt:j<ops.size:=by
        rcases Nat.lt_or_ge j ops.size with h|h
        ·exact h
        ·simp[bH,Array.getElem?_eq_none h]at hj
       obtain⟨_,_,_,_,_,hu⟩:=T j hjlt;exact hu j' t hj hj'
      have base:l.getD j false=false→¬j<i→a.tmps[t]?=(acts i).tmps[t]?:=λh1 h2=>by
       rw[hS.off t htg (λj' hj' hd=>by rw[only j' hd]at hj';rw[h1]at hj';cases hj'),hA.off t htg (λj' hj' hd=>by rw[only j' hd]at hj';exact h2 hj')]
      rcases hlook t htt j hj with rfl|h|h
      ·exact base hli' (by omega)
      ·rw[hS.on j t htg (hdeps j h) hj hts,hA.on j t htg (htop j h) hj hts]
      ·have hij:i<j:=by
        have hjlt:j<ops.size:=by
         rcases Nat.lt_or_ge j ops.size with h|h
         ·exact h
         ·simp[bH,Array.getElem?_eq_none h]at hj
        obtain⟨_,_,_,ht2,_⟩:=T j hjlt;exact ht2 i h
       refine base ?_ (by omega);cases hlj:l.getD j false with
       |false=>rfl
       |true=>have:=hcl j hlj i h;rw[hli']at this;cases this
     ·rw[hS.off t htg λj _ hd=>hex ⟨j,hd⟩,hA.off t htg λj _ hd=>hex ⟨j,hd⟩]
    ·have hle:=Nat.le_of_not_lt hts;rw[Array.getElem?_eq_none (by rw[hS.size];exact hle),Array.getElem?_eq_none (by rw[hA.size];exact hle)]
   have hev:∀y∈o.op.operands,a.eval y=(Act.bM (acts i) g x).eval y:=by
    intro y hy;cases y with
    |tmp t=>
     have:=hag t (List.mem_append_left _ (List.mem_filterMap.2 ⟨.tmp t,by simpa using hy,rfl⟩));simp[Act.eval,aB,this]
    |_=>rfl
   have hwant:Region.wanted o (yielded ops a.tmps)=Region.wanted o (yielded ops (Act.bM (acts i) g x).tmps):=by
    unfold Region.wanted;cases hg:o.guard with
    |none=>rfl
    |some gw=>
     obtain⟨gd,want⟩:=gw;have hy:yielded ops a.tmps gd=yielded ops (Act.bM (acts i) g x).tmps gd:=by
      unfold yielded;cases ht:(ops[gd]?).bind (·.dst)with
      |none=>rfl
      |some t=>
       have:=hag t (by simp[Oper.looksAt,hg,ht]);simp only[Option.bind_some];rw[this]
     simp only[hy]
   have hl2:(l.setIfInBounds i true).size=ops.size:=by simpa using hl
   have hgd:∀j,(l.setIfInBounds i true).getD j false=true↔(l.getD j false=true∨j=i):=by
    intro j;by_cases hji:i=j
    ·subst hji;simp[aB,hil]
    ·rw[aB,aA hji,← aB];exact⟨.inl,λh=>h.resolve_right (λe=>hji e.symm)⟩
   have hcount:(l.setIfInBounds i true).toList.count false≤fuel:=by
    have h2:l.toList[i]?=some false:=by
     simp[aB,hil]at hli';simp[hil,hli']
    have:=lI l.toList i h2;rw[Array.toList_setIfInBounds];omega
   have hcl2:∀j,(l.setIfInBounds i true).getD j false=true→∀i',cu ops j i'=true→(l.setIfInBounds i true).getD i' false=true:=by
    intro j hj i' hb;rw[hgd]at hj ⊢;rcases hj with hj|rfl
    ·exact .inl (hcl j hj i' hb)
    ·exact .inl (hdeps i' hb)
   have hS2:∀u,(o.dst≠some g→u=vals i)→jJ ops vals a₀ g (λj=>(l.setIfInBounds i true).getD j false=true) (a.put o.dst u):=by
    intro u hu;have:=hS.put (i:=i) (u:=u) (λj hj k hk hjk=>by
     have:=huniq j k hk hjk;subst this;rw[hli']at hj;cases hj) (by rw[hdi];exact hu)
    rw[hdi]at this;exact⟨this.size,this.defers,λk hkg hk=>this.off k hkg λj hj=>hk j ((hgd j).2 hj),λj k hkg hj=>this.on j k hkg ((hgd j).1 hj)⟩
   have hset:(λj=>(l.setIfInBounds i true).getD j false)=aJ (λj=>l.getD j false) i:=by
    funext j
    unfold aJ;cases hx:(l.setIfInBounds i true).getD j false with
    |true=>rcases(hgd j).1 hx with h|h<;>simp[h]
    |false=>
     have h1:¬(l.getD j false=true∨j=i):=λh=>by rw[(hgd j).2 h]at hx;cases hx
     have h2:l.getD j false=false:=by cases h:l.getD j false with|false=>rfl|true=>exact absurd (.inl h) h1
     have h3:(j==i)=false:=by simp;exact λh=>h1 (.inr h)
     simp only[h2,h3,Bool.or_false]
   have hmay:kT ops (λj=>l.getD j false) i:=⟨hli',λj hj=>hdeps j hj,λj hj=>by
    show l.getD j false=false
    cases hlj:l.getD j false with
    |false=>rfl
    |true=>have:=hcl j hlj i hj;rw[hli']at this;cases this⟩
   obtain⟨_,o',ho',hg⟩:=hall i (Nat.zero_le _) (by omega);rw[ho]at ho';cases ho';unfold wpOpIn;simp only[ho];rw[hwant];rcases hg with⟨hw,hst⟩|⟨hw,hdg,hab,hkeep,hv⟩
   ·rw[if_pos (hw x)];refine qO hro hns (by rw[hS.size];simp[Act.bM,hA.size]) hev (hst _ x w hmay hW) λu w' hw'=>?_;by_cases hdg:o.dst=some g
    ·rw[if_pos hdg]at hw';refine ih _ _ u _ hl2 hcount hcl2 (hS2 u λh=>absurd hdg h) ?_ (by rw[hset];exact hw');rw[hdg];simp[Act.put,hS.size,hgs]
    ·rw[if_neg hdg]at hw';obtain⟨rfl,hw'⟩:=hw';refine ih _ _ x _ hl2 hcount hcl2 (hS2 _ λ_=>rfl) ?_ (by rw[hset];exact hw');cases hd:o.dst with
     |none=>exact hx
     |some d=>
      simp only[Act.put];rw[aA (λe=>hdg (by rw[hd,e]))];exact hx
   ·rw[if_neg (by rw[hw x];simp)];refine⟨λf hf=>hab x w f (by rw[← hf];exact(about_congr o w hev).symm),ih _ _ x _ hl2 hcount hcl2 (hS2 _ λ_=>hv.symm) ?_ (by rw[hset];exact hkeep _ x w hmay hW)⟩;cases hd:o.dst with
    |none=>exact hx
    |some d=>
     simp only[Act.put];rw[aA (λe=>hdg (by rw[hd,e]))];exact hx
 refine key ops.size (Array.replicate ops.size false) a₀ x₀ _ (by simp) (by have:=List.count_le_length (a:=false) (l:=(Array.replicate ops.size false).toList);simp at this ⊢) (λj hj=>?_) ⟨rfl,rfl,λ_ _ _=>rfl,λj k _ hj=>?_⟩ hg0 ?_
 ·rw[aB,Array.getElem?_replicate]at hj;split at hj<;>simp at hj
 ·rw[aB,Array.getElem?_replicate]at hj;split at hj<;>simp at hj
 ·have:(λj=>(Array.replicate ops.size false).getD j false)=λ_=>false:=by
   funext m
   rw[aB,Array.getElem?_replicate];split<;>rfl
  rw[this];exact h0
section
variable {W:Wg} {g:Tmp} {i:Nat} {rest:List Nat} {a:Act} {R:Act→Prop} {o:Oper}
theorem Jt(ho:ops[i]?=some o)(hw:∀x,Region.wanted o (yielded ops (Act.bM a g x).tmps)=true)(hd:o.dst≠some g)
  (hr:∃v a',(∀D x w,kT ops D i→W D x w→∀K Q,(∀w',W (aJ D i) x w'→K ((Act.bM a g x).put o.dst v) w')→o.wpIn F n P (Act.bM a g x) w K Q)∧a'=a.put o.dst v∧sV F n P ops W g rest a' R):sV F n P ops W g (i::rest) a R:=by
 obtain⟨v,a',hs,e,hr⟩:=hr;refine⟨o,ho,.inl ⟨hw,v,a',e,λD x w hmay hW=>hs D x w hmay hW _ _ λw' hw'=>⟨v,rfl,?_⟩,hr⟩⟩;rw[if_neg hd];exact⟨rfl,hw'⟩
theorem Hq(ho:ops[i]?=some o)(hw:∀x,Region.wanted o (yielded ops (Act.bM a g x).tmps)=true)(hd:o.dst=some g)
  (hr:∃a',(∀D x w,kT ops D i→W D x w→∀K Q,(∀u w',W (aJ D i) u w'→K ((Act.bM a g x).put o.dst u) w')→o.wpIn F n P (Act.bM a g x) w K Q)∧a'=a.put o.dst undef∧sV F n P ops W g rest a' R):sV F n P ops W g (i::rest) a R:=by
 obtain⟨a',hs,e,hr⟩:=hr;refine⟨o,ho,.inl ⟨hw,undef,a',e,λD x w hmay hW=>hs D x w hmay hW _ _ λu w' hw'=>⟨u,rfl,?_⟩,hr⟩⟩;rw[if_pos hd];exact hw'
end
end
end Go.Proofs.YtnkejaohnhpbpaaGreatDoor.Lift
end
section
namespace Go.Proofs.YtnkejaohnhpbpaaGreatDoor.Lift
open Go
section
variable {F:Fence} {n:Nat} {P:Program} {ops:Array Oper} {Q:Exit→Act→World→Prop}
variable {W:Wg} {g:Tmp} {i:Nat} {rest:List Nat} {a:Act} {R:Act→Prop} {o:Oper}
theorem Cc{u:Value}(hu:a.tmps[g]?=some u):Act.bM a g u=a:=by
 obtain⟨t,d⟩:=a;simp only[Act.bM]
 congr 1
 apply Array.ext_getElem?;intro k;by_cases h:g=k
 ·subst h;have:g<t.size:=(Array.getElem?_eq_some_iff.1 hu).1;rw[Array.getElem?_setIfInBounds_self_of_lt this];exact hu.symm
 ·rw[aA h]
theorem bg{u0:Value}(ho:ops[i]?=some o)(hw:∀x,Region.wanted o (yielded ops (Act.bM a g x).tmps)=true)(hd:o.dst≠some g)(hu:a.tmps[g]?=some u0)
  (hr:∃af:Value→Act,(∀D x w,kT ops D i→W D x w→∀K Q,(∀w',W (aJ D i) x w'→K (af x) w')→o.wpIn F n P (Act.bM a g x) w K Q)∧∃v,(∀x,af x=(Act.bM a g x).put o.dst v)∧sV F n P ops W g rest (af u0) R):sV F n P ops W g (i::rest) a R:=by
 obtain⟨af,hs,v,e,hr⟩:=hr;refine Jt ho hw hd ⟨v,af u0,λD x w hm hW K Q hK=>hs D x w hm hW K Q λw' hw'=>by rw[e];exact hK w' hw',?_,hr⟩;rw[e,Cc hu]
theorem jR(ho:ops[i]?=some o)(hw:∀x,Region.wanted o (yielded ops (Act.bM a g x).tmps)=true)(hd:o.dst=none)
  (hs:∀D x w,kT ops D i→W D x w→∀K Q,(∀w',W (aJ D i) x w'→K (Act.bM a g x) w')→o.wpIn F n P (Act.bM a g x) w K Q) (hr:sV F n P ops W g rest a R):sV F n P ops W g (i::rest) a R:=by
 refine Jt ho hw (by rw[hd];simp) ⟨undef,a,λD x w hm hW K Q hK=>hs D x w hm hW K Q λw' hw'=>?_,by rw[hd];rfl,hr⟩;have:=hK w' hw';rw[hd]at this;exact this
theorem uU(ho:ops[i]?=some o)(hw:∀x,Region.wanted o (yielded ops (Act.bM a g x).tmps)=true)(hd:o.dst=some g)(hu:a.tmps[g]?=some undef)
  (hs:∀D x w,kT ops D i→W D x w→∀K Q,(∀u w',W (aJ D i) u w'→K ((Act.bM a g x).put o.dst u) w')→o.wpIn F n P (Act.bM a g x) w K Q) (hr:sV F n P ops W g rest a R):sV F n P ops W g (i::rest) a R:=by
 refine Hq ho hw hd ⟨a,hs,?_,hr⟩;rw[hd];have:Act.bM a g undef=a:=Cc hu;exact this.symm
end
end Go.Proofs.YtnkejaohnhpbpaaGreatDoor.Lift
end
