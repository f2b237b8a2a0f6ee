/- A region that draws its order, walked once in the text's order, where some slots (blocks' addresses) are not known ahead. Nothing of the program stands here. -/
import Derived.Test.YtnkejaohnhpbpaaGreatDoorA05
import Derived.Test.YtnkejaohnhpbpaaGreatDoorA47
set_option linter.all false
section
namespace Go.Proofs.YtnkejaohnhpbpaaGreatDoor.Lift
open Go
def Act.bK(a:Act)(gl:List Tmp)(x:Tmp→Value):Act:={ a with tmps:=gl.foldl (λt g=>t.setIfInBounds g (x g)) a.tmps }
def uH(x:Tmp→Value)(g:Tmp)(u:Value):Tmp→Value:=λt=>if t=g then u else x t
abbrev Wm:=(Nat→Bool)→(Tmp→Value)→World→Prop
theorem yU(x:Tmp→Value):∀(gl:List Tmp) (t:Array Value),(gl.foldl (λt g=>t.setIfInBounds g (x g)) t).size=t.size
 | [],_=>rfl
 |g::gl,t=>by rw[List.foldl_cons,yU x gl];simp
theorem wu(x:Tmp→Value){k:Tmp}:∀(gl:List Tmp) (t:Array Value),k∉gl→(gl.foldl (λt g=>t.setIfInBounds g (x g)) t)[k]?=t[k]?
 | [],_,_=>rfl
 |g::gl,t,h=>by
  rw[List.foldl_cons,wu x gl _ λq=>h (List.mem_cons_of_mem _ q),aA λe=>h (by rw[e];exact List.mem_cons_self ..)]
theorem EU(x:Tmp→Value){k:Tmp}:∀(gl:List Tmp) (t:Array Value),k∈gl→k<t.size→(gl.foldl (λt g=>t.setIfInBounds g (x g)) t)[k]?=some (x k)
 | [],_,h,_=>by cases h
 |g::gl,t,h,hs=>by
  rw[List.foldl_cons];by_cases hk:k∈gl
  ·exact EU x gl _ hk (by simpa using hs)
  ·rw[wu x gl _ hk];rcases List.mem_cons.1 h with rfl|h
   ·simp[hs]
   ·exact absurd h hk
section
variable {a:Act} {gl:List Tmp} {x:Tmp→Value}
theorem Cb:(Act.bK a gl x).tmps.size=a.tmps.size:=yU x gl _
theorem vS{k:Tmp}(h:k∉gl):(Act.bK a gl x).tmps[k]?=a.tmps[k]?:=wu x gl _ h
theorem Ec{k:Tmp}(h:k∈gl)(hs:k<a.tmps.size):(Act.bK a gl x).tmps[k]?=some (x k):=EU x gl _ h hs
end
section
variable {F:Fence} {n:Nat} {P:Program} {ops:Array Oper} {Q:Exit→Act→World→Prop}
variable (F n P ops)in
def StepM(W:Wm)(gl:List Tmp)(i:Nat)(o:Oper)(a:Act)(v:Value):Prop:=∀D x w,kT ops D i→W D x w→
 o.wpIn F n P (Act.bK a gl x) w (λa'' w'=>∃u,a''=(Act.bK a gl x).put o.dst u∧((∀g∈gl,o.dst=some g→W (aJ D i) (uH x g u) w')∧((∀g∈gl,o.dst≠some g)→u=v∧W (aJ D i) x w'))) (λ_ _ _=>False)
variable (F n P ops)in
def oG(W:Wm)(gl:List Tmp):List Nat→Act→(Act→Prop)→Prop
 | [],a,R=>R a
 |i::rest,a,R=>∃o,ops[i]?=some o∧
   (((∀x,Region.wanted o (yielded ops (Act.bK a gl x).tmps)=true)∧∃v a',a'=a.put o.dst v∧StepM F n P ops W gl i o a v∧oG W gl rest a' R)∨
    ((∀x,Region.wanted o (yielded ops (Act.bK a gl x).tmps)=false)∧(∀g∈gl,o.dst≠some g)∧(∀x w f,o.about P w (Act.bK a gl x).eval=some f→F.fn f)∧(∀D x w,kT ops D i→W D x w→W (aJ D i) x w)∧oG W gl rest (a.put o.dst undef) R))
variable (F n P ops)in
def GoodM(W:Wm)(gl:List Tmp)(i:Nat)(a:Act)(v:Value):Prop:=∃o,ops[i]?=some o∧
 (((∀x,Region.wanted o (yielded ops (Act.bK a gl x).tmps)=true)∧StepM F n P ops W gl i o a v)∨
  ((∀x,Region.wanted o (yielded ops (Act.bK a gl x).tmps)=false)∧(∀g∈gl,o.dst≠some g)∧(∀x w f,o.about P w (Act.bK a gl x).eval=some f→F.fn f)∧(∀D x w,kT ops D i→W D x w→W (aJ D i) x w)∧v=undef))
theorem Ky{W:Wm}{gl:List Tmp}{R:Act→Prop}:∀(k s:Nat) (a:Act),oG F n P ops W gl (List.range' s k) a R→
  ∃(vals:Nat→Value) (acts:Nat→Act),acts s=a∧(∀i,s≤i→i<s+k→acts (i+1)=(acts i).put (bH ops i) (vals i)∧GoodM F n P ops W gl i (acts i) (vals i))∧R (acts (s+k)):=by
 intro k
 induction k with
 |zero=>intro s a h;exact⟨λ_=>undef,λ_=>a,rfl,λi h1 h2=>by omega,h⟩
 |succ k ih=>
  intro s a h;rw[List.range'_succ]at h;obtain⟨o,ho,h⟩:=h;have hd:bH ops s=o.dst:=by simp[bH,ho]
  have:∃v,GoodM F n P ops W gl s a v∧oG F n P ops W gl (List.range' (s+1) k) (a.put o.dst v) R:=by
   rcases h with⟨hw,v,a',rfl,h1,h2⟩|⟨hw,h0,h1,h3,h2⟩
   ·exact⟨v,⟨o,ho,.inl ⟨hw,h1⟩⟩,h2⟩
   ·exact⟨undef,⟨o,ho,.inr ⟨hw,h0,h1,h3,rfl⟩⟩,h2⟩
  obtain⟨v,hg,h2⟩:=this;obtain⟨vals,acts,e,hall,hR⟩:=ih (s+1) _ h2;refine⟨λj=>if j=s then v else vals j,λj=>if j=s then a else acts j,by simp,λi h1 h2=>?_,?_⟩
  ·by_cases hi:i=s
   ·subst hi;simp only[if_pos];rw[if_neg (by omega),e,hd];exact⟨rfl,hg⟩
   ·simp only[if_neg hi];rw[if_neg (by omega)];exact hall i (by omega) (by omega)
  ·show R (if s+(k+1)=s then a else acts (s+(k+1)))
   rw[if_neg (by omega),show s+(k+1)=s+1+k by omega];exact hR
structure jK (ops:Array Oper) (vals:Nat→Value) (a₀:Act) (gl:List Tmp) (D:Nat→Prop) (a:Act):Prop where
 size:a.tmps.size=a₀.tmps.size
 defers:a.defers=a₀.defers
 off:∀k:Nat,k∉gl→(∀j,D j→bH ops j≠some k)→a.tmps[k]?=a₀.tmps[k]?
 on:∀(j k:Nat),k∉gl→D j→bH ops j=some k→k<a₀.tmps.size→a.tmps[k]?=some (vals j)
section
variable {vals:Nat→Value} {a₀ a:Act} {gl:List Tmp} {D:Nat→Prop}
theorem jK.put(h:jK ops vals a₀ gl D a){i:Nat}(hn:∀j,D j→∀k,bH ops i=some k→bH ops j≠some k){u:Value}(hu:(∀g∈gl,bH ops i≠some g)→u=vals i):jK ops vals a₀ gl (λj=>D j∨j=i) (a.put (bH ops i) u):=by
 cases hd:bH ops i with
 |none=>
  refine⟨h.size,h.defers,λk hkg hk=>h.off k hkg λj hj=>hk j (.inl hj),λj k hkg hj hjk hlt=>?_⟩;rcases hj with hj|rfl
  ·exact h.on j k hkg hj hjk hlt
  ·rw[hd]at hjk;cases hjk
 |some d=>
  refine⟨by simpa[Act.put]using h.size,h.defers,λk hkg hk=>?_,λj k hkg hj hjk hlt=>?_⟩
  ·have hne:d≠k:=λe=>hk i (.inr rfl) (by rw[hd,e]);simp only[Act.put];rw[aA hne];exact h.off k hkg λj hj=>hk j (.inl hj)
  ·by_cases hji:j=i
   ·subst hji;rw[hd]at hjk;cases hjk;rw[hu (λg hg e=>hkg (by rw[hd]at e;rw[Option.some.inj e];exact hg))];simp[Act.put,h.size,hlt]
   ·have hj':D j:=hj.resolve_right hji;have hne:d≠k:=λe=>hn j hj' d hd (by rw[hjk,e]);simp only[Act.put];rw[aA hne];exact h.on j k hkg hj' hjk hlt
theorem jK.unique{a':Act}(h:jK ops vals a₀ gl D a)(h':jK ops vals a₀ gl D a')(hg:∀g∈gl,a.tmps[g]?=a'.tmps[g]?):a=a':=by
 have ht:a.tmps=a'.tmps:=by
  apply Array.ext_getElem?;intro k;by_cases hkg:k∈gl
  ·exact hg k hkg
  by_cases hk:∃j,D j∧bH ops j=some k
  ·obtain⟨j,hj,hd⟩:=hk;by_cases hlt:k<a₀.tmps.size
   ·rw[h.on j k hkg hj hd hlt,h'.on j k hkg hj hd hlt]
   ·rw[Array.getElem?_eq_none (by rw[h.size];omega),Array.getElem?_eq_none (by rw[h'.size];omega)]
  ·have hk':∀j,D j→bH ops j≠some k:=λj hj hd=>hk ⟨j,hj,hd⟩;rw[h.off k hkg hk',h'.off k hkg hk']
 have hd:=h.defers.trans h'.defers.symm;obtain⟨t,d⟩:=a;obtain⟨t',d'⟩:=a';simp only at ht hd;rw[ht,hd]
theorem jK.bK(h:jK ops vals a₀ gl D a)(x:Tmp→Value):jK ops vals a₀ gl D (Act.bK a gl x):=
 ⟨Cb.trans h.size,h.defers,λk hkg hk=>(vS hkg).trans (h.off k hkg hk),λj k hkg hj hd hlt=>(vS hkg).trans (h.on j k hkg hj hd hlt)⟩
end
theorem aY{id:Nat}{a₀:Act}{w₀:World}(hro:F.round=none)(hm:P.follows .mixedOrders=true)(ht:textual ops=true)(W:Wm)(gl:List Tmp){x₀:Tmp→Value}(hg0:∀g∈gl,a₀.tmps[g]?=some (x₀ g))(h0:W (λ_=>false) x₀ { w₀ with drawn:=w₀.drawn+1 })
  (h:oG F n P ops W gl (List.range ops.size) a₀ (λa=>∀x w,W (λj=>decide (j<ops.size)) x w→Q .normal (Act.bK a gl x) w)):(Code.region id ops true).wpIn F n P Q a₀ w₀:=by
 rw[List.range_eq_range']at h;obtain⟨vals,acts,e0,hall,hR⟩:=Ky ops.size 0 a₀ h;rw[Nat.zero_add]at hR;have hgs:∀g∈gl,g<a₀.tmps.size:=λg hg=>(Array.getElem?_eq_some_iff.1 (hg0 g hg)).1
 have T:∀i,i<ops.size→∃o,ops[i]?=some o∧noSelect o=true∧(∀j,cu ops i j=true→j<i)∧(∀t∈o.looksAt ops,∀j,bH ops j=some t→j=i∨cu ops i j=true∨cu ops j i=true)∧
   (∀j d,bH ops i=some d→bH ops j=some d→j=i):=by
  intro i hi;have:=List.all_eq_true.1 ht i (List.mem_range.2 hi);have ho:ops[i]?=some ops[i]:=Array.getElem?_eq_getElem hi;simp only[ho,Bool.and_eq_true]at this;obtain⟨⟨⟨h1,h2⟩,h3⟩,h4⟩:=this;have lt_of:∀{j d},bH ops j=some d→j<ops.size:=λ{j d} hj=>by
   rcases Nat.lt_or_ge j ops.size with h|h
   ·exact h
   ·simp[bH,Array.getElem?_eq_none h]at hj
  refine⟨_,ho,h1,λj hj=>?_,λt htt j hj=>?_,λj d hd hj=>?_⟩
  ·obtain⟨e,he,hb,rfl⟩:=nK ho hj;have:=(Array.all_eq_true_iff_forall_mem.1 h2) e he;simpa[hb]using this
  ·have:=List.all_eq_true.1 (List.all_eq_true.1 h3 t htt) j (List.mem_range.2 (lt_of hj));simp only[hj,beq_self_eq_true,Bool.not_true,Bool.false_or,Bool.or_eq_true,beq_iff_eq]at this;rcases this with(h|h)|h
   ·exact .inl h
   ·exact .inr (.inl h)
   ·exact .inr (.inr h)
  ·have hd':ops[i].dst=some d:=by simpa[bH,ho]using hd
   have:=List.all_eq_true.1 h4 j (List.mem_range.2 (lt_of hj));simp only[hj,hd',Option.isNone_some,Bool.or_false,beq_self_eq_true,Bool.not_true,beq_iff_eq,Bool.false_eq_true,or_false,Bool.or_eq_true]at this;exact this
 have hacts:∀i,i≤ops.size→jK ops vals a₀ gl (·<i) (acts i):=by
  intro i
  induction i with
  |zero=>intro _;rw[e0];exact⟨rfl,rfl,λ_ _ _=>rfl,λj k _ hj=>by omega⟩
  |succ i ih=>
   intro hi;rw[(hall i (Nat.zero_le _) (by omega)).1];have:=(ih (by omega)).put (i:=i) (u:=vals i) (λj hj k hk hjk=>by
    obtain⟨_,_,_,_,_,hu⟩:=T i (by omega);have:=hu j k hk hjk;omega) (λ_=>rfl)
   refine⟨this.size,this.defers,λk hkg hk=>this.off k hkg λj hj=>hk j (by omega),λj k hkg hj=>this.on j k hkg (by omega)⟩
 refine wpIn_region_any hm ?_
 have key:∀(fuel:Nat) (l:Array Bool) (a:Act) (x:Tmp→Value) (w:World),l.size=ops.size→l.toList.count false≤fuel→(∀j,l.getD j false=true→∀i,cu ops j i=true→l.getD i false=true)→
   jK ops vals a₀ gl (λj=>l.getD j false=true) a→(∀g∈gl,a.tmps[g]?=some (x g))→W (λj=>l.getD j false) x w→wpAnyIn F n P .any ops Q fuel l a w:=by
  intro fuel;have finish:∀(l:Array Bool) (a:Act) (x:Tmp→Value) (w:World),l.size=ops.size→jK ops vals a₀ gl (λj=>l.getD j false=true) a→(∀g∈gl,a.tmps[g]?=some (x g))→W (λj=>l.getD j false) x w→Region.ready .any ops l=[]→Q .normal a w:=by
   intro l a x w hl hS hx hW hr;have hdone:∀i,i<ops.size→l.getD i false=true:=by
    intro i
    induction i using Nat.strongRecOn with
    |_ i ih=>
     intro hi;cases hli:l.getD i false with
     |true=>rfl
     |false=>
      exfalso;have:i∈Region.ready .any ops l:=eY.2 ⟨hi,by simp[aB,hl,hi]at hli ⊢;exact hli,λj hj=>by
       obtain⟨_,_,_,h3,_⟩:=T i hi;have:=h3 j hj;exact ih j this (by omega)⟩
      rw[hr]at this;cases this
   have hlm:(λj=>l.getD j false)=λj=>decide (j<ops.size):=by
    funext m
    by_cases h:m<ops.size
    ·rw[hdone m h];simp[h]
    ·simp[aB,hl,h]
   rw[hlm]at hW;have hS2:jK ops vals a₀ gl (·<ops.size) a:=by
    have iff:∀j,l.getD j false=true↔j<ops.size:=λj=>⟨λh=>by
     rcases Nat.lt_or_ge j ops.size with h1|h1
     ·exact h1
     ·simp[aB,hl,h1]at h,hdone j⟩
    exact⟨hS.size,hS.defers,λk hkg hk=>hS.off k hkg λj hj=>hk j ((iff j).1 hj),λj k hkg hj=>hS.on j k hkg ((iff j).2 hj)⟩
   have hA:=hacts ops.size (ay _);rw[hS2.unique (hA.bK x) (λg hg=>by rw[hx g hg,Ec hg (by rw[hA.size];exact hgs g hg)])];exact hR x w hW
  induction fuel with
  |zero=>
   intro l a x w hl hc hcl hS hx hW;have hnil:Region.ready .any ops l=[]:=by
    cases hr:Region.ready .any ops l with
    |nil=>rfl
    |cons y ys=>
     exfalso;have hy:y∈Region.ready .any ops l:=by rw[hr];simp
     obtain⟨h1,h2,_⟩:=eY.1 hy;have hxl:y<l.size:=by omega
     simp[aB,hxl]at h2;have h3:false∈l.toList:=by rw[← h2];exact Array.getElem_mem_toList hxl
     have:=List.count_pos_iff.2 h3;omega
   exact⟨hnil,finish l a x w hl hS hx hW hnil⟩
  |succ fuel ih=>
   intro l a x w hl hc hcl hS hx hW;refine⟨finish l a x w hl hS hx hW,λi hi=>?_⟩;obtain⟨hlt,hli,hdeps⟩:=eY.1 hi;obtain⟨o,ho,hns,htop,hlook,huniq⟩:=T i hlt;have hil:i<l.size:=by omega
   have hli':l.getD i false=false:=by simp[aB,hil]at hli ⊢;exact hli
   have hdi:bH ops i=o.dst:=by simp[bH,ho]
   have hA:=hacts i (by omega);have hAx:∀g∈gl,(Act.bK (acts i) gl x).tmps[g]?=some (x g):=λg hg=>Ec hg (by rw[hA.size];exact hgs g hg);have hAo:∀t,t∉gl→(Act.bK (acts i) gl x).tmps[t]?=(acts i).tmps[t]?:=λt htg=>vS htg;have hag:∀t∈o.looksAt ops,a.tmps[t]?=(Act.bK (acts i) gl x).tmps[t]?:=by
    intro t htt;by_cases htg:t∈gl
    ·rw[hx t htg,hAx t htg]
    rw[hAo t htg];by_cases hts:t<a₀.tmps.size
    ·by_cases hex:∃j,bH ops j=some t
     ·obtain⟨j,hj⟩:=hex;have only:∀j',bH ops j'=some t→j'=j:=λj' hj'=>by
       have hjlt:j<ops.size:=by
        rcases Nat.lt_or_ge j ops.size with h|h
        ·exact h
        ·simp[bH,Array.getElem?_eq_none h]at hj
       obtain⟨_,_,_,_,_,hu⟩:=T j hjlt;exact hu j' t hj hj'
      have base:l.getD j false=false→¬j<i→a.tmps[t]?=(acts i).tmps[t]?:=λh1 h2=>by
       rw[hS.off t htg (λj' hj' hd=>by rw[only j' hd]at hj';rw[h1]at hj';cases hj'),hA.off t htg (λj' hj' hd=>by rw[only j' hd]at hj';exact h2 hj')]
      rcases hlook t htt j hj with rfl|h|h
      ·exact base hli' (by omega)
      ·rw[hS.on j t htg (hdeps j h) hj hts,hA.on j t htg (htop j h) hj hts]
      ·have hij:i<j:=by
        have hjlt:j<ops.size:=by
         rcases Nat.lt_or_ge j ops.size with h|h
         ·exact h
         ·simp[bH,Array.getElem?_eq_none h]at hj
        obtain⟨_,_,_,ht2,_⟩:=T j hjlt;exact ht2 i h
       refine base ?_ (by omega);cases hlj:l.getD j false with
       |false=>rfl
       |true=>have:=hcl j hlj i h;rw[hli']at this;cases this
     ·rw[hS.off t htg λj _ hd=>hex ⟨j,hd⟩,hA.off t htg λj _ hd=>hex ⟨j,hd⟩]
    ·have hle:=Nat.le_of_not_lt hts;rw[Array.getElem?_eq_none (by rw[hS.size];exact hle),Array.getElem?_eq_none (by rw[hA.size];exact hle)]
   have hev:∀y∈o.op.operands,a.eval y=(Act.bK (acts i) gl x).eval y:=by
    intro y hy;cases y with
    |tmp t=>
     have:=hag t (List.mem_append_left _ (List.mem_filterMap.2 ⟨.tmp t,by simpa using hy,rfl⟩));simp[Act.eval,aB,this]
    |_=>rfl
   have hwant:Region.wanted o (yielded ops a.tmps)=Region.wanted o (yielded ops (Act.bK (acts i) gl x).tmps):=by
    unfold Region.wanted;cases hg:o.guard with
    |none=>rfl
    |some gw=>
     obtain⟨gd,want⟩:=gw;have hy:yielded ops a.tmps gd=yielded ops (Act.bK (acts i) gl x).tmps gd:=by
      unfold yielded;cases ht:(ops[gd]?).bind (·.dst)with
      |none=>rfl
      |some t=>
       have:=hag t (by simp[Oper.looksAt,hg,ht]);simp only[Option.bind_some];rw[this]
     simp only[hy]
   have hl2:(l.setIfInBounds i true).size=ops.size:=by simpa using hl
   have hgd:∀j,(l.setIfInBounds i true).getD j false=true↔(l.getD j false=true∨j=i):=by
    intro j;by_cases hji:i=j
    ·subst hji;simp[aB,hil]
    ·rw[aB,aA hji,← aB];exact⟨.inl,λh=>h.resolve_right (λe=>hji e.symm)⟩
   have hcount:(l.setIfInBounds i true).toList.count false≤fuel:=by
    have h2:l.toList[i]?=some false:=by
     simp[aB,hil]at hli';simp[hil,hli']
    have:=lI l.toList i h2;rw[Array.toList_setIfInBounds];omega
   have hcl2:∀j,(l.setIfInBounds i true).getD j false=true→∀i',cu ops j i'=true→(l.setIfInBounds i true).getD i' false=true:=by
    intro j hj i' hb;rw[hgd]at hj ⊢;rcases hj with hj|rfl
    ·exact .inl (hcl j hj i' hb)
    ·exact .inl (hdeps i' hb)
   have hS2:∀u,((∀g∈gl,o.dst≠some g)→u=vals i)→jK ops vals a₀ gl (λj=>(l.setIfInBounds i true).getD j false=true) (a.put o.dst u):=by
    intro u hu;have:=hS.put (i:=i) (u:=u) (λj hj k hk hjk=>by
     have:=huniq j k hk hjk;subst this;rw[hli']at hj;cases hj) (by rw[hdi];exact hu)
    rw[hdi]at this;exact⟨this.size,this.defers,λk hkg hk=>this.off k hkg λj hj=>hk j ((hgd j).2 hj),λj k hkg hj=>this.on j k hkg ((hgd j).1 hj)⟩
   have hset:(λj=>(l.setIfInBounds i true).getD j false)=aJ (λj=>l.getD j false) i:=by
    funext j
    unfold aJ;cases hx:(l.setIfInBounds i true).getD j false with
    |true=>rcases(hgd j).1 hx with h|h<;>simp[h]
    |false=>
     have h1:¬(l.getD j false=true∨j=i):=λh=>by rw[(hgd j).2 h]at hx;cases hx
     have h2:l.getD j false=false:=by cases h:l.getD j false with|false=>rfl|true=>exact absurd (.inl h) h1
     have h3:(j==i)=false:=by simp;exact λh=>h1 (.inr h)
     simp only[h2,h3,Bool.or_false]
   have hmay:kT ops (λj=>l.getD j false) i:=⟨hli',λj hj=>hdeps j hj,λj hj=>by
    show l.getD j false=false
    cases hlj:l.getD j false with
    |false=>rfl
    |true=>have:=hcl j hlj i hj;rw[hli']at this;cases this⟩
   obtain⟨_,o',ho',hg⟩:=hall i (Nat.zero_le _) (by omega);rw[ho]at ho';cases ho';unfold wpOpIn;simp only[ho];rw[hwant];rcases hg with⟨hw,hst⟩|⟨hw,hdg,hab,hkeep,hv⟩
   ·rw[if_pos (hw x)];refine qO hro hns (by rw[hS.size,Cb,hA.size]) hev (hst _ x w hmay hW) λu w' hw'=>?_;by_cases hdg:∃g∈gl,o.dst=some g
    ·obtain⟨g,hgl,hdg⟩:=hdg;have hw':=hw'.1 g hgl hdg;refine ih _ _ (uH x g u) _ hl2 hcount hcl2 (hS2 u λh=>absurd hdg (h g hgl)) (λk hk=>?_) (by rw[hset];exact hw');rw[hdg];simp only[Act.put];by_cases e:k=g
     ·subst e;have hlt:k<a.tmps.size:=by rw[hS.size];exact hgs k hk
      rw[Array.getElem?_setIfInBounds_self_of_lt hlt];simp[uH]
     ·rw[aA (Ne.symm e),hx k hk];simp[uH,e]
    ·have hdg':∀g∈gl,o.dst≠some g:=λg hg e=>hdg ⟨g,hg,e⟩;obtain⟨rfl,hw2⟩:=hw'.2 hdg';refine ih _ _ x _ hl2 hcount hcl2 (hS2 _ λ_=>rfl) (λk hk=>?_) (by rw[hset];exact hw2);cases hd:o.dst with
     |none=>exact hx k hk
     |some d=>
      simp only[Act.put];rw[aA (λe=>hdg' k hk (by rw[hd,e]))];exact hx k hk
   ·rw[if_neg (by rw[hw x];simp)];refine⟨λf hf=>hab x w f (by rw[← hf];exact(about_congr o w hev).symm),ih _ _ x _ hl2 hcount hcl2 (hS2 _ λ_=>hv.symm) (λk hk=>?_) (by rw[hset];exact hkeep _ x w hmay hW)⟩;cases hd:o.dst with
    |none=>exact hx k hk
    |some d=>
     simp only[Act.put];rw[aA (λe=>hdg k hk (by rw[hd,e]))];exact hx k hk
 refine key ops.size (Array.replicate ops.size false) a₀ x₀ _ (by simp) (by have:=List.count_le_length (a:=false) (l:=(Array.replicate ops.size false).toList);simp at this ⊢) (λj hj=>?_) ⟨rfl,rfl,λ_ _ _=>rfl,λj k _ hj=>?_⟩ hg0 ?_
 ·rw[aB,Array.getElem?_replicate]at hj;split at hj<;>simp at hj
 ·rw[aB,Array.getElem?_replicate]at hj;split at hj<;>simp at hj
 ·have:(λj=>(Array.replicate ops.size false).getD j false)=λ_=>false:=by
   funext m
   rw[aB,Array.getElem?_replicate];split<;>rfl
  rw[this];exact h0
section
variable {W:Wm} {gl:List Tmp} {i:Nat} {rest:List Nat} {a:Act} {R:Act→Prop} {o:Oper}
theorem LK{u:Tmp→Value}(hu:∀g∈gl,a.tmps[g]?=some (u g)):Act.bK a gl u=a:=by
 have ht:(Act.bK a gl u).tmps=a.tmps:=by
  apply Array.ext_getElem?;intro k;by_cases h:k∈gl
  ·rw[Ec h (Array.getElem?_eq_some_iff.1 (hu k h)).1,hu k h]
  ·exact vS h
 obtain⟨t,d⟩:=a;simp only[Act.bK]at ht ⊢;rw[ht]
theorem dX{u0:Tmp→Value}(ho:ops[i]?=some o)(hw:∀x,Region.wanted o (yielded ops (Act.bK a gl x).tmps)=true)(hd:∀g∈gl,o.dst≠some g)(hu:∀g∈gl,a.tmps[g]?=some (u0 g))
  (hr:∃af:(Tmp→Value)→Act,(∀D x w,kT ops D i→W D x w→∀K Q,(∀w',W (aJ D i) x w'→K (af x) w')→o.wpIn F n P (Act.bK a gl x) w K Q)∧∃v,(∀x,af x=(Act.bK a gl x).put o.dst v)∧oG F n P ops W gl rest (af u0) R):oG F n P ops W gl (i::rest) a R:=by
 obtain⟨af,hs,v,e,hr⟩:=hr;refine⟨o,ho,.inl ⟨hw,v,af u0,by rw[e,LK hu],λD x w hm hW=>hs D x w hm hW _ _ λw' hw'=>⟨v,e x,λg hg h=>absurd h (hd g hg),λ_=>⟨rfl,hw'⟩⟩,hr⟩⟩
theorem jB(ho:ops[i]?=some o)(hw:∀x,Region.wanted o (yielded ops (Act.bK a gl x).tmps)=true)(hd:o.dst=none)
  (hs:∀D x w,kT ops D i→W D x w→∀K Q,(∀w',W (aJ D i) x w'→K (Act.bK a gl x) w')→o.wpIn F n P (Act.bK a gl x) w K Q) (hr:oG F n P ops W gl rest a R):oG F n P ops W gl (i::rest) a R:=by
 refine⟨o,ho,.inl ⟨hw,undef,a,by rw[hd];rfl,λD x w hm hW=>hs D x w hm hW _ _ λw' hw'=>⟨undef,by rw[hd];rfl,λg _ h=>by(rw[hd]at h;cases h),λ_=>⟨rfl,hw'⟩⟩,hr⟩⟩
theorem iI{u0:Value}(g:Tmp)(hgl:g∈gl)(ho:ops[i]?=some o)(hw:∀x,Region.wanted o (yielded ops (Act.bK a gl x).tmps)=true)(hd:o.dst=some g)(hu:a.tmps[g]?=some u0)
  (hs:∀D x w,kT ops D i→W D x w→∀K Q,(∀u w',W (aJ D i) (uH x g u) w'→K ((Act.bK a gl x).put (some g) u) w')→o.wpIn F n P (Act.bK a gl x) w K Q) (hr:oG F n P ops W gl rest a R):oG F n P ops W gl (i::rest) a R:=by
 refine⟨o,ho,.inl ⟨hw,u0,a,?_,λD x w hm hW=>hs D x w hm hW _ _ λu w' hw'=>⟨u,by rw[hd],λk _ h=>by(rw[hd]at h;cases h;exact hw'),λh=>absurd hd (h g hgl)⟩,hr⟩⟩;rw[hd];obtain⟨t,d⟩:=a;simp only[Act.put]
 congr 1
 apply Array.ext_getElem?;intro k;by_cases h:g=k
 ·subst h;rw[Array.getElem?_setIfInBounds_self_of_lt (Array.getElem?_eq_some_iff.1 hu).1];exact hu
 ·rw[aA h]
theorem Kw(ho:ops[i]?=some o)(hw:∀x,Region.wanted o (yielded ops (Act.bK a gl x).tmps)=false)(hd:∀g∈gl,o.dst≠some g)(hab:∀x w f,o.about P w (Act.bK a gl x).eval=some f→F.fn f)
  (hk:∀D x w,kT ops D i→W D x w→W (aJ D i) x w) (hr:oG F n P ops W gl rest (a.put o.dst undef) R):oG F n P ops W gl (i::rest) a R:=⟨o,ho,.inr ⟨hw,hd,hab,hk,hr⟩⟩
end
end
end Go.Proofs.YtnkejaohnhpbpaaGreatDoor.Lift
end
section
namespace Go.Proofs.YtnkejaohnhpbpaaGreatDoor
open Go Go.RowKit Lift
structure Ix where
 i1:Nat
 i2:Nat
 i3:Nat
 i4:Nat
 i5:Nat
 s1:Tmp
 s2:Tmp
 s3:Tmp
 s4:Tmp
def Ix.ok(ix:Ix):Bool:=decide [ix.i1,ix.i2,ix.i3,ix.i4,ix.i5].Nodup&&decide [ix.s1,ix.s2,ix.s3,ix.s4].Nodup
structure WAA (ix:Ix) (w0:World) (BO:Nat) (xs:List dS) (m:dS) (D:Nat→Bool) (x:Tmp→Value) (w:World):Prop where
 fin:D ix.i5=true→∃w1,Below w0.heap.size w0 w1∧w1.ownsRow w0.heap.size 56 5 (x ix.s4) (xs.length+1) (fG (xs++[m]))∧w=w1.setCell ⟨BO,3,none⟩ (x ix.s4)
 bel:D ix.i5=false→Below w0.heap.size w0 w
 o1:D ix.i5=false→D ix.i1=true→D ix.i2=false→w.ownsRow w0.heap.size 56 5 (x ix.s1) 0 (fG [])
 o2:D ix.i5=false→D ix.i2=true→D ix.i4=false→w.ownsRow w0.heap.size 56 5 (x ix.s2) xs.length (fG xs)
 o3:D ix.i5=false→D ix.i3=true→D ix.i4=false→w.ownsRow w0.heap.size 56 5 (x ix.s3) 1 (fG [m])
 o4:D ix.i5=false→D ix.i4=true→w.ownsRow w0.heap.size 56 5 (x ix.s4) (xs.length+1) (fG (xs++[m]))
 ne:D ix.i5=false→D ix.i1=true→D ix.i2=false→D ix.i3=true→D ix.i4=false→(x ix.s1).ownBlock≠(x ix.s3).ownBlock∨(x ix.s3).ownBlock=none
 cl2:D ix.i2=true→D ix.i1=true
 cl4:D ix.i4=true→D ix.i2=true∧D ix.i3=true
theorem nof{p:Bool}{α:Prop}(h:p=false)(q:p=true):α:=by rw[h]at q;cases q
section
variable {ix:Ix} {w0 w w':World} {BO:Nat} {xs:List dS} {m:dS} {D:Nat→Bool} {x:Tmp→Value}
theorem WAA.start:WAA ix w0 BO xs m (λ_=>false) (λ_=>undef) { w0 with drawn:=w0.drawn+1 }:=
 ⟨λh=>by(cases h),λ_=>⟨rfl,rfl,rfl,ay _,λ_ _=>rfl⟩,λ_ h=>by(cases h),λ_ h=>by(cases h),λ_ h=>by(cases h),λ_ h=>by(cases h),λ_ h=>by(cases h),λh=>by(cases h),λh=>by(cases h)⟩
theorem fM{D:Nat→Bool}{i k:Nat}(h:k≠i):aJ D i k=D k:=by simp[aJ,h]
theorem eF{D:Nat→Bool}{i:Nat}:aJ D i i=true:=by simp[aJ]
theorem JL{x:Tmp→Value}{g:Tmp}{u:Value}:uH x g u g=u:=by simp[uH]
theorem WAA.pure(h:WAA ix w0 BO xs m D x w){i:Nat}(hi:i∉[ix.i1,ix.i2,ix.i3,ix.i4,ix.i5]):WAA ix w0 BO xs m (aJ D i) x w:=by
 simp only[List.mem_cons,List.not_mem_nil,or_false,not_or]at hi;obtain⟨h1,h2,h3,h4,h5⟩:=hi;have e1:=fM (D:=D) (Ne.symm h1);have e2:=fM (D:=D) (Ne.symm h2);have e3:=fM (D:=D) (Ne.symm h3);have e4:=fM (D:=D) (Ne.symm h4);have e5:=fM (D:=D) (Ne.symm h5);exact⟨by rw[e5];exact h.fin,by rw[e5];exact h.bel,by rw[e5,e1,e2];exact h.o1,by rw[e5,e2,e4];exact h.o2,by rw[e5,e3,e4];exact h.o3,by rw[e5,e4];exact h.o4,by rw[e5,e1,e2,e3,e4];exact h.ne,by rw[e2,e1];exact h.cl2,by rw[e4,e2,e3];exact h.cl4⟩
section
variable (hok:ix.ok=true)
include hok
theorem Ix.ok.to:(ix.i1≠ix.i2∧ix.i1≠ix.i3∧ix.i1≠ix.i4∧ix.i1≠ix.i5)∧(ix.i2≠ix.i3∧ix.i2≠ix.i4∧ix.i2≠ix.i5)∧(ix.i3≠ix.i4∧ix.i3≠ix.i5)∧ix.i4≠ix.i5∧(ix.s1≠ix.s2∧ix.s1≠ix.s3∧ix.s1≠ix.s4)∧(ix.s2≠ix.s3∧ix.s2≠ix.s4)∧ix.s3≠ix.s4:=by
 unfold Ix.ok at hok;simp only[Bool.and_eq_true,decide_eq_true_eq,List.nodup_cons,List.mem_cons,List.not_mem_nil,or_false,not_or,not_false_eq_true,List.nodup_nil,and_true]at hok;obtain⟨⟨⟨a1,a2,a3,a4⟩,⟨b1,b2,b3⟩,⟨c1,c2⟩,d1⟩,⟨s1,s2,s3⟩,⟨t1,t2⟩,u1⟩:=hok;exact⟨⟨a1,a2,a3,a4⟩,⟨b1,b2,b3⟩,⟨c1,c2⟩,d1,⟨s1,s2,s3⟩,⟨t1,t2⟩,u1⟩
theorem WAA.store(h:WAA ix w0 BO xs m D x w)(q4:D ix.i4=true)(d5:D ix.i5=false):WAA ix w0 BO xs m (aJ D ix.i5) x (w.setCell ⟨BO,3,none⟩ (x ix.s4)):=by
 obtain⟨⟨a1,a2,a3,a4⟩,⟨b1,b2,b3⟩,⟨c1,c2⟩,d1,-⟩:=Ix.ok.to hok;have e1:aJ D ix.i5 ix.i1=D ix.i1:=fM a4;have e2:aJ D ix.i5 ix.i2=D ix.i2:=fM b3;have e3:aJ D ix.i5 ix.i3=D ix.i3:=fM c2;have e4:aJ D ix.i5 ix.i4=D ix.i4:=fM d1;exact⟨λ_=>⟨w,h.bel d5,h.o4 d5 q4,rfl⟩,λq=>nof q eF,λq=>nof q eF,λq=>nof q eF,λq=>nof q eF,λq=>nof q eF,λq=>nof q eF,by rw[e2,e1];exact h.cl2,by rw[e4,e2,e3];exact h.cl4⟩
end
end
end Go.Proofs.YtnkejaohnhpbpaaGreatDoor
end
section
namespace Go.Proofs.YtnkejaohnhpbpaaGreatDoor
open Go Go.RowKit Lift
end Go.Proofs.YtnkejaohnhpbpaaGreatDoor
end
