/- A region that draws its order, walked once in the order of the text, where some slots (blocks' addresses) are not known ahead; with one that writes, or none. Nothing of the program stands here. -/
import Derived.OrdersIn
import Derived.Test.YtccjdkghgbbliaaGreatDoorA01
set_option linter.all false
namespace Go.Proofs.YtccjdkghgbbliaaGreatDoor
section
namespace Lift
set_option maxHeartbeats 1000000
set_option maxRecDepth 10000
open Go
def fM(ops:Array Oper)(j:Nat):Option Tmp:=(ops[j]?).bind (·.dst)
def fH(ops:Array Oper)(i j:Nat):Bool:=((ops[i]?).map λo=>o.after.toList.any λe=>Region.binds .any e&&e.on==j).getD false
def noSelect(o:Oper):Bool:=match o.op with
 |.select _ _=>false
 |_=>true
def textual(ops:Array Oper):Bool:=(List.range ops.size).all λi=>match ops[i]? with
 |none=>false
 |some o=>noSelect o&&(o.after.all λe=>!Region.binds .any e||decide (e.on<i))&&
   ((o.looksAt ops).all λt=>(List.range ops.size).all λj=>!(fM ops j==some t)||j==i||fH ops i j||fH ops j i)&&
   ((List.range ops.size).all λj=>j==i||o.dst.isNone||!(fM ops j==o.dst))
def aX(D:Nat→Bool)(i:Nat):Nat→Bool:=λj=>D j||j==i
def qK(ops:Array Oper)(D:Nat→Bool)(i:Nat):Prop:=D i=false∧(∀j,fH ops i j=true→D j=true)∧(∀j,fH ops j i=true→D j=false)
def Act.bF(a:Act)(gl:List Tmp)(x:Tmp→Value):Act:={ a with tmps:=gl.foldl (λt g=>t.setIfInBounds g (x g)) a.tmps }
def iq(x:Tmp→Value)(g:Tmp)(u:Value):Tmp→Value:=λt=>if t=g then u else x t
abbrev Wm:=(Nat→Bool)→(Tmp→Value)→World→Prop
theorem Ak(x:Tmp→Value):∀(gl:List Tmp) (t:Array Value),(gl.foldl (λt g=>t.setIfInBounds g (x g)) t).size=t.size
 | [],_=>rfl
 |g::gl,t=>by rw[List.foldl_cons,Ak x gl];simp
theorem xB(x:Tmp→Value){k:Tmp}:∀(gl:List Tmp) (t:Array Value),k∉gl→(gl.foldl (λt g=>t.setIfInBounds g (x g)) t)[k]?=t[k]?
 | [],_,_=>rfl
 |g::gl,t,h=>by
  rw[List.foldl_cons,xB x gl _ λq=>h (List.mem_cons_of_mem _ q),aA λe=>h (by rw[e];exact List.mem_cons_self ..)]
theorem IV(x:Tmp→Value){k:Tmp}:∀(gl:List Tmp) (t:Array Value),k∈gl→k<t.size→(gl.foldl (λt g=>t.setIfInBounds g (x g)) t)[k]?=some (x k)
 | [],_,h,_=>by cases h
 |g::gl,t,h,hs=>by
  rw[List.foldl_cons];by_cases hk:k∈gl
  ·exact IV x gl _ hk (by simpa using hs)
  ·rw[xB x gl _ hk];rcases List.mem_cons.1 h with rfl|h
   ·simp[hs]
   ·exact absurd h hk
section
variable {a:Act} {gl:List Tmp} {x:Tmp→Value}
theorem EU:(Act.bF a gl x).tmps.size=a.tmps.size:=Ak x gl _
theorem wS{k:Tmp}(h:k∉gl):(Act.bF a gl x).tmps[k]?=a.tmps[k]?:=xB x gl _ h
theorem Hf{k:Tmp}(h:k∈gl)(hs:k<a.tmps.size):(Act.bF a gl x).tmps[k]?=some (x k):=IV x gl _ h hs
end
section
variable {F:Fence} {n:Nat} {P:Program} {ops:Array Oper} {Q:Exit→Act→World→Prop}
theorem mJ{o:Oper}{a₁ a₂:Act}{w:World}{T:Value→World→Prop}{K:Act→World→Prop}(hro:F.round=none)(hs:noSelect o=true)(hsz:a₂.tmps.size=a₁.tmps.size)
  (he:∀x∈o.op.operands,a₂.eval x=a₁.eval x) (h:o.wpIn F n P a₁ w (λa' w'=>∃u,a'=a₁.put o.dst u∧T u w') (λ_ _ _=>False)) (hK:∀u w',T u w'→K (a₂.put o.dst u) w'):o.wpIn F n P a₂ w K Q:=by
 unfold Oper.wpIn at h ⊢;obtain⟨h1,h2⟩:=h;have hab:o.about P w a₂.eval=o.about P w a₁.eval:=about_congr o w he;have hex:execOp a₂.eval o=execOp a₁.eval o:=execOp_congr o (λcs b e=>by simp[noSelect,e]at hs) he;rw[hro,Oper.semAt_none]at h2;rw[hro,Oper.semAt_none,hab,hex];refine⟨h1,?_⟩;have key:∀u w',(∃v,a₁.put o.dst u=a₁.put o.dst v∧T v w')→K (a₂.put o.dst u) w':=by
  rintro u w' ⟨v,e,ht⟩;have:a₂.put o.dst u=a₂.put o.dst v:=by
   cases hd:o.dst with
   |none=>rfl
   |some d=>
    rw[hd]at e;by_cases hlt:d<a₁.tmps.size
    ·have e2:(a₁.put (some d) u).tmps[d]?=(a₁.put (some d) v).tmps[d]?:=by rw[e]
     simp[Act.put,hlt]at e2;rw[e2]
    ·have hle:a₂.tmps.size≤d:=by rw[hsz];exact Nat.le_of_not_lt hlt
     simp only[Act.put];rw[Array.setIfInBounds_eq_of_size_le hle,Array.setIfInBounds_eq_of_size_le hle]
  rw[this];exact hK v w' ht
 revert h2
 cases(execOp a₁.eval o).run P w with
 |ok x w'=>
  cases x with
  |value u=>exact λh=>key u w' h
  |skip=>exact λh=>key undef w' h
  |enter f args=>
   rintro⟨hn,hc⟩;exact⟨hn,hc.mono λe w'' he=>by
    cases e with
    |returned u=>exact key u w'' he
    |panicked ch=>exact he.elim
    |outgrown=>obtain⟨_,_,x⟩:=he;exact x.elim⟩
  |row r args=>rintro⟨hn,hc⟩;exact⟨hn,hc.mono λu w'' he=>key u w'' he⟩
  |round l f t x y=>
   rintro⟨hn,hc⟩;exact⟨hn,hc.mono λe w'' he=>by
    cases e with
    |returned u=>exact key u w'' he
    |panicked ch=>exact he.elim
    |outgrown=>obtain⟨_,_,x⟩:=he;exact x.elim⟩
  |defer d=>
   rintro⟨v,e,_⟩;have:=congrArg (λa=>a.defers.length) e;cases hd:o.dst<;>simp[Act.put,hd]at this
  |_=>exact λh=>h.elim
 |halt x w'=>cases x<;>exact λh=>h.elim
theorem Ed{i j:Nat}{o:Oper}(ho:ops[i]?=some o)(h:fH ops i j=true):∃e∈o.after,Region.binds .any e=true∧e.on=j:=by
 simp only[fH,ho,Option.map_some,Option.getD_some,List.any_eq_true,Array.mem_toList_iff,Bool.and_eq_true,beq_iff_eq]at h;obtain⟨e,he,h1,h2⟩:=h;exact⟨e,he,h1,h2⟩
theorem Ad:∀(l:List Bool) (i:Nat),l[i]?=some false→(l.set i true).count false+1=l.count false
 | [],i,h=>by simp at h
 |b::l,0,h=>by
  simp at h;subst h;simp
 |b::l,i+1,h=>by
  have:=Ad l i (by simpa using h);simp only[au,List.count_cons];omega
theorem vF{i:Nat}{l:Array Bool}:i∈Region.ready .any ops l↔i<ops.size∧l.getD i true=false∧∀j,fH ops i j=true→l.getD j false=true:=by
 unfold Region.ready;rw[List.mem_filter,List.mem_range,Bool.and_eq_true];constructor
 ·rintro⟨h1,h2,h3⟩;refine⟨h1,by simpa using h2,λj hj=>?_⟩;have ho:ops[i]?=some ops[i]:=Array.getElem?_eq_getElem h1;obtain⟨e,he,hb,rfl⟩:=Ed ho hj;simp only[ho,Option.map_some,Option.getD_some,Array.all_eq_true_iff_forall_mem]at h3;have:=h3 e he;simpa[hb]using this
 ·rintro⟨h1,h2,h3⟩;refine⟨h1,by simpa using h2,?_⟩;have ho:ops[i]?=some ops[i]:=Array.getElem?_eq_getElem h1;simp only[ho,Option.map_some,Option.getD_some,Array.all_eq_true_iff_forall_mem];intro e he;cases hb:Region.binds .any e with
  |false=>simp
  |true=>
   have:=h3 e.on (by
    simp only[fH,ho,Option.map_some,Option.getD_some,List.any_eq_true,Array.mem_toList_iff,Bool.and_eq_true,beq_iff_eq];exact⟨e,he,hb,rfl⟩)
   simpa using this
variable (F n P ops)in
def StepM(W:Wm)(gl:List Tmp)(i:Nat)(o:Oper)(a:Act)(v:Value):Prop:=∀D x w,qK ops D i→W D x w→
 o.wpIn F n P (Act.bF a gl x) w (λa'' w'=>∃u,a''=(Act.bF a gl x).put o.dst u∧((∀g∈gl,o.dst=some g→W (aX D i) (iq x g u) w')∧((∀g∈gl,o.dst≠some g)→u=v∧W (aX D i) x w'))) (λ_ _ _=>False)
variable (F n P ops)in
def qp(W:Wm)(gl:List Tmp):List Nat→Act→(Act→Prop)→Prop
 | [],a,R=>R a
 |i::rest,a,R=>∃o,ops[i]?=some o∧
   (((∀x,Region.wanted o (yielded ops (Act.bF a gl x).tmps)=true)∧∃v a',a'=a.put o.dst v∧StepM F n P ops W gl i o a v∧qp W gl rest a' R)∨
    ((∀x,Region.wanted o (yielded ops (Act.bF a gl x).tmps)=false)∧(∀g∈gl,o.dst≠some g)∧(∀x w f,o.about P w (Act.bF a gl x).eval=some f→F.fn f)∧(∀D x w,qK ops D i→W D x w→W (aX D i) x w)∧qp W gl rest (a.put o.dst undef) R))
variable (F n P ops)in
def GoodM(W:Wm)(gl:List Tmp)(i:Nat)(a:Act)(v:Value):Prop:=∃o,ops[i]?=some o∧
 (((∀x,Region.wanted o (yielded ops (Act.bF a gl x).tmps)=true)∧StepM F n P ops W gl i o a v)∨
  ((∀x,Region.wanted o (yielded ops (Act.bF a gl x).tmps)=false)∧(∀g∈gl,o.dst≠some g)∧(∀x w f,o.about P w (Act.bF a gl x).eval=some f→F.fn f)∧(∀D x w,qK ops D i→W D x w→W (aX D i) x w)∧v=undef))
theorem Ei{W:Wm}{gl:List Tmp}{R:Act→Prop}:∀(k s:Nat) (a:Act),qp F n P ops W gl (List.range' s k) a R→
  ∃(vals:Nat→Value) (acts:Nat→Act),acts s=a∧(∀i,s≤i→i<s+k→acts (i+1)=(acts i).put (fM ops i) (vals i)∧GoodM F n P ops W gl i (acts i) (vals i))∧R (acts (s+k)):=by
 intro k
 induction k with
 |zero=>intro s a h;exact⟨λ_=>undef,λ_=>a,rfl,λi h1 h2=>by omega,h⟩
 |succ k ih=>
  intro s a h;rw[List.range'_succ]at h;obtain⟨o,ho,h⟩:=h;have hd:fM ops s=o.dst:=by simp[fM,ho]
  have:∃v,GoodM F n P ops W gl s a v∧qp F n P ops W gl (List.range' (s+1) k) (a.put o.dst v) R:=by
   rcases h with⟨hw,v,a',rfl,h1,h2⟩|⟨hw,h0,h1,h3,h2⟩
   ·exact⟨v,⟨o,ho,.inl ⟨hw,h1⟩⟩,h2⟩
   ·exact⟨undef,⟨o,ho,.inr ⟨hw,h0,h1,h3,rfl⟩⟩,h2⟩
  obtain⟨v,hg,h2⟩:=this;obtain⟨vals,acts,e,hall,hR⟩:=ih (s+1) _ h2;refine⟨λj=>if j=s then v else vals j,λj=>if j=s then a else acts j,by simp,λi h1 h2=>?_,?_⟩
  ·by_cases hi:i=s
   ·subst hi;simp only[if_pos];rw[if_neg (by omega),e,hd];exact⟨rfl,hg⟩
   ·simp only[if_neg hi];rw[if_neg (by omega)];exact hall i (by omega) (by omega)
  ·show R (if s+(k+1)=s then a else acts (s+(k+1)))
   rw[if_neg (by omega),show s+(k+1)=s+1+k by omega];exact hR
structure jB (ops:Array Oper) (vals:Nat→Value) (a₀:Act) (gl:List Tmp) (D:Nat→Prop) (a:Act):Prop where
 size:a.tmps.size=a₀.tmps.size
 defers:a.defers=a₀.defers
 off:∀k:Nat,k∉gl→(∀j,D j→fM ops j≠some k)→a.tmps[k]?=a₀.tmps[k]?
 on:∀(j k:Nat),k∉gl→D j→fM ops j=some k→k<a₀.tmps.size→a.tmps[k]?=some (vals j)
section
variable {vals:Nat→Value} {a₀ a:Act} {gl:List Tmp} {D:Nat→Prop}
theorem jB.put(h:jB ops vals a₀ gl D a){i:Nat}(hn:∀j,D j→∀k,fM ops i=some k→fM ops j≠some k){u:Value}(hu:(∀g∈gl,fM ops i≠some g)→u=vals i):jB ops vals a₀ gl (λj=>D j∨j=i) (a.put (fM ops i) u):=by
 cases hd:fM ops i with
 |none=>
  refine⟨h.size,h.defers,λk hkg hk=>h.off k hkg λj hj=>hk j (.inl hj),λj k hkg hj hjk hlt=>?_⟩;rcases hj with hj|rfl
  ·exact h.on j k hkg hj hjk hlt
  ·rw[hd]at hjk;cases hjk
 |some d=>
  refine⟨by simpa[Act.put]using h.size,h.defers,λk hkg hk=>?_,λj k hkg hj hjk hlt=>?_⟩
  ·have hne:d≠k:=λe=>hk i (.inr rfl) (by rw[hd,e]);simp only[Act.put];rw[aA hne];exact h.off k hkg λj hj=>hk j (.inl hj)
  ·by_cases hji:j=i
   ·subst hji;rw[hd]at hjk;cases hjk;rw[hu (λg hg e=>hkg (by rw[hd]at e;rw[Option.some.inj e];exact hg))];simp[Act.put,h.size,hlt]
   ·have hj':D j:=hj.resolve_right hji;have hne:d≠k:=λe=>hn j hj' d hd (by rw[hjk,e]);simp only[Act.put];rw[aA hne];exact h.on j k hkg hj' hjk hlt
theorem jB.unique{a':Act}(h:jB ops vals a₀ gl D a)(h':jB ops vals a₀ gl D a')(hg:∀g∈gl,a.tmps[g]?=a'.tmps[g]?):a=a':=by
 have ht:a.tmps=a'.tmps:=by
  apply Array.ext_getElem?;intro k;by_cases hkg:k∈gl
  ·exact hg k hkg
  by_cases hk:∃j,D j∧fM ops j=some k
  ·obtain⟨j,hj,hd⟩:=hk;by_cases hlt:k<a₀.tmps.size
   ·rw[h.on j k hkg hj hd hlt,h'.on j k hkg hj hd hlt]
   ·rw[Array.getElem?_eq_none (by rw[h.size];omega),Array.getElem?_eq_none (by rw[h'.size];omega)]
  ·have hk':∀j,D j→fM ops j≠some k:=λj hj hd=>hk ⟨j,hj,hd⟩;rw[h.off k hkg hk',h'.off k hkg hk']
 have hd:=h.defers.trans h'.defers.symm;obtain⟨t,d⟩:=a;obtain⟨t',d'⟩:=a';simp only at ht hd;rw[ht,hd]
theorem jB.bF(h:jB ops vals a₀ gl D a)(x:Tmp→Value):jB ops vals a₀ gl D (Act.bF a gl x):=
 ⟨EU.trans h.size,h.defers,λk hkg hk=>(wS hkg).trans (h.off k hkg hk),λj k hkg hj hd hlt=>(wS hkg).trans (h.on j k hkg hj hd hlt)⟩
end
theorem xO{σ:Type}(ht:textual ops=true){vals:Nat→Value}{acts:Nat→Act}{gl:List Tmp}{x₀:Tmp→Value}{s₀:σ}(W:(Nat→Bool)→(Tmp→Value)→σ→Prop)(G:Nat→Array Bool→Act→σ→Prop)(Qf:Act→σ→Prop)(Op:Nat→(Act→σ→Prop)→Act→σ→Prop)
  (hall:∀i,i<ops.size→acts (i+1)=(acts i).put (fM ops i) (vals i))
  (hG0:∀l a s,Region.ready .any ops l=[]→Qf a s→G 0 l a s) (hG:∀fuel l a s,(Region.ready .any ops l=[]→Qf a s)→(∀i∈Region.ready .any ops l,Op i (G fuel (l.setIfInBounds i true)) a s)→G (fuel+1) l a s)
  (hOp:∀i o,ops[i]?=some o→noSelect o=true→∀D x s a K,qK ops D i→W D x s→a.tmps.size=(Act.bF (acts i) gl x).tmps.size→(∀y∈o.op.operands,a.eval y=(Act.bF (acts i) gl x).eval y)→Region.wanted o (yielded ops a.tmps)=Region.wanted o (yielded ops (Act.bF (acts i) gl x).tmps)→
   (∀u s',((∀g∈gl,o.dst=some g→W (aX D i) (iq x g u) s')∧((∀g∈gl,o.dst≠some g)→u=vals i∧W (aX D i) x s'))→K (a.put o.dst u) s')→Op i K a s)
  (hQ:∀x s,W (λj=>decide (j<ops.size)) x s→Qf (Act.bF (acts ops.size) gl x) s) (hg0:∀g∈gl,(acts 0).tmps[g]?=some (x₀ g)) (h0:W (λ_=>false) x₀ s₀):G ops.size (Array.replicate ops.size false) (acts 0) s₀:=by
 obtain⟨a₀,e0⟩:∃a,acts 0=a:=⟨_,rfl⟩
 rw[e0]at hg0 ⊢;have hgs:∀g∈gl,g<a₀.tmps.size:=λg hg=>(Array.getElem?_eq_some_iff.1 (hg0 g hg)).1
 have T:∀i,i<ops.size→∃o,ops[i]?=some o∧noSelect o=true∧(∀j,fH ops i j=true→j<i)∧(∀t∈o.looksAt ops,∀j,fM ops j=some t→j=i∨fH ops i j=true∨fH ops j i=true)∧
   (∀j d,fM ops i=some d→fM ops j=some d→j=i):=by
  intro i hi;have:=List.all_eq_true.1 ht i (List.mem_range.2 hi);have ho:ops[i]?=some ops[i]:=Array.getElem?_eq_getElem hi;simp only[ho,Bool.and_eq_true]at this;obtain⟨⟨⟨h1,h2⟩,h3⟩,h4⟩:=this;have lt_of:∀{j d},fM ops j=some d→j<ops.size:=λ{j d} hj=>by
   rcases Nat.lt_or_ge j ops.size with h|h
   ·exact h
   ·simp[fM,Array.getElem?_eq_none h]at hj
  refine⟨_,ho,h1,λj hj=>?_,λt htt j hj=>?_,λj d hd hj=>?_⟩
  ·obtain⟨e,he,hb,rfl⟩:=Ed ho hj;have:=(Array.all_eq_true_iff_forall_mem.1 h2) e he;simpa[hb]using this
  ·have:=List.all_eq_true.1 (List.all_eq_true.1 h3 t htt) j (List.mem_range.2 (lt_of hj));simp only[hj,beq_self_eq_true,Bool.not_true,Bool.false_or,Bool.or_eq_true,beq_iff_eq]at this;rcases this with(h|h)|h
   ·exact .inl h
   ·exact .inr (.inl h)
   ·exact .inr (.inr h)
  ·have hd':ops[i].dst=some d:=by simpa[fM,ho]using hd
   have:=List.all_eq_true.1 h4 j (List.mem_range.2 (lt_of hj));simp only[hj,hd',Option.isNone_some,Bool.or_false,beq_self_eq_true,Bool.not_true,beq_iff_eq,Bool.false_eq_true,or_false,Bool.or_eq_true]at this;exact this
 have hacts:∀i,i≤ops.size→jB ops vals a₀ gl (·<i) (acts i):=by
  intro i
  induction i with
  |zero=>intro _;rw[e0];exact⟨rfl,rfl,λ_ _ _=>rfl,λj k _ hj=>by omega⟩
  |succ i ih=>
   intro hi;rw[hall i (by omega)];have:=(ih (by omega)).put (i:=i) (u:=vals i) (λj hj k hk hjk=>by
    obtain⟨_,_,_,_,_,hu⟩:=T i (by omega);have:=hu j k hk hjk;omega) (λ_=>rfl)
   refine⟨this.size,this.defers,λk hkg hk=>this.off k hkg λj hj=>hk j (by omega),λj k hkg hj=>this.on j k hkg (by omega)⟩
 have key:∀(fuel:Nat) (l:Array Bool) (a:Act) (x:Tmp→Value) (s:σ),l.size=ops.size→l.toList.count false≤fuel→(∀j,l.getD j false=true→∀i,fH ops j i=true→l.getD i false=true)→
   jB ops vals a₀ gl (λj=>l.getD j false=true) a→(∀g∈gl,a.tmps[g]?=some (x g))→W (λj=>l.getD j false) x s→G fuel l a s:=by
  intro fuel;have finish:∀(l:Array Bool) (a:Act) (x:Tmp→Value) (s:σ),l.size=ops.size→jB ops vals a₀ gl (λj=>l.getD j false=true) a→(∀g∈gl,a.tmps[g]?=some (x g))→W (λj=>l.getD j false) x s→Region.ready .any ops l=[]→Qf a s:=by
   intro l a x s hl hS hx hW hr;have hdone:∀i,i<ops.size→l.getD i false=true:=by
    intro i
    induction i using Nat.strongRecOn with
    |_ i ih=>
     intro hi;cases hli:l.getD i false with
     |true=>rfl
     |false=>
      exfalso;have:i∈Region.ready .any ops l:=vF.2 ⟨hi,by simp[aH,hl,hi]at hli ⊢;exact hli,λj hj=>by
       obtain⟨_,_,_,h3,_⟩:=T i hi;have:=h3 j hj;exact ih j this (by omega)⟩
      rw[hr]at this;cases this
   have hlm:(λj=>l.getD j false)=λj=>decide (j<ops.size):=by
    funext m
    by_cases h:m<ops.size
    ·rw[hdone m h];simp[h]
    ·simp[aH,hl,h]
   rw[hlm]at hW;have hS2:jB ops vals a₀ gl (·<ops.size) a:=by
    have iff:∀j,l.getD j false=true↔j<ops.size:=λj=>⟨λh=>by
     rcases Nat.lt_or_ge j ops.size with h1|h1
     ·exact h1
     ·simp[aH,hl,h1]at h,hdone j⟩
    exact⟨hS.size,hS.defers,λk hkg hk=>hS.off k hkg λj hj=>hk j ((iff j).1 hj),λj k hkg hj=>hS.on j k hkg ((iff j).2 hj)⟩
   have hA:=hacts ops.size (ak _);rw[hS2.unique (hA.bF x) (λg hg=>by rw[hx g hg,Hf hg (by rw[hA.size];exact hgs g hg)])];exact hQ x s hW
  induction fuel with
  |zero=>
   intro l a x s hl hc hcl hS hx hW;have hnil:Region.ready .any ops l=[]:=by
    cases hr:Region.ready .any ops l with
    |nil=>rfl
    |cons y ys=>
     exfalso;have hy:y∈Region.ready .any ops l:=by rw[hr];simp
     obtain⟨h1,h2,_⟩:=vF.1 hy;have hxl:y<l.size:=by omega
     simp[aH,hxl]at h2;have h3:false∈l.toList:=by rw[← h2];exact Array.getElem_mem_toList hxl
     have:=List.count_pos_iff.2 h3;omega
   exact hG0 l a s hnil (finish l a x s hl hS hx hW hnil)
  |succ fuel ih=>
   intro l a x s hl hc hcl hS hx hW;refine hG fuel l a s (finish l a x s hl hS hx hW) λi hi=>?_;obtain⟨hlt,hli,S9⟩:=vF.1 hi;obtain⟨o,ho,hns,htop,hlook,Tm⟩:=T i hlt;have hil:i<l.size:=by omega
   have Lr:l.getD i false=false:=by simp[aH,hil]at hli ⊢;exact hli
   have hdi:fM ops i=o.dst:=by simp[fM,ho]
   have hA:=hacts i (by omega);have hAx:∀g∈gl,(Act.bF (acts i) gl x).tmps[g]?=some (x g):=λg hg=>Hf hg (by rw[hA.size];exact hgs g hg);have hAo:∀t,t∉gl→(Act.bF (acts i) gl x).tmps[t]?=(acts i).tmps[t]?:=λt Tj=>wS Tj;have hag:∀t∈o.looksAt ops,a.tmps[t]?=(Act.bF (acts i) gl x).tmps[t]?:=by
    intro t htt;by_cases Tj:t∈gl
    ·rw[hx t Tj,hAx t Tj]
    rw[hAo t Tj];by_cases hts:t<a₀.tmps.size
    ·by_cases hex:∃j,fM ops j=some t
     ·obtain⟨j,hj⟩:=hex;have only:∀j',fM ops j'=some t→j'=j:=λj' hj'=>by
       have hjlt:j<ops.size:=by
        rcases Nat.lt_or_ge j ops.size with h|h
        ·exact h
        ·simp[fM,Array.getElem?_eq_none h]at hj
       obtain⟨_,_,_,_,_,hu⟩:=T j hjlt;exact hu j' t hj hj'
      have base:l.getD j false=false→¬j<i→a.tmps[t]?=(acts i).tmps[t]?:=λh1 h2=>by
       rw[hS.off t Tj (λj' hj' hd=>by rw[only j' hd]at hj';rw[h1]at hj';cases hj'),hA.off t Tj (λj' hj' hd=>by rw[only j' hd]at hj';exact h2 hj')]
      rcases hlook t htt j hj with rfl|h|h
      ·exact base Lr (by omega)
      ·rw[hS.on j t Tj (S9 j h) hj hts,hA.on j t Tj (htop j h) hj hts]
      ·have hij:i<j:=by
        have hjlt:j<ops.size:=by
         rcases Nat.lt_or_ge j ops.size with h|h
         ·exact h
         ·simp[fM,Array.getElem?_eq_none h]at hj
        obtain⟨_,_,_,ht2,_⟩:=T j hjlt;exact ht2 i h
       refine base ?_ (by omega);cases hlj:l.getD j false with
       |false=>rfl
       |true=>have:=hcl j hlj i h;rw[Lr]at this;cases this
     ·rw[hS.off t Tj λj _ hd=>hex ⟨j,hd⟩,hA.off t Tj λj _ hd=>hex ⟨j,hd⟩]
    ·have hle:=Nat.le_of_not_lt hts;rw[Array.getElem?_eq_none (by rw[hS.size];exact hle),Array.getElem?_eq_none (by rw[hA.size];exact hle)]
   have hev:∀y∈o.op.operands,a.eval y=(Act.bF (acts i) gl x).eval y:=by
    intro y hy;cases y with
    |tmp t=>
     have:=hag t (List.mem_append_left _ (List.mem_filterMap.2 ⟨.tmp t,by simpa using hy,rfl⟩));simp[Act.eval,aH,this]
    |_=>rfl
   have hwant:Region.wanted o (yielded ops a.tmps)=Region.wanted o (yielded ops (Act.bF (acts i) gl x).tmps):=by
    unfold Region.wanted;cases hg:o.guard with
    |none=>rfl
    |some gw=>
     obtain⟨gd,want⟩:=gw;have hy:yielded ops a.tmps gd=yielded ops (Act.bF (acts i) gl x).tmps gd:=by
      unfold yielded;cases ht:(ops[gd]?).bind (·.dst)with
      |none=>rfl
      |some t=>
       have:=hag t (by simp[Oper.looksAt,hg,ht]);simp only[Option.bind_some];rw[this]
     simp only[hy]
   have hl2:(l.setIfInBounds i true).size=ops.size:=by simpa using hl
   have hgd:∀j,(l.setIfInBounds i true).getD j false=true↔(l.getD j false=true∨j=i):=by
    intro j;by_cases hji:i=j
    ·subst hji;simp[aH,hil]
    ·rw[aH,aA hji,← aH];exact⟨.inl,λh=>h.resolve_right (λe=>hji e.symm)⟩
   have hcount:(l.setIfInBounds i true).toList.count false≤fuel:=by
    have h2:l.toList[i]?=some false:=by
     simp[aH,hil]at Lr;simp[hil,Lr]
    have:=Ad l.toList i h2;rw[Array.toList_setIfInBounds];omega
   have hcl2:∀j,(l.setIfInBounds i true).getD j false=true→∀i',fH ops j i'=true→(l.setIfInBounds i true).getD i' false=true:=by
    intro j hj i' hb;rw[hgd]at hj ⊢;rcases hj with hj|rfl
    ·exact .inl (hcl j hj i' hb)
    ·exact .inl (S9 i' hb)
   have hS2:∀u,((∀g∈gl,o.dst≠some g)→u=vals i)→jB ops vals a₀ gl (λj=>(l.setIfInBounds i true).getD j false=true) (a.put o.dst u):=by
    intro u hu;have:=hS.put (i:=i) (u:=u) (λj hj k hk hjk=>by
     have:=Tm j k hk hjk;subst this;rw[Lr]at hj;cases hj) (by rw[hdi];exact hu)
    rw[hdi]at this;exact⟨this.size,this.defers,λk hkg hk=>this.off k hkg λj hj=>hk j ((hgd j).2 hj),λj k hkg hj=>this.on j k hkg ((hgd j).1 hj)⟩
   have hset:(λj=>(l.setIfInBounds i true).getD j false)=aX (λj=>l.getD j false) i:=by
    funext j
    unfold aX;cases hx:(l.setIfInBounds i true).getD j false with
    |true=>rcases(hgd j).1 hx with h|h<;>simp[h]
    |false=>
     have h1:¬(l.getD j false=true∨j=i):=λh=>by rw[(hgd j).2 h]at hx;cases hx
     have h2:l.getD j false=false:=by cases h:l.getD j false with|false=>rfl|true=>exact absurd (.inl h) h1
     have h3:(j==i)=false:=by simp;exact λh=>h1 (.inr h)
     simp only[h2,h3,Bool.or_false]
   have hmay:qK ops (λj=>l.getD j false) i:=⟨Lr,λj hj=>S9 j hj,λj hj=>by
    show l.getD j false=false
    cases hlj:l.getD j false with
    |false=>rfl
    |true=>have:=hcl j hlj i hj;rw[Lr]at this;cases this⟩
   refine hOp i o ho hns _ x s a _ hmay hW (by rw[hS.size,EU,hA.size]) hev hwant λu w' hw'=>?_;by_cases hdg:∃g∈gl,o.dst=some g
   ·obtain⟨g,hgl,hdg⟩:=hdg;have hw':=hw'.1 g hgl hdg;refine ih _ _ (iq x g u) _ hl2 hcount hcl2 (hS2 u λh=>absurd hdg (h g hgl)) (λk hk=>?_) (by rw[hset];exact hw');rw[hdg];simp only[Act.put];by_cases e:k=g
    ·subst e;have hlt:k<a.tmps.size:=by rw[hS.size];exact hgs k hk
     rw[Array.getElem?_setIfInBounds_self_of_lt hlt];simp[iq]
    ·rw[aA (Ne.symm e),hx k hk];simp[iq,e]
   ·have hdg':∀g∈gl,o.dst≠some g:=λg hg e=>hdg ⟨g,hg,e⟩;obtain⟨rfl,hw2⟩:=hw'.2 hdg';refine ih _ _ x _ hl2 hcount hcl2 (hS2 _ λ_=>rfl) (λk hk=>?_) (by rw[hset];exact hw2);cases hd:o.dst with
    |none=>exact hx k hk
    |some d=>
     simp only[Act.put];rw[aA (λe=>hdg' k hk (by rw[hd,e]))];exact hx k hk
 refine key ops.size (Array.replicate ops.size false) a₀ x₀ _ (by simp) (by have:=List.count_le_length (a:=false) (l:=(Array.replicate ops.size false).toList);simp at this ⊢) (λj hj=>?_) ⟨rfl,rfl,λ_ _ _=>rfl,λj k _ hj=>?_⟩ hg0 ?_
 ·rw[aH,Array.getElem?_replicate]at hj;split at hj<;>simp at hj
 ·rw[aH,Array.getElem?_replicate]at hj;split at hj<;>simp at hj
 ·have:(λj=>(Array.replicate ops.size false).getD j false)=λ_=>false:=by
   funext m
   rw[aH,Array.getElem?_replicate];split<;>rfl
  rw[this];exact h0
theorem dB{id:Nat}{a₀:Act}{w₀:World}(hro:F.round=none)(hm:P.follows .mixedOrders=true)(ht:textual ops=true)(W:Wm)(gl:List Tmp){x₀:Tmp→Value}(hg0:∀g∈gl,a₀.tmps[g]?=some (x₀ g))(h0:W (λ_=>false) x₀ { w₀ with drawn:=w₀.drawn+1 })
  (h:qp F n P ops W gl (List.range ops.size) a₀ (λa=>∀x w,W (λj=>decide (j<ops.size)) x w→Q .normal (Act.bF a gl x) w)):(Code.region id ops true).wpIn F n P Q a₀ w₀:=by
 rw[List.range_eq_range']at h;obtain⟨vals,acts,rfl,hall,hR⟩:=Ei ops.size 0 a₀ h;rw[Nat.zero_add]at hR;refine wpIn_region_any hm (xO ht W (wpAnyIn F n P .any ops Q) (Q .normal) (wpOpIn F n P ops Q) (λi hi=>(hall i (Nat.zero_le _) (by omega)).1) (λl a s h1 h2=>⟨h1,h2⟩) (λfuel l a s h1 h2=>⟨h1,h2⟩) (λi o ho hns D x w a K hmay hW hsz hev hwant hK=>?_) hR hg0 h0);have hi:i<ops.size:=(Array.getElem?_eq_some_iff.1 ho).1;obtain⟨_,o',ho',hg⟩:=hall i (Nat.zero_le _) (by omega);rw[ho]at ho';cases ho';unfold wpOpIn;simp only[ho];rw[hwant];rcases hg with⟨hw,hst⟩|⟨hw,hdg,hab,hkeep,hv⟩
 ·rw[if_pos (hw x)];exact mJ hro hns hsz hev (hst _ x w hmay hW) hK
 ·rw[if_neg (by rw[hw x];simp)];exact⟨λf hf=>hab x w f (by rw[← hf];exact(about_congr o w hev).symm),hK _ _ ⟨λg hg e=>absurd e (hdg g hg),λ_=>⟨hv.symm,hkeep _ x w hmay hW⟩⟩⟩
section
variable {W:Wm} {gl:List Tmp} {i:Nat} {rest:List Nat} {a:Act} {R:Act→Prop} {o:Oper}
theorem Qw{u:Tmp→Value}(hu:∀g∈gl,a.tmps[g]?=some (u g)):Act.bF a gl u=a:=by
 have ht:(Act.bF a gl u).tmps=a.tmps:=by
  apply Array.ext_getElem?;intro k;by_cases h:k∈gl
  ·rw[Hf h (Array.getElem?_eq_some_iff.1 (hu k h)).1,hu k h]
  ·exact wS h
 obtain⟨t,d⟩:=a;simp only[Act.bF]at ht ⊢;rw[ht]
theorem bT{u0:Tmp→Value}(ho:ops[i]?=some o)(hw:∀x,Region.wanted o (yielded ops (Act.bF a gl x).tmps)=true)(hd:∀g∈gl,o.dst≠some g)(hu:∀g∈gl,a.tmps[g]?=some (u0 g))
  (hr:∃af:(Tmp→Value)→Act,(∀D x w,qK ops D i→W D x w→∀K Q,(∀w',W (aX D i) x w'→K (af x) w')→o.wpIn F n P (Act.bF a gl x) w K Q)∧∃v,(∀x,af x=(Act.bF a gl x).put o.dst v)∧qp F n P ops W gl rest (af u0) R):qp F n P ops W gl (i::rest) a R:=by
 obtain⟨af,hs,v,e,hr⟩:=hr;refine⟨o,ho,.inl ⟨hw,v,af u0,by rw[e,Qw hu],λD x w hm hW=>hs D x w hm hW _ _ λw' hw'=>⟨v,e x,λg hg h=>absurd h (hd g hg),λ_=>⟨rfl,hw'⟩⟩,hr⟩⟩
theorem nY(ho:ops[i]?=some o)(hw:∀x,Region.wanted o (yielded ops (Act.bF a gl x).tmps)=true)(hd:o.dst=none)
  (hs:∀D x w,qK ops D i→W D x w→∀K Q,(∀w',W (aX D i) x w'→K (Act.bF a gl x) w')→o.wpIn F n P (Act.bF a gl x) w K Q) (hr:qp F n P ops W gl rest a R):qp F n P ops W gl (i::rest) a R:=by
 refine⟨o,ho,.inl ⟨hw,undef,a,by rw[hd];rfl,λD x w hm hW=>hs D x w hm hW _ _ λw' hw'=>⟨undef,by rw[hd];rfl,λg _ h=>by(rw[hd]at h;cases h),λ_=>⟨rfl,hw'⟩⟩,hr⟩⟩
theorem iK{u0:Value}(g:Tmp)(hgl:g∈gl)(ho:ops[i]?=some o)(hw:∀x,Region.wanted o (yielded ops (Act.bF a gl x).tmps)=true)(hd:o.dst=some g)(hu:a.tmps[g]?=some u0)
  (hs:∀D x w,qK ops D i→W D x w→∀K Q,(∀u w',W (aX D i) (iq x g u) w'→K ((Act.bF a gl x).put (some g) u) w')→o.wpIn F n P (Act.bF a gl x) w K Q) (hr:qp F n P ops W gl rest a R):qp F n P ops W gl (i::rest) a R:=by
 refine⟨o,ho,.inl ⟨hw,u0,a,?_,λD x w hm hW=>hs D x w hm hW _ _ λu w' hw'=>⟨u,by rw[hd],λk _ h=>by(rw[hd]at h;cases h;exact hw'),λh=>absurd hd (h g hgl)⟩,hr⟩⟩;rw[hd];obtain⟨t,d⟩:=a;simp only[Act.put]
 congr 1
 apply Array.ext_getElem?;intro k;by_cases h:g=k
 ·subst h;rw[Array.getElem?_setIfInBounds_self_of_lt (Array.getElem?_eq_some_iff.1 hu).1];exact hu
 ·rw[aA h]
theorem OO(ho:ops[i]?=some o)(hw:∀x,Region.wanted o (yielded ops (Act.bF a gl x).tmps)=false)(hd:∀g∈gl,o.dst≠some g)(hab:∀x w f,o.about P w (Act.bF a gl x).eval=some f→F.fn f)
  (hk:∀D x w,qK ops D i→W D x w→W (aX D i) x w) (hr:qp F n P ops W gl rest (a.put o.dst undef) R):qp F n P ops W gl (i::rest) a R:=⟨o,ho,.inr ⟨hw,hd,hab,hk,hr⟩⟩
theorem kN{R':Act→Prop}(hR:∀a,R a→R' a):∀(l:List Nat) (a:Act),qp F n P ops W gl l a R→qp F n P ops W gl l a R'
 | [],a,h=>hR a h
 |i::l,a,h=>by
  obtain⟨o,ho,h⟩:=h;refine⟨o,ho,?_⟩;rcases h with⟨hw,v,a',e,h1,h2⟩|⟨hw,h0,h1,h3,h2⟩
  ·exact .inl ⟨hw,v,a',e,h1,kN hR l a' h2⟩
  ·exact .inr ⟨hw,h0,h1,h3,kN hR l _ h2⟩
end
def Wst(W0 W1:World→Prop)(m:Nat):Wm:=λD _ w=>if D m=true then W1 w else W0 w
variable (F n P ops)in
def Det(W:Nat→Wm)(m:Nat)(l:List Nat)(a:Act)(R:Act→Prop):Prop:=qp F n P ops (W m) [] l a R
section
variable {W0 W1:World→Prop} {m i:Nat} {rest:List Nat} {a:Act} {R:Act→Prop} {o:Oper}
theorem CU{D:Nat→Bool}{x:Tmp→Value}{w:World}(hb:i≠m):Wst W0 W1 m (aX D i) x w=Wst W0 W1 m D x w:=by
 unfold Wst aX;rw[show(m==i)=false from beq_eq_false_iff_ne.2 (Ne.symm hb),Bool.or_false]
theorem xX{D:Nat→Bool}{x:Tmp→Value}{w:World}(h:D m=false):Wst W0 W1 m D x w=W0 w:=by unfold Wst;rw[h];rfl
theorem CV{D:Nat→Bool}{x:Tmp→Value}{w:World}:Wst W0 W0 m D x w=W0 w:=by unfold Wst;rw[ite_self]
theorem Ae(ho:ops[i]?=some o)(hw:Region.wanted o (yielded ops a.tmps)=true){a':Act}{v:Value}(e:a'=a.put o.dst v)
  (hs:∀D x w,qK ops D i→Wst W0 W1 m D x w→∀K Q,(∀w',Wst W0 W1 m (aX D i) x w'→K a' w')→o.wpIn F n P a w K Q) (hr:Det F n P ops (Wst W0 W1) m rest a' R):Det F n P ops (Wst W0 W1) m (i::rest) a R:=
 bT (u0:=λ_=>undef) ho (λ_=>hw) (λg hg=>by cases hg) (λg hg=>by cases hg) ⟨λ_=>a',hs,v,λ_=>e,hr⟩
theorem aS(ho:ops[i]?=some o)(hw:Region.wanted o (yielded ops a.tmps)=true)(hb:(i != m&&(fH ops m i||decide (ops.size≤m)))=true)(hm:m<ops.size∨W1=W0)
  (hr:∃a',(∀w,W0 w→∀K Q,(∀w',W0 w'→K a' w')→o.wpIn F n P a w K Q)∧∃v,a'=a.put o.dst v∧Det F n P ops (Wst W0 W1) m rest a' R):Det F n P ops (Wst W0 W1) m (i::rest) a R:=by
 obtain⟨a',hs,v,e,hr⟩:=hr;simp only[Bool.and_eq_true,bne_iff_ne,ne_eq,Bool.or_eq_true,decide_eq_true_eq]at hb;refine Ae ho hw e (λD x w hmay hW K Q hK=>?_) hr;rcases hm with hm|rfl
 ·have e1:=hmay.2.2 m (hb.2.resolve_right (by omega));rw[xX e1]at hW;exact hs w hW K Q λw' hw'=>hK w' (by rw[CU hb.1,xX e1];exact hw')
 ·rw[CV]at hW;exact hs w hW K Q λw' hw'=>hK w' (by rw[CV];exact hw')
theorem ig(ho:ops[i]?=some o)(hw:Region.wanted o (yielded ops a.tmps)=true)(hb:i=m)
  (hr:∃a',(∀w,W0 w→∀K Q,(∀w',W1 w'→K a' w')→o.wpIn F n P a w K Q)∧∃v,a'=a.put o.dst v∧Det F n P ops (Wst W0 W1) m rest a' R):Det F n P ops (Wst W0 W1) m (i::rest) a R:=by
 obtain⟨a',hs,v,e,hr⟩:=hr;subst hb;refine Ae ho hw e (λD x w hmay hW K Q hK=>?_) hr;rw[xX hmay.1]at hW;exact hs w hW K Q λw' hw'=>hK w' (by unfold Wst aX;simpa using hw')
theorem aI(ho:ops[i]?=some o)(hw:Region.wanted o (yielded ops a.tmps)=true)(hb:i≠m)
  (hr:∃a',(∀(T:World→Prop) w,T w→∀K Q,(∀w',T w'→K a' w')→o.wpIn F n P a w K Q)∧∃v,a'=a.put o.dst v∧Det F n P ops (Wst W0 W1) m rest a' R):Det F n P ops (Wst W0 W1) m (i::rest) a R:=by
 obtain⟨a',hs,v,e,hr⟩:=hr;exact Ae ho hw e (λD x w _ hW K Q hK=>hs (Wst W0 W1 m D x) w hW K Q λw' hw'=>hK w' (by rw[CU hb];exact hw')) hr
theorem IB(ho:ops[i]?=some o)(hw:Region.wanted o (yielded ops a.tmps)=false)(hb:i≠m)(hab:∀w f,o.about P w a.eval=some f→F.fn f)
  (hr:∃a',a'=a.put o.dst undef∧Det F n P ops (Wst W0 W1) m rest a' R):Det F n P ops (Wst W0 W1) m (i::rest) a R:=by
 obtain⟨a',rfl,hr⟩:=hr;exact OO ho (λ_=>hw) (λg hg=>by cases hg) (λ_=>hab) (λD x w _ hW=>by rw[CU hb];exact hW) hr
theorem cZ(ho:ops[i]?=some o)(hw:Region.wanted o (yielded ops a.tmps)=false)(hb:i≠m)(hab:∀w f,o.about P w a.eval=some f→F.fn f)(e:a.put o.dst undef=a)
  (hr:Det F n P ops (Wst W0 W1) m rest a R):Det F n P ops (Wst W0 W1) m (i::rest) a R:=IB ho hw hb hab ⟨a,e.symm,hr⟩
theorem cu{id:Nat}{a₀:Act}{w₀:World}(W0 W1:World→Prop)(m:Nat)(hro:F.round=none)(hm:P.follows .mixedOrders=true)(ht:(textual ops&&decide (m<ops.size))=true)(h0:∀d,W0 { w₀ with drawn:=d })
  (h:Det F n P ops (Wst W0 W1) m (List.range ops.size) a₀ (λa=>∀w,W1 w→Q .normal a w)):(Code.region id ops true).wpIn F n P Q a₀ w₀:=by
 rw[Bool.and_eq_true,decide_eq_true_eq]at ht;exact dB hro hm ht.1 (Wst W0 W1 m) [] (x₀:=λ_=>undef) (λg hg=>by cases hg) (h0 _) (kN (λa h x w hw=>h w (by unfold Wst at hw;simpa[ht.2]using hw)) _ _ h)
theorem bJ{id:Nat}{a₀:Act}{w₀:World}(W0:World→Prop)(hro:F.round=none)(hm:P.follows .mixedOrders=true)(ht:textual ops=true)(h0:∀d,W0 { w₀ with drawn:=d })
  (h:Det F n P ops (Wst W0 W0) ops.size (List.range ops.size) a₀ (λa=>∀w,W0 w→Q .normal a w)):(Code.region id ops true).wpIn F n P Q a₀ w₀:=
 dB hro hm ht (Wst W0 W0 ops.size) [] (x₀:=λ_=>undef) (λg hg=>by cases hg) (h0 _) (kN (λa h x w hw=>h w (by rw[CV]at hw;exact hw)) _ _ h)
end
def Act.dG(a:Act)(g:Tmp)(x:Value):Act:={ a with tmps:=a.tmps.setIfInBounds g x }
abbrev Wg:=(Nat→Bool)→Value→World→Prop
variable (F n P ops)in
def Kz(W:Wg)(g:Tmp)(l:List Nat)(a:Act)(R:Act→Prop):Prop:=qp F n P ops (λD x w=>W D (x g) w) [g] l a R
section
variable {W:Wg} {g:Tmp} {i:Nat} {rest:List Nat} {a:Act} {R:Act→Prop} {o:Oper}
theorem MK{p:Tmp→Prop}(h:p g):∀k∈[g],p k:=λk hk=>by rw[List.mem_singleton.1 hk];exact h
theorem gB{id:Nat}{a₀:Act}{w₀:World}(hro:F.round=none)(hm:P.follows .mixedOrders=true)(ht:textual ops=true)(W:Wg)(g:Tmp){x₀:Value}(hg0:a₀.tmps[g]?=some x₀)(h0:W (λ_=>false) x₀ { w₀ with drawn:=w₀.drawn+1 })
  (h:Kz F n P ops W g (List.range ops.size) a₀ (λa=>∀x w,W (λj=>decide (j<ops.size)) x w→Q .normal (Act.dG a g x) w)):(Code.region id ops true).wpIn F n P Q a₀ w₀:=
 dB hro hm ht _ [g] (x₀:=λ_=>x₀) (MK hg0) h0 (kN (R':=λa=>∀x w,W (λj=>decide (j<ops.size)) (x g) w→Q .normal (Act.bF a [g] x) w) (λa h x w hw=>h (x g) w hw) _ _ h)
theorem bG{u0:Value}(ho:ops[i]?=some o)(hw:∀x,Region.wanted o (yielded ops (Act.dG a g x).tmps)=true)(hd:o.dst≠some g)(hu:a.tmps[g]?=some u0)
  (hr:∃af:Value→Act,(∀D x w,qK ops D i→W D x w→∀K Q,(∀w',W (aX D i) x w'→K (af x) w')→o.wpIn F n P (Act.dG a g x) w K Q)∧∃v,(∀x,af x=(Act.dG a g x).put o.dst v)∧Kz F n P ops W g rest (af u0) R):Kz F n P ops W g (i::rest) a R:=by
 obtain⟨af,hs,v,e,hr⟩:=hr;exact bT (u0:=λ_=>u0) ho (λx=>hw (x g)) (MK (p:=λk=>o.dst≠some k) hd) (MK (p:=λk=>a.tmps[k]?=some u0) hu) ⟨λx=>af (x g),λD x w=>hs D (x g) w,v,λx=>e (x g),hr⟩
theorem kM(ho:ops[i]?=some o)(hw:∀x,Region.wanted o (yielded ops (Act.dG a g x).tmps)=true)(hd:o.dst=none)
  (hs:∀D x w,qK ops D i→W D x w→∀K Q,(∀w',W (aX D i) x w'→K (Act.dG a g x) w')→o.wpIn F n P (Act.dG a g x) w K Q) (hr:Kz F n P ops W g rest a R):Kz F n P ops W g (i::rest) a R:=
 nY ho (λx=>hw (x g)) hd (λD x w=>hs D (x g) w) hr
theorem zD(ho:ops[i]?=some o)(hw:∀x,Region.wanted o (yielded ops (Act.dG a g x).tmps)=true)(hd:o.dst=some g)(hu:a.tmps[g]?=some undef)
  (hs:∀D x w,qK ops D i→W D x w→∀K Q,(∀u w',W (aX D i) u w'→K ((Act.dG a g x).put o.dst u) w')→o.wpIn F n P (Act.dG a g x) w K Q) (hr:Kz F n P ops W g rest a R):Kz F n P ops W g (i::rest) a R:=
 iK g (List.mem_singleton.2 rfl) ho (λx=>hw (x g)) hd hu (λD x w hm hW K Q hK=>hs D (x g) w hm hW K Q λu w' h=>by rw[hd];exact hK u w' (by unfold iq;rw[if_pos rfl];exact h)) hr
end
end
end Lift
end
