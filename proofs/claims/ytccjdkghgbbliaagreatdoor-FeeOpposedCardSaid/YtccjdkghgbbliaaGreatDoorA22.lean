/- From lone runs on every tape to a walk whose roads are all finite, whatever is answered. Nothing of the program stands here. -/
import Derived.Conc.LoneCalls
import Derived.CallsIn
import Derived.Test.YtccjdkghgbbliaaGreatDoorA02
set_option linter.all false
namespace Go.Proofs.YtccjdkghgbbliaaGreatDoor
section
namespace Lift
set_option maxHeartbeats 1000000
set_option maxRecDepth 10000
open Go Go.Conc
def bI(w:World)(τ:Nat→Question→Nat)(d:Nat):World:={ w with tape:=τ,drawn:=d }
section
variable [Keep] {P:Program} {S:Nat→Prop} {F:FuncId→Prop}
theorem Poi.bI{wp w:World}(h:Poi P S wp w)(τ:Nat→Question→Nat)(d:Nat):Poi P S (Lift.bI wp τ d) w:=⟨h.os,h.out,h.size,h.same,h.iP,h.views⟩
theorem GX{wp:World}(hg:∀(b:Nat) (o:Obj),wp.heap[b]?=some o→Good P o)(τ:Nat→Question→Nat)(d:Nat):Poi P (λ_=>False) wp (Lift.bI wp τ d):=⟨rfl,rfl,rfl,λ_ _=>.inl rfl,λ_ h=>h.elim,hg⟩
theorem BU{wp w:World}(h:Poi P (λ_=>False) wp w)(hg:∀(b:Nat) (o:Obj),w.heap[b]?=some o→Good P o):w=Lift.bI wp w.tape w.drawn:=by
 obtain⟨h1,h2,h3,h4,_,_⟩:=h;obtain⟨hp,t,d,o,u⟩:=w;obtain⟨hp',t',d',o',u'⟩:=wp;simp only[Lift.bI]at *;subst h1 h2;have:hp=hp':=Array.ext_getElem? λi=>by
  rcases h4 i (λx=>x)with e|⟨_,o,e,hb,_⟩
  ·exact e.symm
  ·exact absurd (hg i o e) hb
 subst this;rfl
theorem zo{a:Goroutine}{w w':World}{o:Outcome}{es:Array Event}(hs:a.status=.running)(h:stepG P true a w=.ended o w' es):step P (solo a w)=.ended o w':=by
 rw[step,stepT_solo hs];simp[runT,solo,Array.swapAt!,Array.swapAt,h]
theorem oN{a:Goroutine}{w:World}(h:a.status=.blocked∨a.status=.finished):∃o w',step P (solo a w)=.ended o w':=by
 rcases h with h|h
 ·simp[step,stepT,move,solo,ask,askOn,runnable,runnable.go,due,ahead,h,Goroutine.canRun,pure,Sem.run];generalize endWith w 2 _ _=x;cases x<;>exact⟨_,_,rfl⟩
 ·simp[step,stepT,move,solo,ask,askOn,runnable,runnable.go,due,ahead,h,Goroutine.canRun,pure,Sem.run];generalize endWith w 2 _ _=x;cases x<;>exact⟨_,_,rfl⟩
theorem zq{a:Goroutine}{w:World}(h:a.status=.waiting):step P (solo a w)=.next (solo a w):=by
 simp[step,stepT,move,solo,ask,askOn,runnable,runnable.go,due,ahead,h,Goroutine.canRun,pure,Sem.run]
omit [Keep]in
def fen(F:FuncId→Prop):Fence:={ fn:=F,depth:=none,alive:=true }
omit [Keep]in
structure Stood (P:Program) (F:FuncId→Prop) (g:Goroutine):Prop where
 run:g.status=.running
 dying:g.dying=none
 fn:F g.frame.fn∨g.frame.fn=P.funcs.size
theorem lW{a b:Goroutine}{w v:World}(h:solo a w=solo b v):a=b∧w=v:=by
 simp only[solo,Machine.mk.injEq,Array.mk.injEq,List.cons.injEq,and_true]at h;exact⟨h.2,h.1⟩
theorem mZ{g:Goroutine}{w:World}(h:(solo g w).fenced P (fen F)):g.dying=none∧(F g.frame.fn∨g.frame.fn=P.funcs.size)∧QX P F g.frame w:=by
 obtain⟨h1,h2,h3,_⟩:=h g (by simp[solo]);refine⟨?_,h2,h3⟩;have:=h1 rfl;cases hd:g.dying with
 |none=>rfl
 |some d=>rw[hd]at this;cases this
theorem ED{g g':Goroutine}{w w':World}(hr:g.status=.running)(hs:StepsIn (Machine.fenced P (fen F)) P (solo g w) (solo g' w'))(hg':Stood P F g')(hne:¬(g=g'∧w=w'))
  (ho:Only (stepG P true g w)):∃g₁ w₁ es,stepG P true g w=.go g₁ w₁ es∧Stood P F g₁∧StepsIn (Machine.fenced P (fen F)) P (solo g₁ w₁) (solo g' w')∧QX P F g.frame w∧g.dying=none:=by
 generalize hm:solo g w=m at hs;generalize hm':solo g' w'=m' at hs;cases hs with
 |refl=>exact absurd (lW (hm.trans hm'.symm)) hne
 |head hI hstep hrest=>
  subst hm hm';rename_i m₁;obtain⟨hd,_,hn⟩:=mZ hI;cases hst:stepG P true g w<;>rw[hst]at ho<;>first|exact ho.elim|skip
  case ended o v es=>rw[zo hr hst]at hstep;cases hstep
  case go g₁ w₁ es=>
   have hs1:step P (solo g w)=.next (solo g₁ w₁):=by rw[step,stepT_solo hr,runT_solo_go hst]
   rw[hs1]at hstep;cases hstep;refine⟨g₁,w₁,es,rfl,?_,hrest,hn,hd⟩;have hrun:g₁.status=.running:=by
    rcases ho with h|h|h|h
    ·exact h
    ·exfalso;obtain⟨o,v,hx⟩:=oN (P:=P) (w:=w₁) (.inl h);generalize hm:solo g₁ w₁=m at hrest hx;generalize hm':solo g' w'=m' at hrest;cases hrest with
     |refl=>obtain⟨rfl,_⟩:=lW (hm.trans hm'.symm);have:=hg'.run;rw[h]at this;cases this
     |head _ hstep _=>rw[hx]at hstep;cases hstep
    ·exfalso;have key:∀m m',StepsIn (Machine.fenced P (fen F)) P m m'→m=solo g₁ w₁→m'=solo g₁ w₁:=by
      intro m m' hs
      induction hs with
      |refl=>exact λh=>h
      |head _ hstep _ ih=>
       intro hm;subst hm;rw[zq h]at hstep;cases hstep;exact ih rfl
     obtain⟨rfl,_⟩:=lW (key _ _ hrest rfl);have:=hg'.run;rw[h]at this;cases this
    ·exfalso;obtain⟨o,v,hx⟩:=oN (P:=P) (w:=w₁) (.inr h);generalize hm:solo g₁ w₁=m at hrest hx;generalize hm':solo g' w'=m' at hrest;cases hrest with
     |refl=>obtain⟨rfl,_⟩:=lW (hm.trans hm'.symm);have:=hg'.run;rw[h]at this;cases this
     |head _ hstep _=>rw[hx]at hstep;cases hstep
   generalize hm:solo g₁ w₁=m at hrest;generalize hm':solo g' w'=m' at hrest;cases hrest with
   |refl=>obtain⟨rfl,_⟩:=lW (hm.trans hm'.symm);exact hg'
   |head hI₁ _ _=>
    subst hm;obtain⟨h1,h2,_⟩:=mZ hI₁;exact⟨hrun,h1,h2⟩
end
end Lift
end
section
namespace Lift
set_option maxHeartbeats 1000000
set_option maxRecDepth 10000
open Go Go.Conc
abbrev fG:=Nat→Question→Nat
section
variable [Keep] {P:Program} {S:Nat→Prop} {F:FuncId→Prop} {Q:Goroutine→World→Prop}
structure xZ (P:Program) (S:Nat→Prop) (wp:World) (g g':Goroutine) (wp':World) (es:Array Event) (n:Nat):Prop where
 go:stepG P true g wp=.go g' wp' es
 tape:wp'.tape=wp.tape
 drawn:wp'.drawn=wp.drawn+n
 size:wp.heap.size≤wp'.heap.size
 off:∀e∈es,Off S wp'.heap.size e
 Uy:∀w,Poi P S wp w→Agree wp w n→∃w',stepG P true g w=.go g' w' es∧Poi P S wp' w'∧w'.tape=w.tape∧w'.drawn=w.drawn+n
inductive Walks (P:Program) (S:Nat→Prop) (Q:Goroutine→World→Prop):Goroutine→World→Prop
 |stop {g:Goroutine} {w:World} (τ:fG) (d:Nat) (h:Q g (bI w τ d)):Walks P S Q g w
 |step {g:Goroutine} {w:World} (run:g.status=.running) (T:fG→fG) (D:fG→Nat) (G':fG→Goroutine) (W:fG→World) (E:fG→Array Event) (N:fG→Nat)
   (fut:∀φ i q,T φ (D φ+i) q=φ i q) (h:∀φ,xZ P S (bI w (T φ) (D φ)) g (G' φ) (W φ) (E φ) (N φ)) (next:∀φ,Walks P S Q (G' φ) (W φ)):Walks P S Q g w
omit [Keep]in
def Lone(P:Program)(F:FuncId→Prop)(Q:Goroutine→World→Prop)(g:Goroutine)(w:World):Prop:=
 ∀φ:fG,∃τ d,(∀i q,τ (d+i) q=φ i q)∧∃g' w',StepsIn (Machine.fenced P (fen F)) P (solo g (bI w τ d)) (solo g' w')∧Stood P F g'∧Q g' w'
omit [Keep]in
def Sn(P:Program)(F:FuncId→Prop)(Q:Goroutine→World→Prop)(g:Goroutine)(w:World):Prop:=Q g w∧Stood P F g∧OkG P g
structure Bad (P:Program) (F:FuncId→Prop) (S:Nat→Prop) (Q:Goroutine→World→Prop) (g:Goroutine) (w:World):Prop where
 lone:Lone P F Q g w
 stood:Stood P F g
 ok:OkG P g
 poi:∃w₀,Poi P S w w₀
 not:¬Walks P S (Sn P F Q) g w
theorem Jj{g g':Goroutine}{w w':World}(hs:StepsIn (Machine.fenced P (fen F)) P (solo g w) (solo g' w'))(hne:¬(g=g'∧w=w')):(solo g w).fenced P (fen F):=by
 generalize hm:solo g w=m at hs ⊢;generalize hm':solo g' w'=m' at hs;cases hs with
 |refl=>exact absurd (lW (hm.trans hm'.symm)) hne
 |head hI _ _=>exact hI
theorem Eo(H:Fit P F){g g':Goroutine}{w w':World}{es:Array Event}(hg:∀(b:Nat) (o:Obj),w.heap[b]?=some o→Good P o)(hd:g.dying=none)(ho:OkG P g)(hn:QX P F g.frame w)(hgo:stepG P true g w=.go g' w' es)(hs:Stood P F g') :
  ∀(b:Nat) (o:Obj),w'.heap[b]?=some o→Good P o:=by
 obtain⟨m,_,_,_,_,_,b6⟩:=(qJ (S:=λ_=>False) H hg hd ho hn ⟨_,GX hg w.tape w.drawn⟩).2 _ _ _ hgo hs.run hs.dying hs.fn;obtain⟨_,_,hp,_⟩:=b6 w (GX hg w.tape w.drawn) (λi _ q=>rfl);exact hp.views
theorem Bad.next(H:Fit P F){g:Goroutine}{w:World}(hb:Bad P F S Q g w) :
  ∃(φ τ:fG) (d:Nat) (g':Goroutine) (w':World) (es:Array Event) (n:Nat),(∀i q,τ (d+i) q=φ i q)∧xZ P S (bI w τ d) g g' w' es n∧xZ P (λ_=>False) (bI w τ d) g g' w' es n∧Bad P F S Q g' w':=by
 obtain⟨w₀,hp⟩:=hb.poi;have hg:∀τ d (b:Nat) (o:Obj),(bI w τ d).heap[b]?=some o→Good P o:=λ_ _=>hp.views;have hQ:∀τ d,¬Q g (bI w τ d):=λτ d h=>hb.not (.stop τ d ⟨h,hb.stood,hb.ok⟩)
 have each:∀φ:fG,∃(τ:fG) (d:Nat) (g':Goroutine) (w':World) (es:Array Event) (n:Nat),(∀i q,τ (d+i) q=φ i q)∧xZ P S (bI w τ d) g g' w' es n∧xZ P (λ_=>False) (bI w τ d) g g' w' es n∧
   Stood P F g'∧OkG P g'∧∃w₀,Poi P S w' w₀:=by
  intro φ;obtain⟨τ,d,hφ,ge,we,hs,hst,hq⟩:=hb.lone φ;have hne:¬(g=ge∧bI w τ d=we):=λ⟨h1,h2⟩=>hQ τ d (by rw[h1,h2];exact hq);obtain⟨hd,_,hn⟩:=mZ (Jj hs hne);have L1:=qJ (S:=S) H (hg τ d) hd hb.ok hn ⟨w₀,hp.bI τ d⟩;have L2:=qJ (S:=λ_=>False) H (hg τ d) hd hb.ok hn ⟨_,GX (hg τ d) τ d⟩;obtain⟨g₁,w₁,es,hgo,hs1,_,_,_⟩:=ED hb.stood.run hs hst hne L1.1;obtain⟨n,a1,a2,a3,a4,a5,a6⟩:=L1.2 _ _ _ hgo hs1.run hs1.dying hs1.fn;obtain⟨m,b1,b2,b3,b4,b5,b6⟩:=L2.2 _ _ _ hgo hs1.run hs1.dying hs1.fn;have:m=n:=by rw[a2]at b2;omega
  subst this;refine⟨τ,d,g₁,w₁,es,m,hφ,⟨hgo,a1,a2,a3,a4,a6⟩,⟨hgo,b1,b2,b3,b4,b6⟩,hs1,a5,?_⟩;obtain⟨w',_,hp',_⟩:=a6 (bI w₀ τ d) ⟨hp.os,hp.out,hp.size,hp.same,hp.iP,hp.views⟩ (λi _ q=>rfl);exact⟨w',hp'⟩
 by_cases hall:∀φ:fG,∃(τ:fG) (d:Nat) (g':Goroutine) (w':World) (es:Array Event) (n:Nat),(∀i q,τ (d+i) q=φ i q)∧xZ P S (bI w τ d) g g' w' es n∧Walks P S (Sn P F Q) g' w'
 ·exfalso
  exact hb.not (.step hb.stood.run (λφ=>(hall φ).choose) (λφ=>(hall φ).choose_spec.choose) (λφ=>(hall φ).choose_spec.choose_spec.choose) (λφ=>(hall φ).choose_spec.choose_spec.choose_spec.choose)
   (λφ=>(hall φ).choose_spec.choose_spec.choose_spec.choose_spec.choose) (λφ=>(hall φ).choose_spec.choose_spec.choose_spec.choose_spec.choose_spec.choose)
   (λφ=>(hall φ).choose_spec.choose_spec.choose_spec.choose_spec.choose_spec.choose_spec.1) (λφ=>(hall φ).choose_spec.choose_spec.choose_spec.choose_spec.choose_spec.choose_spec.2.1)
   (λφ=>(hall φ).choose_spec.choose_spec.choose_spec.choose_spec.choose_spec.choose_spec.2.2))
 ·obtain⟨φ,hφ⟩:=Classical.not_forall.1 hall;obtain⟨τ,d,g',w',es,n,k1,k2,k3,k4,k5,k6⟩:=each φ;refine⟨φ,τ,d,g',w',es,n,k1,k2,k3,⟨?_,k4,k5,k6,λhw=>hφ ⟨τ,d,g',w',es,n,k1,k2,hw⟩⟩⟩;intro φ';obtain⟨τ2,d2,f2,ge,we,hs,hst,hq⟩:=hb.lone λi=>if i<n then φ i else φ' (i - n);have hne:¬(g=ge∧bI w τ2 d2=we):=λ⟨h1,h2⟩=>hQ τ2 d2 (by rw[h1,h2];exact hq);obtain⟨w2,t1,t2,t3,t4⟩:=k3.Uy (bI w τ2 d2) ⟨rfl,rfl,rfl,λ_ _=>.inl rfl,λ_ h=>h.elim,hg τ d⟩ (λi hi q=>by
   show τ (d+i) q=τ2 (d2+i) q
   rw[k1,f2,if_pos hi])
  obtain⟨g₁,w₁,es',hgo,hs1,hrest,hn2,hd2⟩:=ED hb.stood.run hs hst hne (by rw[t1];exact .inl k4.run);have hg2:=Eo H (hg τ2 d2) hd2 hb.ok hn2 hgo hs1;rw[t1]at hgo;cases hgo;refine⟨τ2,d2+n,λi q=>?_,ge,we,?_,hst,hq⟩
  ·rw[Nat.add_assoc,f2,if_neg (by omega)];congr 1;omega
  ·have e:=BU t2 hg2;rw[t3,t4]at e;rw[e]at hrest;exact hrest
structure Link (P:Program) (F:FuncId→Prop) (S:Nat→Prop) (Q:Goroutine→World→Prop) where
 g:Goroutine
 w:World
 bad:Bad P F S Q g w
theorem Link.wG(H:Fit P F)(x:Link P F S Q):∃(y:Link P F S Q) (τ:fG) (d n:Nat) (es:Array Event),xZ P (λ_=>False) (bI x.w τ d) x.g y.g y.w es n:=by
 obtain⟨φ,τ,d,g',w',es,n,_,_,h,hb⟩:=x.bad.next H;exact⟨⟨g',w',hb⟩,τ,d,n,es,h⟩
noncomputable def Link.next (H:Fit P F) (x:Link P F S Q):Link P F S Q:=(x.wG H).choose
noncomputable def Link.tau (H:Fit P F) (x:Link P F S Q):fG:=(x.wG H).choose_spec.choose
noncomputable def Link.dr (H:Fit P F) (x:Link P F S Q):Nat:=(x.wG H).choose_spec.choose_spec.choose
noncomputable def Link.num (H:Fit P F) (x:Link P F S Q):Nat:=(x.wG H).choose_spec.choose_spec.choose_spec.choose
theorem Link.next_is(H:Fit P F)(x:Link P F S Q):∃es,xZ P (λ_=>False) (bI x.w (x.tau H) (x.dr H)) x.g (x.next H).g (x.next H).w es (x.num H):=(x.wG H).choose_spec.choose_spec.choose_spec.choose_spec
noncomputable def Link.at (H:Fit P F) (x:Link P F S Q):Nat→Link P F S Q
 |0=>x
 |i+1=>(Link.at H x i).next H
noncomputable def Link.upto (H:Fit P F) (x:Link P F S Q):Nat→Nat
 |0=>0
 |i+1=>Link.upto H x i+(x.at H i).num H
theorem Link.Fe(H:Fit P F)(x:Link P F S Q){i j:Nat}(h:i≤j):x.upto H i≤x.upto H j:=by
 induction h with
 |refl=>exact ak _
 |step _ ih=>exact Nat.le_trans ih (Nat.le_add_right _ _)
open Classical in
noncomputable def Link.all (H:Fit P F) (x:Link P F S Q):fG:=λk q=>
 if h:∃i,x.upto H i≤k∧k<x.upto H (i+1)then(x.at H h.choose).tau H ((x.at H h.choose).dr H+(k-x.upto H h.choose)) q else 0
theorem Link.all_at(H:Fit P F)(x:Link P F S Q)(i j:Nat)(hj:j<(x.at H i).num H)(q:Question):x.all H (x.upto H i+j) q=(x.at H i).tau H ((x.at H i).dr H+j) q:=by
 have hex:∃i',x.upto H i'≤x.upto H i+j∧x.upto H i+j<x.upto H (i'+1):=⟨i,Nat.le_add_right _ _,by show _<x.upto H i+_;omega⟩
 have Tm:hex.choose=i:=by
  obtain⟨h1,h2⟩:=hex.choose_spec;generalize hex.choose=i' at h1 h2;rcases Nat.lt_trichotomy i' i with h|h|h
  ·have:=x.Fe H (show i'+1≤i from h);omega
  ·exact h
  ·have:=x.Fe H (show i+1≤i' from h);have e:x.upto H (i+1)=x.upto H i+(x.at H i).num H:=rfl;omega
 unfold Link.all;rw[dif_pos hex,Tm,Nat.add_sub_cancel_left]
theorem DZ(H:Fit P F){g:Goroutine}{w:World}(hl:Lone P F Q g w)(hs:Stood P F g)(ho:OkG P g)(hp:∃w₀,Poi P S w w₀):Walks P S (Sn P F Q) g w:=by
 refine Classical.byContradiction λhw=>?_
 let x:Link P F S Q:=⟨g,w,hl,hs,ho,hp,hw⟩
 obtain⟨τ,d,hφ,ge,we,hrun,hst,hq⟩:=hl (x.all H);have key:∀m m',StepsIn (Machine.fenced P (fen F)) P m m'→∀i,m=solo (x.at H i).g (bI (x.at H i).w τ (d+x.upto H i))→m'=solo ge we→False:=by
  intro m m' hsteps
  induction hsteps with
  |refl m=>
   intro i h1 h2;obtain⟨e1,e2⟩:=lW (h1.symm.trans h2);exact(x.at H i).bad.not (.stop τ (d+x.upto H i) ⟨by rw[e1,e2];exact hq,(x.at H i).bad.stood,(x.at H i).bad.ok⟩)
  |head hI hstep _ ih=>
   intro i h1 h2;subst h1;obtain⟨es,hn⟩:=(x.at H i).next_is H;have hb:=(x.at H i).bad;obtain⟨w₀,hp₀⟩:=hb.poi;obtain⟨w2,t1,t2,t3,t4⟩:=hn.Uy (bI (x.at H i).w τ (d+x.upto H i)) ⟨rfl,rfl,rfl,λ_ _=>.inl rfl,λ_ h=>h.elim,hp₀.views⟩ (λj hj q=>by
    show(x.at H i).tau H ((x.at H i).dr H+j) q=τ (d+x.upto H i+j) q
    rw[Nat.add_assoc,hφ,Link.all_at H x i j hj])
   obtain⟨hd2,_,hn2⟩:=mZ hI;have e:=BU t2 (Eo (w:=bI (x.at H i).w τ (d+x.upto H i)) H (λb o=>hp₀.views b o) hd2 hb.ok hn2 t1 ((x.at H i).next H).bad.stood);rw[t3,t4]at e;have hs1:step P (solo (x.at H i).g (bI (x.at H i).w τ (d+x.upto H i)))=.next (solo ((x.at H i).next H).g w2):=by rw[step,stepT_solo hb.stood.run,runT_solo_go t1]
   rw[hs1]at hstep;cases hstep;refine ih (i+1) ?_ h2;rw[e]
   show solo _ (bI _ τ (d+x.upto H i+_))=_
   rw[Nat.add_assoc];rfl
 exact key _ _ hrun 0 rfl rfl
end
end Lift
end
section
namespace Lift
set_option maxHeartbeats 1000000
set_option maxRecDepth 10000
open Go Go.Conc
open Go.ConcN (sumTo upd sumTo_upd upd_ne upd_same)
section
variable {P:Program} {S:Nat→Prop} {Q:Goroutine→World→Prop}
theorem Gp{gs:Array Goroutine}{w:World}{sl:Option (Nat×Nat)}{t:Trace}{q:Nat→Nat}{i:Nat}{g:Goroutine}(hi:gs[i]?=some g)(i0:i≠0)(hq:QuitsD P (q i) (Deaf t i) g)(hg:g.status=.running) :
  ∃k g' es,q i=k+1∧(∀e∈es,Event.mute e=true)∧runT P (crowd gs w sl) i=(.next (crowd ((gs.map (woken P g g' w)).setIfInBounds i g') w sl),MemOp.ofEvents i g.frame.fn g.frame.place es)∧
   QuitsD P k (Deaf (t++MemOp.ofEvents i g.frame.fn g.frame.place es) i) g'∧sumTo gs.size (upd q i k)<sumTo gs.size q:=by
 have hi0:(i==0)=false:=by simp[i0]
 have hlt:i<gs.size:=(Array.getElem?_eq_some_iff.1 hi).1;cases hqi:q i with
 |zero=>rw[hqi]at hq;rw[hq.1]at hg;cases hg
 |succ k=>
  rw[hqi]at hq;rcases hq with⟨hf,_⟩|⟨_,g',es,hm,hstp,hq'⟩
  ·rw[hf]at hg;cases hg
  ·have hsum:sumTo gs.size (upd q i k)+(k+1)=sumTo gs.size q+k:=by
    have:=sumTo_upd q k id hlt;simpa[hqi]using this
   exact⟨k,g',es,rfl,hm,runT_crowd_go (P:=P) (sl:=sl) hi (by rw[hi0];exact hstp w),by rw[Deaf_own];exact hq',by omega⟩
theorem mute_quiet{es:Array Event}{i:Nat}{fn:FuncId}{pos:String}(hm:∀e∈es,Event.mute e=true):(∀op∈MemOp.ofEvents i fn pos es,op.act.touch?=none)∧∀N,∀op∈MemOp.ofEvents i fn pos es,op.act.low N:=
 ⟨λop hop=>by obtain⟨e,he,rfl⟩:=Go.Conc.mem_ofEvents hop;exact touch_mute (hm e he),λN op hop=>by obtain⟨e,he,rfl⟩:=Go.Conc.mem_ofEvents hop;exact low_mute (hm e he) N⟩
theorem ofEvents_by{es:Array Event}{i:Nat}{fn:FuncId}{pos:String}:∀op∈MemOp.ofEvents i fn pos es,op.g=i:=λop hop=>by obtain⟨e,_,rfl⟩:=Go.Conc.mem_ofEvents hop;rfl
theorem set_get{gs:Array Goroutine}{i x:Nat}{g y:Goroutine}(h:(gs.setIfInBounds i y)[x]?=some g):(x=i∧g=y)∨(x≠i∧gs[x]?=some g):=by
 by_cases e:i=x
 ·subst e;have hlt:i<gs.size:=by
   have:=(Array.getElem?_eq_some_iff.1 h).1;simpa using this
  rw[Array.getElem?_setIfInBounds_self_of_lt (by simpa using hlt)]at h;exact .inl ⟨rfl,(Option.some.inj h).symm⟩
 ·rw[aA e]at h;exact .inr ⟨λh=>e h.symm,h⟩
theorem map_set_get{gs:Array Goroutine}{f:Goroutine→Goroutine}{i x:Nat}{g y:Goroutine}(h:((gs.map f).setIfInBounds i y)[x]?=some g):(x=i∧g=y)∨(x≠i∧∃g₀,gs[x]?=some g₀∧g=f g₀):=by
 rcases set_get h with h|⟨e,h⟩
 ·exact .inl h
 ·rw[Array.getElem?_map]at h;obtain⟨y,hy,rfl⟩:=Option.map_eq_some_iff.1 h;exact .inr ⟨e,y,hy,rfl⟩
theorem map_set_at{gs:Array Goroutine}{f:Goroutine→Goroutine}{i:Nat}{g y:Goroutine}(h:gs[i]?=some g):((gs.map f).setIfInBounds i y)[i]?=some y:=by
 have hlt:=(Array.getElem?_eq_some_iff.1 h).1;rw[Array.getElem?_setIfInBounds_self_of_lt (by simpa using hlt)]
theorem map_set_other{gs:Array Goroutine}{f:Goroutine→Goroutine}{i x:Nat}{g y:Goroutine}(h:gs[x]?=some g)(hx:x≠i):((gs.map f).setIfInBounds i y)[x]?=some (f g):=by
 rw[aA (λe=>hx e.symm),Array.getElem?_map,h];rfl
theorem set_at{gs:Array Goroutine}{i:Nat}{g y:Goroutine}(h:gs[i]?=some g):(gs.setIfInBounds i y)[i]?=some y:=by
 have hlt:=(Array.getElem?_eq_some_iff.1 h).1;rw[Array.getElem?_setIfInBounds_self_of_lt hlt]
theorem set_other{gs:Array Goroutine}{i x:Nat}{g y:Goroutine}(h:gs[x]?=some g)(hx:x≠i):(gs.setIfInBounds i y)[x]?=some g:=by
 rw[aA (λe=>hx e.symm),h]
def Shn(S:Nat→Prop):Loc→Prop:=λl=>∃b,blk l=some b∧S b
theorem KU{B:Nat}{e:Event}(h:Off S B e):EvL (Shn S) B e:=by
 obtain⟨h1,h2⟩:=h;obtain⟨loc,wr,sy⟩:=e;refine⟨λx hx hs=>?_,λhm=>?_,λhm=>?_,?_⟩
 ·exfalso;obtain⟨b,hb,hS⟩:=hs;have:x.loc=loc:=by
   cases loc with
   |mark m=>
    have:=h2 m rfl;subst this;simp[MemAct.ofEvent,MemAct.touch?]at hx
   |obj c=>
    cases wr<;>cases sy<;>simp[MemAct.ofEvent,MemAct.touch?]at hx<;>rw[← hx]
   |_=>simp[MemAct.ofEvent,MemAct.touch?]at hx;rw[← hx]
  rw[this]at hb;exact(h1 b hb).1 hS
 ·have:=h2 _ hm;cases this
 ·have:=h2 _ hm;cases this
 ·cases loc with
  |mark m=>
   have:=h2 m rfl;subst this;trivial
  |obj c=>
   have:=(h1 c rfl).2;cases wr<;>cases sy<;>exact this
  |cell a=>
   have:=(h1 a.block rfl).2;cases wr<;>cases sy<;>exact this
  |output=>cases wr<;>cases sy<;>trivial
  |goroutines=>cases wr<;>cases sy<;>trivial
variable [Keep]
theorem beside{g:Goroutine}{w:World}(hw:Walks P S Q g w):∀(gs:Array Goroutine) (wa:World) (sl:Option (Nat×Nat)) (t:Trace) (q:Nat→Nat),gs[0]?=some g→Leavers P t gs q→Past (Shn S) wa.heap.size t→Poi P S w wa→
  ∃(N:Nat) (gs':Array Goroutine) (g':Goroutine) (w' Nq:World) (sl':Option (Nat×Nat)) (t':Trace) (q':Nat→Nat),
   runNT P N (crowd gs wa sl) t=(.next (crowd gs' Nq sl'),t')∧gs'.size=gs.size∧gs'[0]?=some g'∧Q g' w'∧Leavers P t' gs' q'∧Past (Shn S) Nq.heap.size t'∧Poi P S w' Nq∧Nq.tape=wa.tape∧wa.heap.size≤Nq.heap.size:=by
 induction hw with
 |stop τ d h=>
  intro gs wa sl t q h0 hL hP hp;exact⟨0,gs,_,_,wa,sl,t,q,rfl,rfl,h0,h,hL,hP,hp.bI τ d,rfl,ak _⟩
 |step hrun T D G' W E N fut hn next ih=>
  rename_i g w;intro gs wa sl t q h0 hL hP hp;obtain⟨M,hM⟩:∃M,sumTo gs.size q<M:=⟨_,Nat.lt_succ_self _⟩
  induction M generalizing gs wa sl t q with
  |zero=>omega
  |succ M ihM=>
   have haw:∀x∈gs,awake x:=by
    intro x hx;obtain⟨i,hi,rfl⟩:=Array.mem_iff_getElem.1 hx;rcases Nat.eq_zero_or_pos i with rfl|hpos
    ·have:gs[0]=g:=by simpa[Array.getElem?_eq_getElem hi]using h0
     rw[this];exact awake_of (.inl hrun)
    ·exact awake_of ((hL.old i _ hpos (Array.getElem?_eq_getElem hi)).status.elim .inl λx=>.inr (.inr x))
   obtain⟨i,x,d,sl',hi,hx,hst⟩:=crowd_pick (P:=P) (w:=wa) (sl:=sl) haw ⟨0,g,h0,hrun⟩;by_cases i0:i=0
   ·subst i0;obtain rfl:g=x:=by rw[h0]at hi;exact Option.some.inj hi
    let φ:fG:=λi q=>wa.tape (d+i) q
    obtain⟨Nq,s1,s2,s3,s4⟩:=(hn φ).Uy (wa.at d) ⟨hp.os,hp.out,hp.size,hp.same,hp.iP,hp.views⟩ (λi _ q=>by
     show T φ (D φ+i) q=wa.tape (d+i) q
     rw[fut])
    have hrunT:=runT_crowd_go (P:=P) (sl:=sl') (i:=0) hi (show stepG P (0==0) g (wa.at d)=_ from s1);have hsz:((gs.map (woken P g (G' φ) Nq)).setIfInBounds 0 (G' φ)).size=gs.size:=by simp
    have hgrow:wa.heap.size≤Nq.heap.size:=by
     have h1:=(hn φ).size;have h2:=s2.size;have h3:(bI w (T φ) (D φ)).heap.size=wa.heap.size:=hp.size;omega
    have hoff:∀e∈E φ,EvL (Shn S) Nq.heap.size e:=λe he=>KU (by rw[← s2.size];exact(hn φ).off e he)
    obtain⟨N',gs',g'',w'',wa'',sl'',t',q',hr,hs',h0',hQ,hL',hP',hp',ht',hz'⟩:=ih φ ((gs.map (woken P g (G' φ) Nq)).setIfInBounds 0 (G' φ)) Nq sl' (t++MemOp.ofEvents 0 g.frame.fn g.frame.place (E φ)) q (map_set_at h0)
     ⟨λj y hj hy=>by
      rcases map_set_get hy with⟨e,_⟩|⟨_,y0,hy0,rfl⟩
      ·omega
      ·have hq:=hL.old j y0 hj hy0;rw[woken_quitsD hq,Deaf_other t (g':=0) (by omega) _ ofEvents_by];exact hq,λj hj=>by
      have hlt:0<gs.size:=(Array.getElem?_eq_some_iff.1 h0).1;rw[Deaf_other t (g':=0) (by simp at hj;omega) _ ofEvents_by];exact hL.above j (by simpa using hj)⟩
     ((hP.mono hgrow).own hoff) s2
    exact⟨N'+1,gs',g'',w'',wa'',sl'',t',q',by simp only[runNT,hst,hrunT];exact hr,hs'.trans hsz,h0',hQ,hL',hP',hp',ht'.trans s3,Nat.le_trans hgrow hz'⟩
   ·have hqx:=hL.old i x (by omega) hi;obtain⟨kk,x',es,hqi,hm,hr,hq',hlt⟩:=Gp (w:=wa.at d) (sl:=sl') (t:=t) hi i0 hqx hx
    obtain⟨N',gs',g'',w'',wa'',sl'',t',q',hr',hs',h0',hQ,hL',hP',hp',ht',hz'⟩:=ihM ((gs.map (woken P x x' (wa.at d))).setIfInBounds i x') (wa.at d) sl' (t++MemOp.ofEvents i x.frame.fn x.frame.place es) (upd q i kk)
     (by rw[map_set_other h0 (Ne.symm i0),woken_run hrun])
     ⟨λj y hj hy=>by
      rcases map_set_get hy with⟨rfl,rfl⟩|⟨e,y0,hy0,rfl⟩
      ·rw[upd_same];exact hq'
      ·have hqy:=hL.old j y0 hj hy0;rw[woken_quitsD hqy,upd_ne q kk e,Deaf_other t (Ne.symm e) _ ofEvents_by];exact hqy,λj hj=>by
      have hli:=(Array.getElem?_eq_some_iff.1 hi).1;rw[Deaf_other t (g':=i) (by simp at hj;omega) _ ofEvents_by];exact hL.above j (by simpa using hj)⟩
     (hP.mute i0 hm) ⟨hp.os,hp.out,hp.size,hp.same,hp.iP,hp.views⟩ (by simp;omega)
    exact⟨N'+1,gs',g'',w'',wa'',sl'',t',q',by simp only[runNT,hst,hr];exact hr',by simpa using hs',h0',hQ,hL',hP',hp',ht',hz'⟩
end
end Lift
end
section
namespace Lift
set_option maxHeartbeats 1000000
set_option maxRecDepth 10000
open Go Go.Conc
section
variable [Keep] {P:Program} {F:FuncId→Prop}
theorem Ej(c:Frame)(v:Value):(c.finish v).fn=c.fn:=by unfold Frame.finish;split<;>rfl
end
end Lift
end
