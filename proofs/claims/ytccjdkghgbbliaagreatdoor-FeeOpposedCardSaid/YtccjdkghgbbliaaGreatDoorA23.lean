/- Goroutines at work beside each other, each with blocks of its own that it makes as it goes, one cell of a shared block of its own, and a shared group: what each suffers, what it may do, and how its walk is put together. Nothing of the program stands here. -/
import Derived.Conc.CrowdStepC2
import Derived.Conc.CompanyMem
import Derived.Conc.TokenTrace
import Derived.Test.YtccjdkghgbbliaaGreatDoorA22
set_option linter.all false
namespace Go.Proofs.YtccjdkghgbbliaaGreatDoor
section
namespace Crew
set_option maxHeartbeats 1000000
set_option maxRecDepth 10000
open Go Go.Conc Go.ConcN
open Go.ConcR (KK wgBlock WgAt stA smA rd wr mk Payload DC0)
open Go.Proofs.YtccjdkghgbbliaaGreatDoor.Lift (blk Good)
structure Cf where
 S:Nat→Prop
 P:Program
 ty:TypeId
 Wg:Nat
 C:Nat
 n:Nat
 B:Nat
 ne:C≠Wg
 hW:Wg<B
 hC:C<B
 ini:Nat→Option Value
variable [Payload]
def Fair(_:Program)(_:Obj):Prop:=True
def Gd(P:Program)(w:World):Prop:=∀(b:Nat) (o:Obj),w.heap[b]?=some o→Fair P o
structure dh (X:Cf) (c:Nat) (O:Nat→Prop) (w w₁:World):Prop where
 size:w.heap.size≤w₁.heap.size
 low:∀b,b<X.B→b≠X.C→b≠X.Wg→w₁.heap[b]?=w.heap[b]?
 own:∀b,O b→w₁.heap[b]?=w.heap[b]?
 pay:PayAt X.C X.n w→PayAt X.C X.n w₁
 cell:w₁.cell? ⟨X.C,c,none⟩=w.cell? ⟨X.C,c,none⟩
 live:WgLive X.ty X.Wg w→WgLive X.ty X.Wg w₁
def Tch(X:Cf)(main:Bool)(c:Nat)(O:Nat→Prop)(N:Nat)(x:Touch):Prop:=
 ∀b,blk x.loc=some b→(x.kind=.atomic→b=X.Wg)∧
  ((b<X.B∧b≠X.C∧b≠X.Wg∧¬X.S b∧x.write=false)∨O b∨N≤b∨x.loc=.cell ⟨X.C,c,none⟩∨(b=X.Wg∧x.kind≠.plain∧(x.kind=.said→main=true)))
structure EvO (X:Cf) (main:Bool) (c:Nat) (O:Nat→Prop) (N N':Nat) (e:Event):Prop where
 dis:e.loc≠.mark .disable
 ena:e.loc≠.mark .enable
 rel:e.loc≠.mark (.release (stA X.Wg))
 low:(MemAct.ofEvent e).low N'
 tch:∀x,(MemAct.ofEvent e).touch?=some x→Tch X main c O N x
structure DO (X:Cf) (main:Bool) (c:Nat) (O:Nat→Prop) (w w':World) (es:Array Event):Prop where
 size:w.heap.size≤w'.heap.size
 other:∀b,b<w.heap.size→¬O b→b≠X.C→w'.heap[b]?=w.heap[b]?
 pay:PayAt X.C X.n w→PayAt X.C X.n w'
 cells:∀i,i≠c→w'.cell? ⟨X.C,i,none⟩=w.cell? ⟨X.C,i,none⟩
 good:PayAt X.C X.n w→Gd X.P w→Gd X.P w'
 evs:∀e∈es,EvO X main c O w.heap.size w'.heap.size e
 env:w'.os=w.os∧w'.output=w.output
section
variable {X:Cf} {main:Bool} {c:Nat} {O O':Nat→Prop} {w w₁ w₂ w':World} {es:Array Event}
theorem dh.refl(w:World):dh X c O w w:=⟨ak _,λ_ _ _ _=>rfl,λ_ _=>rfl,id,rfl,id⟩
theorem dh.trans(h:dh X c O w w₁)(k:dh X c O w₁ w₂):dh X c O w w₂:=
 ⟨Nat.le_trans h.size k.size,λb h1 h2 h3=>(k.low b h1 h2 h3).trans (h.low b h1 h2 h3),λb hb=>(k.own b hb).trans (h.own b hb),k.pay ∘ h.pay,k.cell.trans h.cell,k.live ∘ h.live⟩
theorem dh.at(w:World)(d:Nat):dh X c O w (w.at d):=⟨ak _,λ_ _ _ _=>rfl,λ_ _=>rfl,id,rfl,id⟩
theorem dh.less(h:dh X c O w w₁)(hO:∀b,O' b→O b):dh X c O' w w₁:=⟨h.size,h.low,λb hb=>h.own b (hO b hb),h.pay,h.cell,h.live⟩
theorem DO.idle(w:World):DO X main c O w w #[]:=⟨ak _,λ_ _ _ _=>rfl,id,λ_ _=>rfl,λ_=>id,λe he=>by simp at he,⟨rfl,rfl⟩⟩
def GO(X:Cf)(main:Bool)(c:Nat)(Stop:Goroutine→World→(Nat→Prop)→Prop):Nat→Goroutine→World→(Nat→Prop)→Prop
 |0,g,w,O=>∀w₁,dh X c O w w₁→Stop g w₁ O
 |n+1,g,w,O=>(∀w₁,dh X c O w w₁→Stop g w₁ O)∨
   (g.status=.running∧∀w₁,dh X c O w w₁→(stepG X.P main g w₁).goes λg' w' es=>DO X main c O w₁ w' es∧∃O':Nat→Prop,(∀b,O' b→O b∨(w₁.heap.size≤b∧b<w'.heap.size))∧GO X main c Stop n g' w' O')
variable {Stop Stop':Goroutine→World→(Nat→Prop)→Prop} {n m:Nat} {g:Goroutine}
theorem GO.rely(h:GO X main c Stop n g w O)(hr:dh X c O w w₁):GO X main c Stop n g w₁ O:=by
 cases n with
 |zero=>exact λw₂ h₂=>h w₂ (hr.trans h₂)
 |succ n=>
  rcases h with h|⟨hs,h⟩
  ·exact .inl λw₂ h₂=>h w₂ (hr.trans h₂)
  ·exact .inr ⟨hs,λw₂ h₂=>h w₂ (hr.trans h₂)⟩
theorem GO.stop(h:∀w₁,dh X c O w w₁→Stop g w₁ O):GO X main c Stop n g w O:=by
 cases n with
 |zero=>exact h
 |succ n=>exact .inl h
theorem GO.running(hS:∀g w O,Stop g w O→g.status=.running)(h:GO X main c Stop n g w O):g.status=.running:=by
 cases n with
 |zero=>exact hS _ _ _ (h w (dh.refl w))
 |succ n=>
  rcases h with h|⟨hs,_⟩
  ·exact hS _ _ _ (h w (dh.refl w))
  ·exact hs
theorem GO.cases(h:GO X main c Stop n g w O) :
  Stop g w O∨∃m g' w' es O',n=m+1∧stepG X.P main g w=.go g' w' es∧DO X main c O w w' es∧(∀b,O' b→O b∨(w.heap.size≤b∧b<w'.heap.size))∧GO X main c Stop m g' w' O':=by
 cases n with
 |zero=>exact .inl (h w (dh.refl w))
 |succ n=>
  rcases h with h|⟨_,h⟩
  ·exact .inl (h w (dh.refl w))
  ·obtain⟨g',w',es,h1,h2,O',h3,h4⟩:=goes_elim (h w (dh.refl w));exact .inr ⟨n,g',w',es,O',rfl,h1,h2,h3,h4⟩
theorem GO.more:∀{n:Nat} {g:Goroutine} {w:World} {O:Nat→Prop},GO X main c Stop n g w O→GO X main c Stop (n+1) g w O
 |0,_,_,_,h=>.inl h
 |n+1,_,_,_,h=>by
  rcases h with h|⟨hs,h⟩
  ·exact .inl h
  ·refine .inr ⟨hs,λw₁ h₁=>?_⟩;obtain⟨g',w',es,e1,e2,O',e3,e4⟩:=goes_elim (h w₁ h₁);rw[e1];exact⟨e2,O',e3,GO.more e4⟩
theorem GO.mono{n n':Nat}{g:Goroutine}{w:World}{O:Nat→Prop}(h:GO X main c Stop n g w O)(hn:n≤n'):GO X main c Stop n' g w O:=by
 induction hn with
 |refl=>exact h
 |step _ ih=>exact ih.more
theorem GO.weak(hS:∀g w O,Stop g w O→Stop' g w O):∀{n:Nat} {g:Goroutine} {w:World} {O:Nat→Prop},GO X main c Stop n g w O→GO X main c Stop' n g w O
 |0,_,_,_,h=>λw₁ h₁=>hS _ _ _ (h w₁ h₁)
 |n+1,g,w,O,h=>by
  rcases h with h|⟨hs,h⟩
  ·exact .inl λw₁ h₁=>hS _ _ _ (h w₁ h₁)
  ·refine .inr ⟨hs,λw₁ h₁=>?_⟩;obtain⟨g',w',es,e1,e2,O',e3,e4⟩:=goes_elim (h w₁ h₁);rw[e1];exact⟨e2,O',e3,GO.weak hS e4⟩
theorem GO.step(hs:g.status=.running)(h:∀w₁,dh X c O w w₁→(stepG X.P main g w₁).goes λg' w' es=>DO X main c O w₁ w' es∧GO X main c Stop n g' w' O):GO X main c Stop (n+1) g w O:=by
 refine .inr ⟨hs,λw₁ h₁=>?_⟩;obtain⟨g',w',es,e1,e2,e3⟩:=goes_elim (h w₁ h₁);rw[e1];exact⟨e2,O,λb hb=>.inl hb,e3⟩
theorem GO.ctl{g':Goroutine}(hs:g.status=.running)(h:∀w,stepG X.P main g w=.go g' w)(hg:GO X main c Stop n g' w O):GO X main c Stop (n+1) g w O:=
 GO.step hs λw₁ h₁=>by rw[h];exact⟨DO.idle _,hg.rely h₁⟩
theorem GO.dY{R:World→World→Prop}(hR:∀w w₁,dh X c O w w₁→R w w₁):∀{k:Nat} {g:Goroutine} {w:World},Goes X.P main R DC0 (λg w=>GO X main c Stop m g w O) k g w→GO X main c Stop (m+k) g w O
 |0,g,w,h=>h w (hR _ _ (dh.refl w))
 |k+1,g,w,h=>by
  rcases h with h|⟨hs,h⟩
  ·exact(h w (hR _ _ (dh.refl w))).mono (by omega)
  ·refine GO.step hs λw₁ h₁=>?_;obtain⟨g',w',es,e1,⟨rfl,rfl⟩,e3⟩:=goes_elim (h w₁ (hR _ _ h₁));rw[e1];exact⟨DO.idle _,GO.dY hR e3⟩
theorem GO.Ob{D:World→World→Array Event→Prop}(hD:∀w w' es,D w w' es→DO X main c O w w' es):∀{k:Nat} {g:Goroutine} {w:World},Goes X.P main (dh X c O) D (λg w=>GO X main c Stop m g w O) k g w→GO X main c Stop (m+k) g w O
 |0,g,w,h=>h w (dh.refl w)
 |k+1,g,w,h=>by
  rcases h with h|⟨hs,h⟩
  ·exact(h w (dh.refl w)).mono (by omega)
  ·refine GO.step hs λw₁ h₁=>?_;obtain⟨g',w',es,e1,e2,e3⟩:=goes_elim (h w₁ h₁);rw[e1];exact⟨hD _ _ _ e2,GO.Ob hD e3⟩
end
end Crew
end
section
namespace Crew
set_option maxHeartbeats 1000000
set_option maxRecDepth 10000
open Go Go.Conc Go.ConcN
open Go.ConcR (KK wgBlock WgAt stA smA rd wr mk Payload DC0)
open Go.Proofs.YtccjdkghgbbliaaGreatDoor.Lift (blk Good Shn)
theorem tN{l:Loc}(h:l.isMemory=true):∃b,blk l=some b:=by
 cases l<;>simp_all[Loc.isMemory,blk]
theorem Dv{l:Loc}{b:Nat}(h:blk l=some b):l.isMemory=true:=by
 cases l<;>simp_all[Loc.isMemory,blk]
theorem low_blk{N b:Nat}{l:Loc}(h:l.low N)(hb:blk l=some b):b<N:=by
 cases l<;>simp_all[Loc.low,blk]
theorem Fb{N:Nat}{x:MemAct}{tc:Touch}(h:x.low N)(ht:x.touch?=some tc){b:Nat}(hb:blk tc.loc=some b):b<N:=by
 cases x with
 |access e=>simp[MemAct.touch?]at ht;subst ht;exact low_blk h hb
 |mark m=>
  cases m<;>simp[MemAct.touch?]at ht<;>(subst ht;simp[blk]at hb;subst hb;exact h)
 |_=>simp[MemAct.touch?]at ht
def Wk(m0 M g:Nat):Prop:=m0≤g∧g<M
structure TI (X:Cf) (m0 M N:Nat) (Ow:Nat→Nat→Prop) (t:Trace):Prop where
 clean:∀said,¬Race said t
 known:∀i x,touchAt t i=some x→x.loc.isMemory=true→Knows t 0 i∨(Shn X.S x.loc∧x.kind=.atomic)∨∃g,Wk m0 M g∧t.g? i=some g∧(x.kind=.atomic→blk x.loc=some X.Wg)
 over:∀i g,t.g? i=some g→g≠0→t.counts i→(∃j,t.g? j=some 0∧HappensBefore t i j)∨Wk m0 M g
 wg:∀(i:Nat) (op:MemOp) (x:Touch),t[i]?=some op→op.act.touch?=some x→blk x.loc=some X.Wg→(x.kind≠.plain∧(x.kind=.said→op.g=0))∨∀g,(g=0∨Wk m0 M g)→Knows t g i
 wrote:∀i x b,touchAt t i=some x→blk x.loc=some b→b<X.B→b≠X.C→b≠X.Wg→¬X.S b→x.write=true→∀g,(g=0∨Wk m0 M g)→Knows t g i
 own:∀g b,Ow g b→∀i x,touchAt t i=some x→blk x.loc=some b→Knows t g i
 cel:∀g,Wk m0 M g→∀i x,touchAt t i=some x→x.loc=.cell ⟨X.C,g-m0,none⟩→Knows t g i
 fre:∀i x,touchAt t i=some x→blk x.loc=some X.C→(∀g,Wk m0 M g→x.loc≠.cell ⟨X.C,g-m0,none⟩)→Knows t 0 i
 seen:∀op∈t,op.act.low N
structure Dom (X:Cf) (N:Nat) (Ow:Nat→Nat→Prop):Prop where
 low:∀g b,Ow g b→X.B≤b
 lt:∀g b,Ow g b→b<N
 one:∀g g' b,Ow g b→Ow g' b→g=g'
theorem Dom.step{X:Cf}{N N' g:Nat}{Ow:Nat→Nat→Prop}{O':Nat→Prop}(h:Dom X N Ow)(hB:X.B≤N)(hN:N≤N')(hO:∀b,O' b→Ow g b∨(N≤b∧b<N')):Dom X N' (upd Ow g O'):=by
 have key:∀g' b,upd Ow g O' g' b→Ow g' b∨(g'=g∧N≤b∧b<N'):=by
  intro g' b hb;by_cases e:g'=g
  ·subst e;rw[upd_same]at hb;exact(hO b hb).imp id λx=>⟨rfl,x⟩
  ·rw[upd_ne Ow O' e]at hb;exact .inl hb
 refine⟨λg' b hb=>?_,λg' b hb=>?_,λg1 g2 b h1 h2=>?_⟩
 ·rcases key _ _ hb with h1|h1
  ·exact h.low _ _ h1
  ·omega
 ·rcases key _ _ hb with h1|h1
  ·exact aB (h.lt _ _ h1) hN
  ·omega
 ·rcases key _ _ h1 with h1|h1<;>rcases key _ _ h2 with h2|h2
  ·exact h.one _ _ _ h1 h2
  ·have:=h.lt _ _ h1;omega
  ·have:=h.lt _ _ h2;omega
  ·rw[h1.1,h2.1]
section
variable {X:Cf} {m0 M N N':Nat} {Ow:Nat→Nat→Prop} {t u:Trace}
theorem TI.step(H:TI X m0 M N Ow t)(hD:Dom X N Ow)(hm0:0<m0)(hB:X.B≤N)(hN:N≤N'){g:Nat}(hg:g=0∨Wk m0 M g){main:Bool}(hmain:main=true→g=0){c:Nat}(hc:Wk m0 M g→c=g-m0)(hc0:g=0→∀h,Wk m0 M h→h-m0≠c)
  {O':Nat→Prop} (hO:∀b,O' b→Ow g b∨(N≤b∧b<N')) {fn:FuncId} {pos:String} {es:Array Event} (hlow:∀e∈es,(MemAct.ofEvent e).low N') (Ti:∀e∈es,∀x,(MemAct.ofEvent e).touch?=some x→Tch X main c (Ow g) N x) :
  TI X m0 M N' (upd Ow g O') (t++MemOp.ofEvents g fn pos es):=by
 have hu:∀op∈MemOp.ofEvents g fn pos es,op.g=g:=λop hop=>by obtain⟨e,_,rfl⟩:=Go.Conc.mem_ofEvents hop;rfl
 have hW:=X.hW;have hC:=X.hC;have hne:=X.ne;have new:∀op∈MemOp.ofEvents g fn pos es,∀x,op.act.touch?=some x→Tch X main c (Ow g) N x:=λop hop x hx=>by
  obtain⟨e,he,rfl⟩:=Go.Conc.mem_ofEvents hop;exact Ti e he x hx
 have at_:∀{i:Nat} {x:Touch},touchAt (t++MemOp.ofEvents g fn pos es) i=some x→(touchAt t i=some x∧i<t.size)∨(Tch X main c (Ow g) N x∧Knows (t++MemOp.ofEvents g fn pos es) g i∧(t++MemOp.ofEvents g fn pos es).g? i=some g):=λ{i x} hx=>by
  obtain⟨op,hop,Dn⟩:=touch_of hx;rcases getElem?_append_cases hop with⟨hi,hop'⟩|⟨_,hopu⟩
  ·exact .inl ⟨by rw[touchAt_of hop'];exact Dn,hi⟩
  ·refine .inr ⟨new op hopu x Dn,?_,by simp[Trace.g?,hop,hu op hopu]⟩;have:=knows_own hop;rwa[hu op hopu]at this
 have key:∀g' b,upd Ow g O' g' b→Ow g' b∨(g'=g∧N≤b∧b<N'):=by
  intro g' b hb;by_cases e:g'=g
  ·subst e;rw[upd_same]at hb;exact(hO b hb).imp id λx=>⟨rfl,x⟩
  ·rw[upd_ne Ow O' e]at hb;exact .inl hb
 refine⟨λsaid=>noRace_append (H.clean said) hu λi a ha op hop b hb hcf=>?_,λi x hx hm=>?_,λi g' hgi hne' hct=>?_,λi op x hop hx hb=>?_,λi x b hx hb h1 h2 h3 h4 h5 g' hg'=>?_,λg' b hgb i x hx hb=>?_,λg' hg' i x hx hl=>?_,λi x hx hb hno=>?_,λop hop=>?_⟩
 ·
  obtain⟨hloc,hmem,hwr,hk⟩:=hcf;obtain⟨bb,hbb⟩:=tN hmem;have hbb':blk b.loc=some bb:=hloc▸hbb;obtain⟨y,hy,hya⟩:=touch_of ha;rcases(new op hop b hb bb hbb').2 with⟨h1,h2,h3,h4,h5⟩|h1|h1|h1|⟨h1,h2,h3⟩
  ·have haw:a.write=true:=by
    rcases hwr with h|h
    ·exact h
    ·rw[h5]at h;cases h
   exact H.wrote i a bb ha hbb h1 h2 h3 h4 haw g hg
  ·exact H.own g bb h1 i a ha hbb
  ·have:=Fb (H.seen y (mem_of_getElem? hy)) hya hbb;omega
  ·rcases hg with rfl|hg
   ·have hbc:bb=X.C:=by rw[h1]at hbb';simpa[blk]using hbb'.symm
    refine H.fre i a ha (hbc▸hbb) λh hh e=>?_;rw[hloc,h1]at e;simp only[Loc.cell.injEq,Addr.mk.injEq,and_true,true_and]at e;exact hc0 rfl h hh e.symm
   ·exact H.cel g hg i a ha (by rw[hloc,h1,hc hg])
  ·subst h1;rcases H.wg i y a hy hya hbb with⟨k1,k2⟩|k
   ·rcases hk with hk|hk|⟨_,hk1,hk2⟩
    ·exact absurd hk k1
    ·exact absurd hk h2
    ·have e1:=k2 hk1;have e2:=hmain (h3 hk2);have:=knows_own hy;rw[e1]at this;rw[e2];exact this
   ·exact k g hg
 ·rcases at_ hx with⟨hx',hi⟩|⟨hT,hK⟩
  ·rcases H.known i x hx' hm with h|h|⟨g',h1,h2,h3⟩
   ·exact .inl (h.app _)
   ·exact .inr (.inl h)
   ·exact .inr (.inr ⟨g',h1,by rw[g?_old hi];exact h2,h3⟩)
  ·rcases hg with rfl|hg
   ·exact .inl hK.1
   ·refine .inr (.inr ⟨g,hg,hK.2,λha=>?_⟩);obtain⟨bb,hbb⟩:=tN hm;rw[hbb,(hT bb hbb).1 ha]
 ·obtain⟨op,hop,hopg⟩:=Option.map_eq_some_iff.1 (show((t++MemOp.ofEvents g fn pos es)[i]?).map (·.g)=some g' from hgi);rcases getElem?_append_cases hop with⟨hi,hop'⟩|⟨_,hopu⟩
  ·rcases H.over i g' (by simp[Trace.g?,hop',hopg]) hne' ((counts_old hi).1 hct)with⟨j,h1,h2⟩|h
   ·refine .inl ⟨j,?_,hb_app _ h2⟩;obtain⟨z,hz,hzg⟩:=Option.map_eq_some_iff.1 (show(t[j]?).map (·.g)=some 0 from h1);rw[g?_old (lt_size_of_getElem? hz)];exact h1
   ·exact .inr h
  ·rw[hu op hopu]at hopg;subst hopg;exact .inr (hg.resolve_left hne')
 ·rcases getElem?_append_cases hop with⟨hi,hop'⟩|⟨_,hopu⟩
  ·exact(H.wg i op x hop' hx hb).imp id λh g' hg'=>(h g' hg').app _
  ·refine .inl ?_;rcases(new op hopu x hx X.Wg hb).2 with⟨_,_,h3,_⟩|h1|h1|h1|⟨_,h2,h3⟩
   ·exact absurd rfl h3
   ·have:=hD.low _ _ h1;omega
   ·omega
   ·rw[h1]at hb;simp[blk]at hb;exact absurd hb hne
   ·exact⟨h2,λe=>(hu op hopu).trans (hmain (h3 e))⟩
 ·rcases at_ hx with⟨hx',hi⟩|⟨hT,hK⟩
  ·exact(H.wrote i x b hx' hb h1 h2 h3 h4 h5 g' hg').app _
  ·rcases(hT b hb).2 with⟨_,_,_,_,k⟩|k|k|k|⟨k,_⟩
   ·rw[h5]at k;cases k
   ·have:=hD.low _ _ k;omega
   ·omega
   ·rw[k]at hb;simp[blk]at hb;exact absurd hb.symm h2
   ·exact absurd k h3
 ·rcases at_ hx with⟨hx',hi⟩|⟨hT,hK⟩
  ·rcases key g' b hgb with h|⟨_,h,_⟩
   ·exact(H.own g' b h i x hx' hb).app _
   ·obtain⟨y,hy,hyx⟩:=touch_of hx';have:=Fb (H.seen y (mem_of_getElem? hy)) hyx hb;omega
  ·rcases key g' b hgb with h|⟨h,_,_⟩
   ·have hlow':=hD.low _ _ h;rcases(hT b hb).2 with⟨k,_⟩|k|k|k|⟨k,_⟩
    ·omega
    ·rw[hD.one g' g b h k];exact hK.1
    ·have:=hD.lt _ _ h;omega
    ·rw[k]at hb;simp[blk]at hb;omega
    ·omega
   ·rw[h];exact hK.1
 ·rcases at_ hx with⟨hx',hi⟩|⟨hT,hK⟩
  ·exact(H.cel g' hg' i x hx' hl).app _
  ·have hb:blk x.loc=some X.C:=by rw[hl];rfl
   rcases(hT _ hb).2 with⟨_,k,_⟩|k|k|k|⟨k,_⟩
   ·exact absurd rfl k
   ·have:=hD.low _ _ k;omega
   ·omega
   ·rw[hl]at k;simp only[Loc.cell.injEq,Addr.mk.injEq,and_true,true_and]at k;rcases hg with h0|hg
    ·exact absurd k (hc0 h0 g' hg')
    ·have e:=hc hg;have:g'=g:=by
      obtain⟨a1,a2⟩:=hg;obtain⟨b1,b2⟩:=hg';omega
     rw[this];exact hK.1
   ·exact absurd k hne
 ·rcases at_ hx with⟨hx',hi⟩|⟨hT,hK⟩
  ·exact(H.fre i x hx' hb hno).app _
  ·rcases(hT _ hb).2 with⟨_,k,_⟩|k|k|k|⟨k,_⟩
   ·exact absurd rfl k
   ·have:=hD.low _ _ k;omega
   ·omega
   ·rcases hg with h0|hg
    ·rw[← h0];exact hK.1
    ·exact absurd (by rw[k,hc hg]) (hno g hg)
   ·exact absurd k hne
 ·rcases Array.mem_append.1 hop with h|h
  ·exact MemAct.low_mono hN (H.seen op h)
  ·obtain⟨e,he,rfl⟩:=Go.Conc.mem_ofEvents h;exact hlow e he
theorem TI.mute(H:TI X m0 M N Ow t)(hn:∀op∈u,op.act.touch?=none)(hl:∀op∈u,op.act.low N):TI X m0 M N Ow (t++u):=by
 have at_:∀{i:Nat} {x:Touch},touchAt (t++u) i=some x→touchAt t i=some x∧i<t.size:=λ{i x} hx=>by
  obtain⟨op,hop,Dn⟩:=touch_of hx;rcases getElem?_append_cases hop with⟨hi,hop'⟩|⟨_,hopu⟩
  ·exact⟨by rw[touchAt_of hop'];exact Dn,hi⟩
  ·rw[hn op hopu]at Dn;cases Dn
 refine⟨λsaid=>noRace_appendMute (H.clean said) hn,λi x hx hm=>?_,λi g' hgi hne' hct=>?_,λi op x hop hx hb=>?_,λi x b hx hb h1 h2 h3 h4 h5 g' hg'=>?_,λg' b hgb i x hx hb=>?_,λg' hg' i x hx hl'=>?_,λi x hx hb hno=>?_,seen_app H.seen hl⟩
 ·obtain⟨hx',hi⟩:=at_ hx;rcases H.known i x hx' hm with h|h|⟨g',h1,h2,h3⟩
  ·exact .inl (h.app _)
  ·exact .inr (.inl h)
  ·exact .inr (.inr ⟨g',h1,by rw[g?_old hi];exact h2,h3⟩)
 ·obtain⟨x,hx,_⟩:=id hct;have hi:=(at_ hx).2;rw[g?_old hi]at hgi;rcases H.over i g' hgi hne' ((counts_old hi).1 hct)with⟨j,h1,h2⟩|h
  ·refine .inl ⟨j,?_,hb_app _ h2⟩;obtain⟨z,hz,hzg⟩:=Option.map_eq_some_iff.1 (show(t[j]?).map (·.g)=some 0 from h1);rw[g?_old (lt_size_of_getElem? hz)];exact h1
  ·exact .inr h
 ·rcases getElem?_append_cases hop with⟨hi,hop'⟩|⟨_,hopu⟩
  ·exact(H.wg i op x hop' hx hb).imp id λh g' hg'=>(h g' hg').app _
  ·rw[hn op hopu]at hx;cases hx
 ·exact(H.wrote i x b (at_ hx).1 hb h1 h2 h3 h4 h5 g' hg').app _
 ·exact(H.own g' b hgb i x (at_ hx).1 hb).app _
 ·exact(H.cel g' hg' i x (at_ hx).1 hl').app _
 ·exact(H.fre i x (at_ hx).1 hb hno).app _
theorem TI.more(H:TI X m0 M N Ow t)(hN:N≤N'):TI X m0 M N' Ow t:=⟨H.clean,H.known,H.over,H.wg,H.wrote,H.own,H.cel,H.fre,λop hop=>MemAct.low_mono hN (H.seen op hop)⟩
theorem TI.fork(H:TI X m0 M N Ow t)(hm0:0<m0)(hM:m0≤M)(h0:Deaf t 0=0)(hd:Deaf t M=0)(hOM:∀b,¬Ow M b)(f0:FuncId)(p0:String)(f1:FuncId) :
  TI X m0 (M+1) N (upd (upd Ow 0 (λ_=>False)) M (Ow 0)) (t++#[{ g:=0,fn:=f0,pos:=p0,act:=.go M },{ g:=M,fn:=f1,pos:=p0,act:=.start }]):=by
 generalize hu:(#[{ g:=0,fn:=f0,pos:=p0,act:=.go M },{ g:=M,fn:=f1,pos:=p0,act:=.start }]:Trace)=u;have hn:∀op∈u,op.act.touch?=none:=by
  intro op hop;subst hu;simp only[List.mem_toArray,List.mem_cons,List.not_mem_nil,or_false]at hop;rcases hop with rfl|rfl<;>rfl
 have hl:∀op∈u,op.act.low N:=by
  intro op hop;subst hu;simp only[List.mem_toArray,List.mem_cons,List.not_mem_nil,or_false]at hop;rcases hop with rfl|rfl<;>trivial
 have at_:∀{i:Nat} {x:Touch},touchAt (t++u) i=some x→touchAt t i=some x∧i<t.size:=λ{i x} hx=>by
  obtain⟨op,hop,Dn⟩:=touch_of hx;rcases getElem?_append_cases hop with⟨hi,hop'⟩|⟨_,hopu⟩
  ·exact⟨by rw[touchAt_of hop'];exact Dn,hi⟩
  ·rw[hn op hopu]at Dn;cases Dn
 have child:∀{i:Nat},Knows t 0 i→Knows (t++u) M i:=λh=>by
  subst hu;exact fork_knows ⟨rfl,rfl⟩ ⟨rfl,rfl⟩ h0 hd h
 have wk:∀{g:Nat},Wk m0 (M+1) g→Wk m0 M g∨g=M:=λh=>by
  obtain⟨a,b⟩:=h;rcases Nat.lt_or_ge _ M with h|h
  ·exact .inl ⟨a,h⟩
  ·exact .inr (by omega)
 have wk':∀{g:Nat},Wk m0 M g→Wk m0 (M+1) g:=λh=>⟨h.1,by have:=h.2;omega⟩
 have B:=H.mute (u:=u) hn hl;refine⟨B.clean,λi x hx hm=>?_,λi g' hgi hne' hct=>(B.over i g' hgi hne' hct).imp id wk',λi op x hop hx hb=>?_,λi x b hx hb h1 h2 h3 h4 h5 g' hg'=>?_,λg' b hgb i x hx hb=>?_,λg' hg' i x hx hl'=>?_,λi x hx hb hno=>B.fre i x hx hb λg hg=>hno g (wk' hg),B.seen⟩
 ·rcases B.known i x hx hm with h|h|⟨g',h1,h2⟩
  ·exact .inl h
  ·exact .inr (.inl h)
  ·exact .inr (.inr ⟨g',wk' h1,h2⟩)
 ·rcases getElem?_append_cases hop with⟨hi,hop'⟩|⟨_,hopu⟩
  ·refine(H.wg i op x hop' hx hb).imp id λh g' hg'=>?_;rcases hg' with h'|h'
   ·exact(h g' (.inl h')).app _
   ·rcases wk h' with h'|rfl
    ·exact(h g' (.inr h')).app _
    ·exact child (h 0 (.inl rfl))
  ·rw[hn op hopu]at hx;cases hx
 ·have h:=H.wrote i x b (at_ hx).1 hb h1 h2 h3 h4 h5;rcases hg' with h'|h'
  ·exact(h g' (.inl h')).app _
  ·rcases wk h' with h'|rfl
   ·exact(h g' (.inr h')).app _
   ·exact child (h 0 (.inl rfl))
 ·by_cases e:g'=M
  ·subst e;rw[upd_same]at hgb;exact child (H.own 0 b hgb i x (at_ hx).1 hb)
  ·rw[upd_ne _ _ e]at hgb;by_cases e0:g'=0
   ·subst e0;rw[upd_same]at hgb;exact hgb.elim
   ·rw[upd_ne _ _ e0]at hgb;exact(H.own g' b hgb i x (at_ hx).1 hb).app _
 ·rcases wk hg' with h'|rfl
  ·exact(H.cel g' h' i x (at_ hx).1 hl').app _
  ·refine child (H.fre i x (at_ hx).1 (by rw[hl'];rfl) λg hg e=>?_);rw[hl']at e;simp only[Loc.cell.injEq,Addr.mk.injEq,and_true,true_and]at e;obtain⟨a,b⟩:=hg;omega
theorem Dom.fork(h:Dom X N Ow):Dom X N (upd (upd Ow 0 (λ_=>False)) M (Ow 0))∨Ow M≠λ_=>False:=by
 by_cases hM:Ow M=λ_=>False
 ·left;have key:∀g b,upd (upd Ow 0 (λ_=>False)) M (Ow 0) g b→(g=M∧Ow 0 b)∨(g≠M∧g≠0∧Ow g b):=by
   intro g b hb;by_cases e:g=M
   ·subst e;rw[upd_same]at hb;exact .inl ⟨rfl,hb⟩
   ·rw[upd_ne _ _ e]at hb;by_cases e0:g=0
    ·subst e0;rw[upd_same]at hb;exact hb.elim
    ·rw[upd_ne _ _ e0]at hb;exact .inr ⟨e,e0,hb⟩
  refine⟨λg b hb=>?_,λg b hb=>?_,λg1 g2 b h1 h2=>?_⟩
  ·rcases key _ _ hb with⟨_,h1⟩|⟨_,_,h1⟩<;>exact h.low _ _ h1
  ·rcases key _ _ hb with⟨_,h1⟩|⟨_,_,h1⟩<;>exact h.lt _ _ h1
  ·rcases key _ _ h1 with⟨e1,k1⟩|⟨e1,f1,k1⟩<;>rcases key _ _ h2 with⟨e2,k2⟩|⟨e2,f2,k2⟩
   ·rw[e1,e2]
   ·exact absurd (h.one _ _ _ k1 k2).symm f2
   ·exact absurd (h.one _ _ _ k1 k2) f1
   ·exact h.one _ _ _ k1 k2
 ·exact .inr hM
def NR(X:Cf)(T0:Nat)(t:Trace):Prop:=∀k,T0≤k→t.act? k≠some (.mark (.release (stA X.Wg)))
theorem NR.app{T0:Nat}(h:NR X T0 t)(hu:∀op∈u,op.act≠.mark (.release (stA X.Wg))):NR X T0 (t++u):=by
 intro k hk e;obtain⟨op,hop,hopa⟩:=Option.map_eq_some_iff.1 (show((t++u)[k]?).map (·.act)=_ from e);rcases getElem?_append_cases hop with⟨hi,hop'⟩|⟨_,hopu⟩
 ·exact h k hk (by simp[Trace.act?,hop',hopa])
 ·exact hu op hopu hopa
theorem TI.acq(H:TI X m0 M N Ow t){T0:Nat}(hrel:∀g,Wk m0 M g→∃r,T0≤r∧RelBy (stA X.Wg) t g r)(hnr:NR X T0 t)(h0:Deaf t 0=0)(hB:X.B≤N)(hm0:0<m0)(f0:FuncId)(p0:String) :
  Past (Shn λb=>X.S b∨b=X.Wg) N (t++#[{ g:=0,fn:=f0,pos:=p0,act:=.mark (.acquire (stA X.Wg)) }]):=by
 generalize hu:(#[{ g:=0,fn:=f0,pos:=p0,act:=.mark (.acquire (stA X.Wg)) }]:Trace)=u;have hone:∀op∈u,op={ g:=0,fn:=f0,pos:=p0,act:=.mark (.acquire (stA X.Wg)) }:=by
  intro op hop;subst hu;simpa using hop
 have hn:∀op∈u,op.act.touch?=none:=λop hop=>by rw[hone op hop];rfl
 have hW:=X.hW;have hl:∀op∈u,op.act.low N:=λop hop=>by rw[hone op hop];show X.Wg<N;omega
 have B:=H.mute (u:=u) hn hl;have e0:(t++u)[t.size]?=some { g:=0,fn:=f0,pos:=p0,act:=.mark (.acquire (stA X.Wg)) }:=by subst hu;simp
 have hq:∀g,∀op∈u,∀d,deafStep g d op=d:=λg op hop d=>by rw[hone op hop];rfl
 have hh:(t++u).heard t.size:=⟨0,g?_of e0,by rw[deaf_old (ak _)];exact h0⟩
 have hnr':NR X T0 (t++u):=hnr.app λop hop=>by rw[hone op hop];simp
 have hrel':∀g,Wk m0 M g→∃r,RelBy (stA X.Wg) (t++u) g r∧r<t.size∧HappensBefore (t++u) r t.size:=λg hg=>by
  obtain⟨r,hr,hR⟩:=hrel g hg;have hg0:(0:Nat)≠g:=by have:=hg.1;omega
  have hR':RelBy (stA X.Wg) (t++u) g r:=hR.appOther (g:=0) (λop hop=>by rw[hone op hop]) hg0;have hlt:=lt_of_act? hR.act;exact⟨r,hR',hlt,.single (.inr ⟨.marked hlt (.inr hR'.act) (act?_of e0) (λk h1 _=>hnr' k (by omega)),hR'.heard,hh⟩)⟩
 have upTo:∀{g i:Nat},Wk m0 M g→(t++u).g? i=some g→(t++u).counts i→HappensBefore (t++u) i t.size:=λ{g i} hg hgi hct=>by
  obtain⟨r,hR,hlt,hb⟩:=hrel' g hg;rcases Nat.lt_trichotomy i r with h|h|h
  ·refine Relation.TransGen.trans (.single (.inl ⟨h,g,hgi,hR.g⟩)) hb
  ·rw[h];exact hb
  ·exact absurd hct (hR.after i h hgi)
 refine⟨B.clean,λi a ha hm=>?_,λi g hgi hne hct=>?_,(Deaf_quiet (hq 0)).trans h0,B.seen⟩
 ·rcases B.known i a ha hm with h|⟨⟨b,hb,hs⟩,h⟩|⟨g,hg,hgi,hat⟩
  ·exact .inl h
  ·exact .inr ⟨⟨b,hb,.inl hs⟩,h⟩
  ·by_cases hct:(t++u).counts i
   ·exact .inl ⟨t.size,_,e0,rfl,.inr (upTo hg hgi hct)⟩
   ·have hka:a.kind=.atomic:=by
     refine Classical.byContradiction λh=>hct ⟨a,ha,hm,.inl h⟩
    exact .inr ⟨⟨X.Wg,hat hka,.inr rfl⟩,hka⟩
 ·rcases B.over i g hgi hne hct with h|h
  ·exact h
  ·exact⟨t.size,g?_of e0,upTo h hgi hct⟩
end
end Crew
end
