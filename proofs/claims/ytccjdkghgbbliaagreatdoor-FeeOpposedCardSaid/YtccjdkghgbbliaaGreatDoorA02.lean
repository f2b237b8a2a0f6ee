/- calls, whole operations, the loops over functions: each comes through over wasted blocks as over whole ones. PRINTED BY A PROGRAM (s4.py). Nothing of the program stands here. -/
import Derived.Fence
import Derived.Test.YtccjdkghgbbliaaGreatDoorA01
set_option linter.all false
namespace Go.Proofs.YtccjdkghgbbliaaGreatDoor
section
namespace Lift
set_option maxHeartbeats 1000000
set_option maxRecDepth 10000
open Go Go.Conc
section
variable [Keep] {P:Program} {S:Nat→Prop} {α β:Type}
theorem OK.JK{f:Program→Sem α}(h:OK P S (f P)):OK P S (Go.program>>=f):=λwp=>eu.bind (Sim.program wp) λa wp' hr _=>by
 simp only[run_program,Result.ok.injEq]at hr;obtain⟨rfl,rfl⟩:=hr;exact h _
theorem MB(t:TypeId)(p:Place):OK P S (p.get t):=by
 unfold Place.get
 (with_reducible repeat' (first|assumption|exact OK.pure _|exact pK _ _|exact(OK.aP _ _ λ_=>OK.bind (aN _) λ_=>OK.pure _)|split|dsimp only))
theorem EJ:∀(l:List FieldStep) (t:TypeId) (x:Place),OK P S (follow l t x):=by
 intro l
 induction l with
 |nil=>intro t x;exact OK.pure _
 |cons s l ih=>
  intro t x;unfold follow
  (with_reducible repeat' (first|assumption|exact OK.pure _|exact aZ _|exact aU _|exact pO _ _ _|exact sD _|exact uj _ _|exact(OK.aP _ _ λ_=>OK.bind (aN _) λ_=>OK.pure _)|exact MB _ _|exact ih _ _|(refine OK.bind ?_ λ_=>?_)|(refine OK.ite (λ_=>?_) λ_=>?_)|split|dsimp only))
theorem MJ(a:Array TypeId)(t:TypeId)(l:Array Value):OK P S (Builtin.ssaWrapNilChk_ a t l):=by
 obtain⟨l⟩:=l;rcases l with _|⟨v,_|⟨u,_|⟨z,_|⟨y,l⟩⟩⟩⟩
 ·exact OK.halt _
 ·exact OK.halt _
 ·exact OK.halt _
 ·cases u<;>first|exact OK.halt _|skip
  cases z<;>first|exact OK.halt _|skip
  cases v<;>first|exact OK.halt _|skip
  rename_i a;cases a with
  |some a=>exact OK.pure _
  |none=>
   refine OK.bind (OK.choose _) λc=>?_
   (with_reducible repeat' (first|assumption|exact OK.pure _|exact OK.halt _|exact OK.choose _|exact aZ _|exact aW _|exact eF _|exact aU _|exact bH _|exact(OK.aP _ _ λ_=>OK.bind (aN _) λ_=>OK.pure _)|(refine OK.bind ?_ λ_=>?_)|(refine OK.ite (λ_=>?_) λ_=>?_)|split|dsimp only))
 ·exact OK.halt _
theorem uo(t:TypeId)(x:Place)(b:Bool)(w:Option String):OK P S (receiverAt t x b w):=by
 unfold receiverAt
 (with_reducible repeat' (first|assumption|exact OK.pure _|exact aZ _|exact aU _|exact pK _ _|exact sD _|exact(OK.aP _ _ λ_=>OK.bind (aN _) λ_=>OK.pure _)|exact MB _ _|exact MJ _ _ _|(refine OK.bind ?_ λ_=>?_)|split|dsimp only))
theorem Bv(t:TypeId)(v:Value)(p:Array FieldStep)(b:Bool):OK P S (receiverVia t v p b):=by
 unfold receiverVia
 (with_reducible repeat' (first|assumption|exact(OK.aP _ _ λ_=>OK.bind (aN _) λ_=>OK.pure _)|exact EJ _ _ _|exact uo _ _ _ _|(refine OK.bind ?_ λ_=>?_)|split|dsimp only))
theorem P7:∀(d:Nat) (t:TypeId) (v:Value) (s:String),OK P S (method d t v s):=by
 intro d
 induction d with
 |zero=>intro t v s;exact OK.halt _
 |succ d ih=>
  intro t v s;unfold method
  (with_reducible repeat' (first|assumption|exact OK.pure _|exact OK.halt _|exact aZ _|exact eF _|exact bH _|exact(OK.aP _ _ λ_=>OK.bind (aN _) λ_=>OK.pure _)|exact MB _ _|exact EJ _ _ _|exact uo _ _ _ _|exact ih _ _ _|(refine OK.bind ?_ λ_=>?_)|split|dsimp only))
theorem Bf:∀(l:List FieldStep) (t:TypeId) (x:Option Value),OK P S (followBlind l t x):=by
 intro l
 induction l with
 |nil=>intro t x;exact OK.pure _
 |cons s l ih=>
  intro t x;unfold followBlind
  (with_reducible repeat' (first|assumption|exact OK.pure _|exact aZ _|exact aU _|exact pO _ _ _|exact(OK.aP _ _ λ_=>OK.bind (aN _) λ_=>OK.pure _)|exact ih _ _|(refine OK.bind ?_ λ_=>?_)|split|dsimp only))
theorem JD:∀(d:Nat) (t:TypeId) (v:Value) (s:String),OK P S (nilAhead d t v s):=by
 intro d
 induction d with
 |zero=>intro t v s;exact OK.pure _
 |succ d ih=>
  intro t v s;unfold nilAhead
  (with_reducible repeat' (first|assumption|exact OK.pure _|exact aZ _|exact eF _|exact aU _|exact(OK.aP _ _ λ_=>OK.bind (aN _) λ_=>OK.pure _)|exact Bf _ _ _|exact ih _ _ _|(refine OK.bind ?_ λ_=>?_)|split|dsimp only))
theorem lJ(l:Nat):OK P S (Instr.getLoop l):=by
 unfold Instr.getLoop
 (with_reducible repeat' (first|assumption|exact OK.pure _|exact aZ _|exact(OK.aP _ _ λ_=>OK.bind (aN _) λ_=>OK.pure _)|(refine OK.getObj _ (λ_=>?_) (by with_unfolding_all exact λ_ h=>h))|split|dsimp only))
theorem Ud(l:Nat)(x:Array Value):OK P S (Instr.yield l x):=by
 unfold Instr.yield
 (with_reducible repeat' (first|assumption|exact OK.pure _|exact aZ _|exact(OK.aP _ _ λ_=>OK.bind (aN _) λ_=>OK.pure _)|exact lJ _|(refine OK.bind ?_ λ_=>?_)|(refine OK.ite (λ_=>?_) λ_=>?_)|split|dsimp only))
theorem fP{l:Nat}{r:Loop}{w w':World}(h:(Instr.getLoop l).run P w=.ok r w'):w'=w∧w.heap[l]?=some (.loop r):=by
 unfold Instr.getLoop at h;rw[Sem.run_bind]at h;cases hh:w.heap[l]? with
 |none=>simp[getObj,Sem.run,hh]at h
 |some o=>
  cases o<;>simp[getObj,Sem.run,hh,stuck]at h
  exact⟨h.2.symm,by rw[h.1]⟩
theorem MF(l:Loop)(h:Good P (.loop l)):OK P S (newObj (.loop l)):=Sim.newObj _ h
theorem Bo:OK P S (newObj (.deferred (some []))):=Sim.newObj _ (Eq.refl (α:=List Deferred) [])
theorem pR(r:Nat)(l:Loop)(h:Good P (.loop l)):OK P S (setObj r (.loop l)):=Sim.setObj _ _ h
theorem BA(r:Nat):OK P S (setObj r (.deferred none)):=Sim.setObj _ _ True.intro
theorem GI(f:FuncId)(t:Array Value)(ps:Array Tmp){a b:Code}(ha:dR P a=true)(hb:dR P b=true)(o:Option Nat):OK P S (Instr.enterLoop f t ps a b o):=by
 have hn:∀n,OK P S (newObj (.loop { state:=.ready,pending:=none,fn:=f,tmps:=t,params:=ps,assign:=a,body:=b,defers:=n })):=λn=>MF _ ⟨ha,hb,λc hc=>by cases hc⟩;unfold Instr.enterLoop
 (with_reducible repeat' (first|assumption|exact OK.pure _|exact(OK.aP _ _ λ_=>OK.bind (aN _) λ_=>OK.pure _)|exact lJ _|exact hn _|exact Bo|(refine OK.bind ?_ λ_=>?_)|split|dsimp only))
theorem Dz(l:Nat):OK P S (Instr.beginRound l):=λwp=>by
 unfold Instr.beginRound;refine eu.bind (lJ _ _) λr wp' hr hg=>?_;obtain⟨rfl,hl⟩:=fP hr;have hG:=hg _ _ hl;refine OK.bind (pR _ { r with state:=.busy } hG) (λ_=>?_) _;cases r.state<;>dsimp only
 all_goals first|exact OK.pure _|exact bH _
theorem Ju(l:Nat){j:Option Code}(hj:∀c,j=some c→dR P c=true):OK P S (Instr.endRound l j):=λwp=>by
 unfold Instr.endRound;refine eu.bind (lJ _ _) λr wp' hr hg=>?_;obtain⟨rfl,hl⟩:=fP hr;have hG:=hg _ _ hl;exact OK.bind (pR _ { r with state:=_,pending:=j } ⟨hG.1,hG.2.1,hj⟩) (λ_=>OK.pure _) _
theorem Md(l:Nat):OK P S (Instr.endLoop l):=λwp=>by
 unfold Instr.endLoop;refine eu.bind (lJ _ _) λr wp' hr hg=>?_;obtain⟨rfl,hl⟩:=fP hr;have hG:=hg _ _ hl;split
 ·exact OK.bind (bH _) (λ_=>OK.bind (pR _ { r with state:=.exhausted } hG) λ_=>OK.pure _) _
 ·exact OK.bind (pR _ { r with state:=.exhausted } hG) (λ_=>OK.pure _) _
theorem IG{l:Nat}{j:Option Code}{w w':World}(hg:∀(b:Nat) (o:Obj),w.heap[b]?=some o→Good P o)(h:(Instr.endLoop l).run P w=.ok j w'):∀c,j=some c→dR P c=true:=by
 unfold Instr.endLoop at h;rw[Sem.run_bind]at h;cases hh:(Instr.getLoop l).run P w with
 |halt x y=>rw[hh]at h;cases h
 |ok r y=>
  rw[hh]at h;obtain⟨rfl,hl⟩:=fP hh;have hG:=hg _ _ hl;simp only[Result.andThen_ok]at h;split at h
  ·exfalso;simp[runtimePanic,goPanic,Sem.run]at h
  ·simp only[Sem.run_bind]at h;cases hs:(setObj l (.loop { r with state:=.exhausted })).run P y with
   |halt x z=>rw[hs]at h;cases h
   |ok u z=>
    rw[hs]at h;simp only[Result.andThen_ok,Sem.run_pure,Result.ok.injEq]at h;obtain⟨rfl,_⟩:=h;exact hG.2.2
theorem zi(l:Nat):OK P S (Instr.takeDeferred l):=by
 unfold Instr.takeDeferred;refine OK.getObj _ (λo=>?_) (by with_unfolding_all exact λ_ h=>h);split
 ·exact OK.bind (BA _) λ_=>OK.pure _
 ·exact OK.halt _
theorem xU{l:Nat}{ds:List Deferred}{w w':World}(hg:∀(b:Nat) (o:Obj),w.heap[b]?=some o→Good P o)(h:(Instr.takeDeferred l).run P w=.ok ds w'):ds=[]:=by
 unfold Instr.takeDeferred at h;rw[Sem.run_bind]at h;cases hh:w.heap[l]? with
 |none=>simp[getObj,Sem.run,hh]at h
 |some o=>
  have hG:=hg _ _ hh;cases o<;>simp[getObj,Sem.run,hh,stuck]at h
  rename_i c;cases c with
  |none=>simp at h
  |some xs=>
   simp[setObj,Sem.run,hh,Sem.bind,pure]at h;obtain⟨rfl,_⟩:=h;exact hG
theorem QH{l:Nat}{x:Array Value}{q:Next}{w w':World}(hg:∀(b:Nat) (o:Obj),w.heap[b]?=some o→Good P o)(h:(Instr.yield l x).run P w=.ok q w'):∃f t a b,q=.round l f t a b∧dR P a=true∧dR P b=true:=by
 unfold Instr.yield at h;rw[Sem.run_bind]at h;cases hh:(Instr.getLoop l).run P w with
 |halt x y=>rw[hh]at h;cases h
 |ok r y=>
  rw[hh]at h;obtain⟨rfl,hl⟩:=fP hh;have hG:=hg _ _ hl;simp only[Result.andThen_ok]at h;split at h
  ·simp[stuck,Sem.run]at h
  ·simp only[Sem.run_pure,Result.ok.injEq]at h;exact⟨_,_,_,_,h.1.symm,hG.1,hG.2.1⟩
theorem MI(fn:Func)(tmps:Array Value):OK P S (results fn tmps):=by
 unfold results;refine OK.bind (OK.aP _ _ λx=>?_) λ_=>OK.pure _
 (with_reducible repeat' (first|assumption|exact OK.pure _|exact pK _ _|exact sD _|exact(OK.aP _ _ λ_=>OK.bind (aN _) λ_=>OK.pure _)|(refine OK.bind ?_ λ_=>?_)|split|dsimp only))
theorem MG(f:Value)(args:Array Value):OK P S (Deferred.ofValue f args):=by
 unfold Deferred.ofValue
 (with_reducible repeat' (first|assumption|exact OK.pure _|exact aZ _|exact(OK.aP _ _ λ_=>OK.bind (aN _) λ_=>OK.pure _)|split|dsimp only))
theorem vH(r:Operand→Value)(c:Call)(t:TypeId):OK P S (resolve r c t):=by
 unfold resolve
 (with_reducible repeat' (first|assumption|exact OK.pure _|exact(OK.aP _ _ λ_=>OK.bind (aN _) λ_=>OK.pure _)|exact MG _ _|split|dsimp only))
def kT(P:Program)(f:FuncId):Prop:=∀fn,P.funcs[f]?=some fn→fn.body.isSome=true∧(fn.name == "runtime.NumGoroutine")=false
theorem qM{f:FuncId}(h:kT P f)(args:Array Value):OK P S (callFunc f args):=by
 unfold callFunc;refine OK.JK ?_;split
 ·exact OK.halt _
 ·rename_i fn hfn;have hb:=(h fn hfn).1;split
  ·exact OK.pure _
  ·have:fn.body.isNone=false:=by
    cases hx:fn.body with
    |none=>rw[hx]at hb;cases hb
    |some _=>rfl
   rw[if_neg (by rw[this];simp)];exact OK.pure _
theorem Mc{b:Builtin}(h:kR b=true)(ats:Array TypeId)(t:TypeId)(cs:Array Bool)(args:Array Value):OK P S (builtin b ats t cs args):=by
 unfold builtin;cases b<;>first|(simp[kR]at h;done)|skip
 all_goals dsimp only
 ·exact OK.bind (PY _ _ _) λ_=>OK.pure _
 ·exact OK.bind (ok_cap _ _ _) λ_=>OK.pure _
 ·exact OK.bind (TV _ _ _) λ_=>OK.pure _
 ·exact OK.bind (ok_len _ _ _) λ_=>OK.pure _
 ·exact OK.bind (ok_max _ _ _) λ_=>OK.pure _
 ·exact OK.bind (ok_min _ _ _) λ_=>OK.pure _
theorem tK{wp:World}{v:Value}{name:String}{args:Array Value}
  (h:∀t u f r w',v=.iface t u→(method (P.types.size+Made.depth) t u name).run P wp=.ok (f,r) w'→kT P f):eu P S wp (callMethod v name args) (callMethod v name args):=by
 unfold callMethod;cases v with
 |nilIface=>exact bH _ _
 |iface t u=>
  dsimp only;refine eu.bind (Sim.program wp) λp wp' hr _=>?_;simp only[run_program,Result.ok.injEq]at hr;obtain⟨rfl,rfl⟩:=hr;refine eu.bind (P7 _ _ _ _ _) λx wp' hr _=>?_;obtain⟨f,r⟩:=x;exact qM (h t u f r wp' rfl hr) _ _
 |_=>exact(OK.halt _:OK P S _) _
theorem Ec{wp:World}{t:Target}{args:Array Value}(hb:wI t=true)(h:∀f,t.leads P wp args=some f→kT P f):eu P S wp (invoke t args) (invoke t args):=by
 unfold invoke;cases t with
 |nil=>exact bH _ _
 |collected r=>exact(OK.halt _:OK P S _) _
 |coroexit c=>cases hb
 |builtin b ats ty cs=>exact Mc hb _ _ _ _ _
 |fn x cap=>
  cases x with
  |func f=>exact qM (h f rfl) _ _
  |yield l=>exact Ud _ _ _
  |via t path f pointer=>
   dsimp only;split
   ·refine eu.bind (Bv _ _ _ _ _) λx wp' _ _=>?_;exact qM (h f rfl) _ _
   ·exact(OK.halt _:OK P S _) _
  |method name=>
   dsimp only;split
   ·rename_i recv hr;refine tK λt u f r w' e hm=>h f ?_;simp only[Target.leads,hr,e,hm]
   ·exact(OK.halt _:OK P S _) _
  |methodOf t name=>
   dsimp only;split
   ·rename_i recv hr;refine eu.bind (aU _ _) λu wp' hu _=>?_;have hu':P.underlying t=some u∧wp'=wp:=by
     unfold underlying at hu;simp only[Sem.run_bind,run_program,Result.andThen_ok]at hu;split at hu
     ·rename_i d hd;simp only[Sem.run_pure,Result.ok.injEq]at hu;exact⟨by rw[hd,hu.1],hu.2.symm⟩
     ·simp[stuck,Sem.run]at hu
    obtain⟨hu1,rfl⟩:=hu';refine tK λt' u' f r w' e hm=>h f ?_;simp only[Target.leads,hr,Option.map_some,hu1]
    revert e hm
    cases u<;>intro e hm<;>(try dsimp only at e ⊢)<;>first|(rw[e];simp only[hm];done)|(cases e;simp only[hm])
   ·exact(OK.halt _:OK P S _) _
theorem fF{t:TypeId}{u:TypeDesc}{w w':World}(hu:(underlying t).run P w=.ok u w'):P.underlying t=some u∧w'=w:=by
 unfold underlying at hu;simp only[Sem.run_bind,run_program,Result.andThen_ok]at hu;split at hu
 ·rename_i d hd;simp only[Sem.run_pure,Result.ok.injEq]at hu;exact⟨by rw[hd,hu.1],hu.2.symm⟩
 ·simp[stuck,Sem.run]at hu
theorem lD{w:World}{a:Addr}{n b:Nat}(hb:b≠a.block):(w.freeze a n).heap[b]?=w.heap[b]?:=by
 unfold World.freeze;split
 ·rfl
 ·show(w.heap.modify a.block _)[b]?=_
  rw[Array.getElem?_modify,if_neg (Ne.symm hb)]
theorem O7{w:World}{a:Addr}{n:Nat}:∃f:Obj→Obj,(∀o,¬Good P o→f o=o)∧f idle=idle∧(∀o,Good P o→Good P (f o))∧∀x:World,(x.freeze a n).heap[a.block]?=(x.heap[a.block]?).map f:=by
 by_cases hn:n=0
 ·refine⟨id,λ_ _=>rfl,rfl,λ_ h=>h,λx=>?_⟩;unfold World.freeze;rw[if_pos hn,Option.map_id];rfl
 ·refine⟨fun
    |.cells c elem (lo,hi)=>.cells c elem (if lo==hi then(a.off,a.off+n)else(min lo a.off,max hi (a.off+n)))
    |o=>o,λo h=>?_,rfl,λo h=>?_,λx=>?_⟩
  ·rcases oz h with⟨_,_,rfl⟩|⟨_,rfl⟩|⟨_,_,rfl⟩<;>rfl
  ·cases o<;>first|exact h|exact True.intro
  ·unfold World.freeze;rw[if_neg hn]
   show(x.heap.modify a.block _)[a.block]?=_
   rw[Array.getElem?_modify,if_pos rfl];cases x.heap[a.block]? with
   |none=>rfl
   |some o=>cases o<;>rfl
theorem qG(w:World)(a:Addr)(n:Nat):(w.freeze a n).os=w.os∧(w.freeze a n).output=w.output∧(w.freeze a n).heap.size=w.heap.size∧(w.freeze a n).tape=w.tape∧(w.freeze a n).drawn=w.drawn:=by
 unfold World.freeze;split
 ·exact⟨rfl,rfl,rfl,rfl,rfl⟩
 ·exact⟨rfl,rfl,Array.size_modify,rfl,rfl⟩
theorem Poi.freeze{wp w:World}(h:Poi P S wp w){a:Addr}(hs:¬S a.block)(n:Nat):Poi P S (wp.freeze a n) (w.freeze a n):=by
 obtain⟨p1,p2,p3,_,_⟩:=qG wp a n;obtain⟨q1,q2,q3,_,_⟩:=qG w a n;obtain⟨f,f1,f2,f3,f4⟩:=O7 (P:=P) (w:=w) (a:=a) (n:=n);refine⟨by rw[p1,q1];exact h.os,by rw[p2,q2];exact h.out,by rw[p3,q3];exact h.size,λb hb=>?_,λb hb=>?_,λb x hx=>?_⟩
 ·by_cases e:b=a.block
  ·subst e;rw[f4,f4];rcases h.same _ hb with q|⟨q1,o,q2,q3,q4⟩
   ·rw[q];exact .inl rfl
   ·exact .inr ⟨by rw[q1,Option.map_some,f2],o,by rw[q2,Option.map_some,f1 o q3],q3,q4⟩
  ·rw[lD e,lD e];exact h.same b hb
 ·have e:b≠a.block:=λe=>hs (e▸hb);rw[lD e,lD e];exact h.iP b hb
 ·by_cases e:b=a.block
  ·subst e;rw[f4]at hx;obtain⟨o,ho,rfl⟩:=Option.map_eq_some_iff.1 hx;exact f3 o (h.views _ _ ho)
  ·rw[lD e]at hx;exact h.views b x hx
theorem at_mark{wp:World}{a:Addr}(hs:¬S a.block):eu P S wp (markStringish a) (markStringish a):=by
 intro w₀ hp hf;have hrun:∀w:World,(markStringish a).run P w=.ok () (match w.shape? a.block with|some (_,n)=>w.freeze ⟨a.block,n,none⟩ 1|none=>w)∧(markStringish a).events P w #[]=#[]:=λw=>by
  unfold markStringish;cases hsh:w.shape? a.block with
  |none=>exact⟨by simp[Go.shape,Sem.run,hsh],by simp[Go.shape,Bind.bind,Sem.bind,Pure.pure,Sem.events,Sem.runT,hsh,-Sem.runT_eq]⟩
  |some x=>obtain⟨x1,x2⟩:=x;exact⟨by simp[Go.shape,Go.freeze,Sem.run,hsh],by simp[Go.shape,Go.freeze,Bind.bind,Sem.bind,Pure.pure,Sem.events,Sem.runT,hsh,-Sem.runT_eq]⟩
 rw[(hrun wp).1,(hrun wp).2];cases hsh:wp.shape? a.block with
 |none=>
  refine⟨0,rfl,rfl,ak _,by simp,λw hw _=>?_⟩;rw[(hrun w).1,(hrun w).2,hw.zJ hs,hsh];exact⟨⟨rfl,hw,rfl,rfl⟩,rfl⟩
 |some x=>
  obtain⟨x1,x2⟩:=x;have tp:∀w:World,(w.freeze ⟨a.block,x2,none⟩ 1).tape=w.tape∧(w.freeze ⟨a.block,x2,none⟩ 1).drawn=w.drawn∧(w.freeze ⟨a.block,x2,none⟩ 1).heap.size=w.heap.size:=λw=>let ⟨_,_,a,b,c⟩:=qG w ⟨a.block,x2,none⟩ 1;⟨b,c,a⟩;refine⟨0,(tp wp).1,(tp wp).2.1,Nat.le_of_eq (tp wp).2.2.symm,by simp,λw hw _=>?_⟩;rw[(hrun w).1,(hrun w).2,hw.zJ hs,hsh];exact⟨⟨rfl,hw.freeze (a:=⟨a.block,x2,none⟩) hs 1,(tp w).1,(tp w).2.1⟩,rfl⟩
theorem xk{wp:World}(e:TypeId)(s:ByteArray):eu P S wp (Conv.stringToBytes e s) (Conv.stringToBytes e s):=by
 intro w₀ hp hf;have hS:∀b,S b→b<wp.heap.size:=λb hb=>let ⟨_,_,_,h2⟩:=hp.iP b hb;(Array.getElem?_eq_some_iff.1 h2).1;refine(?_:eu P S wp (Conv.stringToBytes e s) (Conv.stringToBytes e s)) w₀ hp hf;unfold Conv.stringToBytes;refine eu.bind (Sim.choose _ _) λcap wp1 h1 _=>?_;have hz:wp1.heap.size=wp.heap.size:=by
  simp only[Go.choose,Sem.run]at h1;split at h1<;>(simp only[Result.ok.injEq]at h1;rw[← h1.2])
 refine eu.bind (oH _ _ _) λa wp2 h2 _=>?_;have ha:a.block=wp1.heap.size:=by
  simp[newRow,Go.newObj,Sem.run]at h2;rw[← h2.1]
 refine eu.bind (at_mark λq=>?_) λ_ wp3 _ _=>(OK.pure _:OK P S _) wp3;have:=hS _ q;omega
theorem xI(x:Value):OK P S (Conv.bytesToString x):=by
 unfold Conv.bytesToString
 (with_reducible repeat' (first|assumption|exact OK.pure _|exact aZ _|exact pJ _ _|exact(OK.aP _ _ λ_=>OK.bind (aN _) λ_=>OK.pure _)|(refine OK.o9 _ _ _ λ_ _=>?_)|(refine OK.bind ?_ λ_=>?_)|split|dsimp only))
theorem qO(n:Int):OK P S (Conv.intToString n):=by
 unfold Conv.intToString
 (with_reducible repeat' (first|assumption|exact OK.pure _|exact(OK.aP _ _ λ_=>OK.bind (aN _) λ_=>OK.pure _)|split|dsimp only))
theorem KF{wp:World}{src dst:TypeId}(h:LZ P src dst=true)(x:Value):eu P S wp (convert src dst x) (convert src dst x):=by
 unfold convert;refine eu.bind (aU _ _) λu wp' hu0 _=>?_;obtain⟨hu,rfl⟩:=fF hu0;refine eu.bind (aU _ _) λv wp' hv0 _=>?_;obtain⟨hv,rfl⟩:=fF hv0;unfold LZ at h;rw[hu,hv]at h;cases u<;>first|exact Bool.noConfusion h|skip
 all_goals cases v<;>first|exact Bool.noConfusion h|skip
 case int.int=>
  cases x<;>(try dsimp only)
  all_goals first
   |exact Jz _ _ _
   |exact DJ _ _ _ _
   |exact aW _ _
   |(rename_i a;cases a<;>exact aW _ _)
 case int.string=>
  cases x<;>(try dsimp only)
  all_goals first
   |exact qO _ _
   |exact(OK.pure _:OK P S _) _
   |exact aW _ _
   |(rename_i a;cases a<;>exact aW _ _)
 case string.slice e=>
  replace h:isBytes P e=true:=h;cases x<;>(try dsimp only)
  all_goals first
   |exact aW _ _
   |(rename_i a;cases a<;>exact aW _ _)
   |(rename_i a l c;cases a<;>exact aW _ _)
   |skip
  refine eu.bind (aU _ _) λz wp' hz0 _=>?_;obtain⟨hz,rfl⟩:=fF hz0;unfold isBytes at h;rw[hz]at h;cases z<;>first|exact Bool.noConfusion h|skip
  rename_i k;cases k<;>first|exact Bool.noConfusion h|skip
  exact xk _ _
 case slice.string e=>
  replace h:isBytes P e=true:=h;cases x<;>(try dsimp only)
  all_goals first
   |exact qO _ _
   |exact(OK.pure _:OK P S _) _
   |skip
  all_goals
   refine eu.bind (aU _ _) λz wp' hz0 _=>?_;obtain⟨hz,rfl⟩:=fF hz0;unfold isBytes at h;rw[hz]at h;cases z<;>first|exact Bool.noConfusion h|skip
   rename_i k;cases k<;>first|exact Bool.noConfusion h|skip
   exact xI _ _
theorem jD{r:Operand→Value}{c:Call}{t:TypeId}{d:Deferred}{w w':World}(hc:∀b,c.callee=.builtin b→kR b=true)(h:(resolve r c t).run P w=.ok d w'):wI d.target=true:=by
 unfold resolve at h;cases IZ:c.callee with
 |builtin b=>rw[IZ]at h;simp only[Sem.run_pure,Result.ok.injEq]at h;obtain⟨rfl,_⟩:=h;exact hc b IZ
 |invoke r n=>rw[IZ]at h;simp only[Sem.run_pure,Result.ok.injEq]at h;obtain⟨rfl,_⟩:=h;rfl
 |value f=>
  rw[IZ]at h;simp only at h;unfold Deferred.ofValue at h;split at h
  ·simp only[Sem.run_pure,Result.ok.injEq]at h;obtain⟨rfl,_⟩:=h;rfl
  ·simp only[Sem.run_pure,Result.ok.injEq]at h;obtain⟨rfl,_⟩:=h;rfl
  ·simp[stuck,Sem.run]at h
theorem Oz{wp:World}{r:Operand→Value}{o:Oper}(ho:Gv P o=true)(h:∀f,o.about P wp r=some f→kT P f):eu P S wp (execOp r o) (execOp r o):=by
 have v:∀{t:Sem Value},OK P S t→eu P S wp (do Pure.pure (Next.value (← t))) (do Pure.pure (Next.value (← t))):=λh=>OK.bind h (λ_=>OK.pure _) wp
 have u:∀{t:Sem Unit},OK P S t→eu P S wp (do t;Pure.pure Next.skip) (do t;Pure.pure Next.skip):=λh=>OK.bind h (λ_=>OK.pure _) wp
 unfold execOp;unfold Gv at ho;unfold Oper.about at h;cases hop:o.op<;>rw[hop]at ho h<;>first|(cases ho;done)|skip
 all_goals dsimp only
 case move=>exact(OK.pure _:OK P S _) wp
 case assign=>exact(OK.pure _:OK P S _) wp
 case pick c a b=>exact OK.bind (oC _) (λ_=>OK.pure _) wp
 case alloc=>exact v (Jq _ _ _)
 case box=>exact v (TT _ _)
 case build=>exact v (Jt _ _)
 case buildSlice=>exact v (uh _ _ _)
 case load=>exact v (EK _ _)
 case store=>exact u (BF _ _ _)
 case nilCheck x=>
  revert wp
  suffices hh:OK P S _ from λwp _ _ _=>hh wp
  (with_reducible repeat' (first|assumption|exact OK.pure _|exact OK.program|exact aW _|exact bH _|exact oC _|exact EK _ _|exact BF _ _ _|exact Bc _ _ _|exact Bg _ _ _|exact BD _ _ _ _ _|exact Jq _ _ _|exact TT _ _|exact(OK.aP _ _ λ_=>OK.bind (aN _) λ_=>OK.pure _)|exact Jt _ _|exact uh _ _ _|exact yK _ _ _|exact Bj _ _|exact wJ _ _ _|exact Jw _ _ _|exact Jy _ _ _|exact Ba _ _|exact EL _ _ _ _|exact wK _ _ _ _|exact JF _ _|exact A8 _ _ _ _ _ _|exact Js _ _ _ _|exact JD _ _ _ _|exact vH _ _ _|(refine OK.bind ?_ λ_=>?_)|(refine OK.ite (λ_=>?_) λ_=>?_)|split|dsimp only))
 case binOp=>exact v (OK.bind (A8 _ _ _ _ _ _) λ_=>Js _ _ _ _)
 case unOp=>exact v (JF _ _)
 case convert src dst x=>
  dsimp only at ho;exact eu.bind (KF ho _) λa wp' _ _=>(OK.pure _:OK P S _) wp'
 case makeFunc=>exact v (yK _ _ _)
 case makeMap=>exact v (Bj _ _)
 case makeSlice=>exact v (wJ _ _ _)
 case slice=>exact v (BD _ _ _ _ _)
 case fieldAddr=>exact v (Bc _ _ _)
 case field=>exact v (Jw _ _ _)
 case indexAddr=>exact v (Bg _ _ _)
 case index=>exact v (Jy _ _ _)
 case lookup=>exact v (EL _ _ _ _)
 case mapUpdate=>exact u (wK _ _ _ _)
 case mapEntry=>exact v (JB _ _ _)
 case entryStore=>exact u (DC _ _ _ _)
 case range=>exact v (Ua _ _)
 case next=>exact v (ok_next _ _ _)
 case entry=>exact v (TW _)
 case extract=>exact v (Ba _ _)
 case call c=>
  dsimp only at ho h;refine eu.bind (vH _ _ _ _) λd wp' hd _=>?_;refine Ec (jD (λb hb=>by simp only[hb]at ho;exact ho) hd) λf hf=>h f ?_;simp only[hd];exact hf
end
end Lift
end
section
namespace Lift
set_option maxHeartbeats 1000000
set_option maxRecDepth 10000
open Go Go.Conc
def jc(P:Program):Item→Prop
 |.code c|.inLoop c|.inScope c=>dR P c=true
 |.inRegion ops _=>ops.all (Gv P)=true
 |.inBlock _|.inRangeFunc _|.endRangeFunc _|.beginRound=>True
 |_=>False
structure OkFrame (P:Program) (fr:Frame):Prop where
 todo:∀it∈fr.todo,jc P it
 defers:∀d∈fr.defers,∃r,d.target=.collected r
 kind:fr.kind≠.early
structure OkG (P:Program) (g:Goroutine):Prop where
 frame:OkFrame P g.frame
 callers:∀fr∈g.callers,OkFrame P fr
structure Fit (P:Program) (F:FuncId→Prop):Prop where
 text:∀f,F f→∃fn c,P.funcs[f]?=some fn∧fn.body=some c∧dR P c=true∧(fn.name == "runtime.NumGoroutine")=false
 ahead:P.follows .staticDataAhead=true
 steps:∀g,P.stepOf g=none
section
variable [Keep] {P:Program} {S:Nat→Prop} {F:FuncId→Prop}
theorem Fit.Ro(H:Fit P F){f:FuncId}(h:F f):kT P f:=λfn hfn=>by
 obtain⟨fn',c,h1,h2,_,h3⟩:=H.text f h;rw[h1]at hfn;cases hfn;rw[h2];exact⟨rfl,h3⟩
def Only:GStep→Prop
 |.go g _ _=>g.status=.running∨g.status=.blocked∨g.status=.waiting∨g.status=.finished
 |.ended ..=>True
 |_=>False
def Lifted(P:Program)(F:FuncId→Prop)(S:Nat→Prop)(wp:World)(A:World→GStep):Prop:=
 (∃w₀,Poi P S wp w₀)→Only (A wp)∧∀g' wp' es,A wp=.go g' wp' es→g'.status=.running→g'.dying=Option.none→(F g'.frame.fn∨g'.frame.fn=P.funcs.size)→
  ∃n,wp'.tape=wp.tape∧wp'.drawn=wp.drawn+n∧wp.heap.size≤wp'.heap.size∧(∀e∈es,Off S wp'.heap.size e)∧OkG P g'∧
   ∀w,Poi P S wp w→Agree wp w n→∃w',A w=.go g' w' es∧Poi P S wp' w'∧w'.tape=w.tape∧w'.drawn=w.drawn+n
theorem Lifted.never{wp:World}{A:World→GStep}(ho:Only (A wp))(h:∀g' w' es,A wp=.go g' w' es→g'.status=.running→g'.dying=Option.none→False):Lifted P F S wp A:=
 λ_=>⟨ho,λg' w' es hA hr hd _=>(h g' w' es hA hr hd).elim⟩
theorem jk{es:Array Event}{s:GStep}(h:Only s):Only (GStep.after es s):=by cases s<;>exact h
theorem Lifted.still{wp:World}{g:Goroutine}{A:World→GStep}(h:∀w,A w=.go g w)(hg:(F g.frame.fn∨g.frame.fn=P.funcs.size)→OkG P g)(hs:g.status=.running:=by rfl):Lifted P F S wp A:=by
 refine λ_=>⟨by rw[h];exact .inl hs,λg' wp' es hA hr hd hF=>?_⟩
 rw[h]at hA;cases hA;refine⟨0,rfl,rfl,ak _,by simp,hg hF,λw hw _=>⟨w,h w,hw,rfl,rfl⟩⟩
theorem Lifted.run{α:Type}{wp:World}{t:Sem α}{fn:FuncId}{K:Result α→GStep}{A:World→GStep}(ht:eu P S wp t t)
  (hA:∀w,Fine (t.run P w)→A w=GStep.after (seen P fn (t.events P w #[])) (K (t.run P w)))
  (hbad:¬Fine (t.run P wp)→Only (A wp)∧∀g' w' es,A wp=.go g' w' es→g'.status=.running→g'.dying=Option.none→False)
  (hok:∀a w',t.run P wp=.ok a w'→(∀(b:Nat) (o:Obj),w'.heap[b]?=some o→Good P o)→Lifted P F S w' (λw=>K (.ok a w)))
  (hhalt:∀x w',t.run P wp=.halt x w'→((∃v,x=.panic v)∨x=.goexit)→(∃g,(∀w,K (.halt x w)=.go g w)∧OkG P g∧g.status=.running)∨∃o w'',K (.halt x w')=.ended o w''):Lifted P F S wp A:=by
 rintro⟨w₀,hp⟩;by_cases hf:Fine (t.run P wp)
 ·obtain⟨n,h1,h2,h3,h4,h5⟩:=ht w₀ hp hf;have I8:∃w₁,Poi P S (wor (t.run P wp)) w₁:=by
   have hA:Agree wp { w₀ with tape:=wp.tape,drawn:=wp.drawn } n:=λi _ q=>rfl;have:=(h5 { w₀ with tape:=wp.tape,drawn:=wp.drawn } ⟨hp.os,hp.out,hp.size,hp.same,hp.iP,hp.views⟩ hA).1;cases hr1:t.run P wp<;>cases hr':t.run P { w₀ with tape:=wp.tape,drawn:=wp.drawn }<;>rw[hr1,hr']at this
   ·exact⟨_,this.2.1⟩
   ·exact this.elim
   ·exact this.elim
   ·exact⟨_,this.2.1⟩
  refine⟨?_,λg' wp' es hgo hr hd hF=>?_⟩
  ·rw[hA wp hf];refine jk ?_;cases hrun:t.run P wp with
   |ok a w1=>
    rw[hrun]at I8;obtain⟨w₂,hp₂⟩:=I8;exact(hok a w1 hrun hp₂.views ⟨w₂,hp₂⟩).1
   |halt x w1=>
    rw[hrun]at hf;rcases hhalt x w1 hrun (by cases x<;>first|exact .inl ⟨_,rfl⟩|exact .inr rfl|exact hf.elim)with⟨g,hK,_,hs⟩|⟨o,w2,hK⟩
    ·rw[hK];exact .inl hs
    ·rw[hK];trivial
  rw[hA wp hf]at hgo;cases hrun:t.run P wp with
  |halt x w1=>
   rw[hrun]at h1 h2 h3 h4 h5 hgo I8 hf;rcases hhalt x w1 hrun (by cases x<;>first|exact .inl ⟨_,rfl⟩|exact .inr rfl|exact hf.elim)with⟨g,hK,hG,_⟩|hK
   case inr=>
    obtain⟨o,w2,hK⟩:=hK;rw[hK]at hgo;cases hgo
   rw[hK]at hgo;simp only[GStep.after,GStep.go.injEq]at hgo;obtain⟨rfl,rfl,rfl⟩:=hgo;refine⟨n,h1,h2,h3,λe he=>h4 e (mem_seen (by simpa using he)),hG,λw hw ha=>?_⟩;obtain⟨hl,hev⟩:=h5 w hw ha;cases hr':t.run P w with
   |ok a w'=>rw[hr']at hl;exact hl.elim
   |halt y w'=>
    rw[hr']at hl;obtain⟨rfl,p1,p2,p3⟩:=hl;have hf':Fine (t.run P w):=by rw[hr'];cases x<;>first|trivial|exact hf.elim
    exact⟨w',by rw[hA w hf',hr',hK,hev];rfl,p1,p2,p3⟩
  |ok a w1=>
   rw[hrun]at h1 h2 h3 h4 h5 hgo I8;simp only[wor]at h1 h2 h3 h4 I8;obtain⟨w₂,hp₂⟩:=I8;cases hk:K (.ok a w1)<;>rw[hk]at hgo<;>simp only[GStep.after,reduceCtorEq]at hgo
   rename_i g1 w1' es1;simp only[GStep.go.injEq]at hgo;obtain⟨rfl,rfl,rfl⟩:=hgo;obtain⟨m,k1,k2,k3,k4,k5,k6⟩:=(hok a w1 hrun hp₂.views ⟨w₂,hp₂⟩).2 _ _ _ hk hr hd hF;refine⟨n+m,k1.trans h1,by rw[k2,h2];omega,Nat.le_trans h3 k3,λe he=>?_,k5,λw hw ha=>?_⟩
   ·exact(Array.mem_append.1 he).elim (λx=>(h4 e (mem_seen x)).mono k3) (k4 e)
   ·obtain⟨hl,hev⟩:=h5 w hw (ha.take (by omega));cases hr':t.run P w with
    |halt y w'=>rw[hr']at hl;exact hl.elim
    |ok b w'=>
     rw[hr']at hl;obtain⟨rfl,p1,p2,p3⟩:=hl;obtain⟨w'',q1,q2,q3,q4⟩:=k6 w' p1 (ha.drop h1 h2 p2 p3);refine⟨w'',?_,q2,q3.trans p2,by rw[q4,p3];omega⟩;rw[hA w (by rw[hr'];trivial),hr',hev]
     show GStep.after _ (K (.ok a w'))=_
     have q1':K (.ok a w')=_:=q1;rw[q1'];rfl
 ·exact⟨(hbad hf).1,λg' wp' es hgo hr hd _=>((hbad hf).2 g' wp' es hgo hr hd).elim⟩
def Plain(P:Program):Next→Prop
 |.value _|.skip|.enter _ _=>True
 |.round _ _ _ a b=>dR P a=true∧dR P b=true
 |_=>False
theorem yQ{t:Sem Value}{w w':World}{q:Next}(h:(do pure (Next.value (← t))).run P w=.ok q w'):Plain P q:=by
 rw[Sem.run_bind]at h;cases hr:t.run P w with
 |halt x y=>rw[hr]at h;cases h
 |ok a y=>rw[hr]at h;simp only[Result.andThen_ok,Sem.run_pure,Result.ok.injEq]at h;rw[← h.1];trivial
theorem BR{t:Sem Unit}{w w':World}{q:Next}(h:(do t;pure Next.skip).run P w=.ok q w'):Plain P q:=by
 rw[Sem.run_bind]at h;cases hr:t.run P w with
 |halt x y=>rw[hr]at h;cases h
 |ok a y=>rw[hr]at h;simp only[Result.andThen_ok,Sem.run_pure,Result.ok.injEq]at h;rw[← h.1];trivial
theorem lQ{f:FuncId}(hb:kT P f){args:Array Value}{w w':World}{q:Next}(h:(callFunc f args).run P w=.ok q w'):Plain P q:=by
 unfold callFunc at h;simp only[Sem.run_bind,run_program,Result.andThen_ok]at h;split at h
 ·simp[stuck,Sem.run]at h
 ·rename_i fn hfn;obtain⟨this,hname⟩:=hb fn hfn;split at h
  ·rename_i hn;rw[hname]at hn;cases hn
  ·split at h
   ·rename_i hn;cases hx:fn.body with
    |none=>rw[hx]at this;cases this
    |some _=>rw[hx]at hn;simp at hn
   ·simp only[Sem.run_pure,Result.ok.injEq]at h;rw[← h.1];trivial
theorem run_bind_ok{α β:Type}{t:Sem α}{f:α→Sem β}{w w':World}{b:β}(h:(t>>=f).run P w=.ok b w'):∃a w₁,t.run P w=.ok a w₁∧(f a).run P w₁=.ok b w':=by
 rw[Sem.run_bind]at h;cases hr:t.run P w with
 |halt x y=>rw[hr]at h;cases h
 |ok a y=>rw[hr]at h;exact⟨a,y,rfl,h⟩
theorem iQ{α:Type}{m:String}{w w':World}{b:α}(h:(stuck m:Sem α).run P w=.ok b w'):False:=by simp[stuck,Sem.run]at h
theorem oM{v:Value}{name:String}{args:Array Value}{w w':World}{q:Next}
  (hb:∀t u f r w',v=.iface t u→(method (P.types.size+Made.depth) t u name).run P w=.ok (f,r) w'→kT P f) (h:(callMethod v name args).run P w=.ok q w'):Plain P q:=by
 unfold callMethod at h;cases v with
 |nilIface=>simp[runtimePanic,goPanic,Sem.run]at h
 |iface t u=>
  dsimp only at h;obtain⟨p,w₁,h1,h⟩:=run_bind_ok h;simp only[run_program,Result.ok.injEq]at h1;obtain⟨rfl,rfl⟩:=h1;obtain⟨x,w₂,h2,h⟩:=run_bind_ok h;exact lQ (hb t u x.1 x.2 w₂ rfl h2) h
 |_=>exact(iQ h).elim
theorem wO{t:Target}{args:Array Value}{w w':World}{q:Next}(hg:∀(b:Nat) (o:Obj),w.heap[b]?=some o→Good P o)(hb:wI t=true)(hl:∀f,t.leads P w args=some f→kT P f)
  (h:(invoke t args).run P w=.ok q w'):Plain P q:=by
 unfold invoke at h;cases t with
 |nil=>simp[runtimePanic,goPanic,Sem.run]at h
 |collected r=>exact(iQ h).elim
 |coroexit c=>cases hb
 |builtin b ats ty cs=>
  unfold builtin at h;cases b<;>first|(simp[wI,kR]at hb;done)|skip
  all_goals exact yQ h
 |fn x cap=>
  cases x with
  |func f=>exact lQ (hl f rfl) h
  |yield l=>
   obtain⟨f,t,a,b,rfl,h1,h2⟩:=QH hg h;exact⟨h1,h2⟩
  |via t path f pointer=>
   dsimp only at h;split at h
   ·obtain⟨x,w₁,_,h⟩:=run_bind_ok h;exact lQ (hl f rfl) h
   ·exact(iQ h).elim
  |method name=>
   dsimp only at h;split at h
   ·rename_i recv hr;refine oM (λt u f r w' e hm=>hl f ?_) h;simp only[Target.leads,hr,e,hm]
   ·exact(iQ h).elim
  |methodOf t name=>
   dsimp only at h;split at h
   ·rename_i recv hr;obtain⟨u,w₁,hu,h2⟩:=run_bind_ok h;obtain⟨hu1,rfl⟩:=fF hu;refine oM (λt' u' f r w' e hm=>hl f ?_) h2;simp only[Target.leads,hr,Option.map_some,hu1]
    revert e hm
    cases u<;>intro e hm<;>(try dsimp only at e ⊢)<;>first|(rw[e];simp only[hm];done)|(cases e;simp only[hm])
   ·exact(iQ h).elim
theorem uw{r:Operand→Value}{c:Call}{t:TypeId}{d:Deferred}{w w':World}(h:(resolve r c t).run P w=.ok d w'):w'=w:=by
 unfold resolve at h;cases IZ:c.callee with
 |builtin b=>rw[IZ]at h;simp only[Sem.run_pure,Result.ok.injEq]at h;exact h.2.symm
 |invoke r n=>rw[IZ]at h;simp only[Sem.run_pure,Result.ok.injEq]at h;exact h.2.symm
 |value f=>
  rw[IZ]at h;simp only at h;unfold Deferred.ofValue at h;split at h
  ·simp only[Sem.run_pure,Result.ok.injEq]at h;exact h.2.symm
  ·simp only[Sem.run_pure,Result.ok.injEq]at h;exact h.2.symm
  ·exact(iQ h).elim
theorem GV{r:Operand→Value}{o:Oper}{w w':World}{q:Next}(hg:∀(b:Nat) (o:Obj),w.heap[b]?=some o→Good P o)(ho:Gv P o=true)(hl:∀f,o.about P w r=some f→kT P f)
  (h:(execOp r o).run P w=.ok q w'):Plain P q:=by
 unfold execOp at h;unfold Gv at ho;unfold Oper.about at hl;cases hop:o.op<;>rw[hop]at ho h hl<;>first|(cases ho;done)|skip
 case call c=>
  dsimp only at ho h hl;obtain⟨d,w₁,hd,h2⟩:=run_bind_ok h;obtain rfl:=uw hd;refine wO hg (jD (λb hb=>by simp only[hb]at ho;exact ho) hd) (λf hf=>hl f ?_) h2;simp only[hd];exact hf
 case nilCheck x=>
  dsimp only at h
  revert h
  split
  ·intro h;simp[runtimePanic,goPanic,Sem.run]at h
  ·intro h;simp[runtimePanic,goPanic,Sem.run]at h
  ·intro h;simp[runtimePanic,goPanic,Sem.run]at h
  ·split
   ·intro h;simp[runtimePanic,goPanic,Sem.run]at h
   ·intro h;obtain⟨p,w₁,_,h2⟩:=run_bind_ok h;obtain⟨x,w₂,_,h3⟩:=run_bind_ok h2;split at h3
    ·simp[unsupported,Sem.run]at h3
    ·simp only[Sem.run_pure,Result.ok.injEq]at h3;rw[← h3.1];trivial
   ·intro h;simp only[Sem.run_pure,Result.ok.injEq]at h;rw[← h.1];trivial
  ·intro h;simp only[Sem.run_pure,Result.ok.injEq]at h;rw[← h.1];trivial
 all_goals (try dsimp only at h)
 all_goals first
  |exact yQ h
  |(obtain⟨x,w₁,_,h2⟩:=run_bind_ok h
    simp only[Sem.run_pure,Result.ok.injEq]at h2;rw[← h2.1];trivial)
  |exact BR h
  |(simp only[Sem.run_pure,Result.ok.injEq]at h;rw[← h.1];trivial)
end
end Lift
end
section
namespace Lift
set_option maxHeartbeats 1000000
set_option maxRecDepth 10000
open Go Go.Conc
section
variable [Keep] {P:Program} {S:Nat→Prop} {F:FuncId→Prop}
theorem OkFrame.finish{fr:Frame}(h:OkFrame P fr)(v:Value):OkFrame P (fr.finish v):=by
 obtain⟨ht,hd,hk⟩:=h;unfold Frame.finish;split
 ·rename_i ops i rest k htodo;exact⟨λit hit=>by
   rcases List.mem_cons.1 hit with rfl|hit
   ·exact ht (.inRegion ops (i::rest)) (by rw[htodo];simp)
   ·exact ht it (by rw[htodo];simp[hit]),hd,hk⟩
 ·rename_i l k htodo;exact⟨λit hit=>by
   rcases List.mem_cons.1 hit with rfl|hit
   ·trivial
   ·exact ht it (by rw[htodo];simp[hit]),hd,hk⟩
 ·rename_i k htodo;exact⟨λit hit=>ht it (by rw[htodo];simp[hit]),hd,hk⟩
 ·rename_i d wr resume saved k htodo;exact(ht (.call d wr resume saved) (by rw[htodo];simp)).elim
 ·rename_i row args k htodo;have hbad:=ht _ (show _∈fr.todo from(by rw[htodo];exact List.mem_cons_self ..));exact hbad.elim
 ·exact⟨ht,hd,hk⟩
theorem OkFrame.raise{fr:Frame}(h:OkFrame P fr)(vs:List PanicEntry):OkFrame P (fr.raise vs):=by
 unfold Frame.raise;split<;>exact⟨h.todo,h.defers,h.kind⟩
theorem jL(H:Fit P F){f:FuncId}(hf:F f∨f=P.funcs.size)(args:Array Value){k:CallKind}(hk:k≠.early):OkFrame P (Frame.enter P f args k):=by
 refine⟨λit hit=>?_,(λd hd=>by cases hd),hk⟩;simp only[Frame.enter,List.mem_singleton]at hit;subst hit;rcases hf with hf|rfl
 ·obtain⟨fn,c,h1,h2,h3,_⟩:=H.text f hf;simp only[h1,Option.bind_some,h2,Option.getD_some];exact h3
 ·simp[jc,dR]
theorem Dy{l:Nat}{f:FuncId}{t:Array Value}{a b:Code}(ha:dR P a=true)(hb:dR P b=true){k:CallKind}(hk:k≠.early):OkFrame P (Frame.round l f t a b k):=by
 refine⟨λit hit=>?_,(λd hd=>by cases hd),hk⟩;simp only[Frame.round,List.mem_cons,List.not_mem_nil,or_false]at hit;rcases hit with rfl|rfl|rfl
 ·exact ha
 ·trivial
 ·exact hb
theorem iJ(s:GStep):GStep.after #[] s=s:=by cases s<;>simp[GStep.after]
theorem jE(fn:FuncId):seen P fn #[]=#[]:=rfl
theorem OW(H:Fit P F){fr:Frame}{cs:List Frame}{g:Nat}{w w':World}{g':Goroutine}{es:Array Event}(h:early P fr cs none g w=.go g' w' es):False:=by
 unfold early at h;simp only[H.ahead,H.steps g,Bool.not_true,Bool.false_eq_true,if_false]at h;cases h
theorem Q7{es es':Array Event}{s:GStep}{g:Goroutine}{w:World}(h:GStep.after es s=.go g w es'):∃es'',s=.go g w es'':=by
 cases s<;>simp only[GStep.after,reduceCtorEq,GStep.go.injEq]at h
 obtain⟨rfl,rfl,_⟩:=h;exact⟨_,rfl⟩
theorem F6{fr:Frame}{cs:List Frame}{m:String}{w w':World}{g':Goroutine}{es:Array Event}(h:endFatal P fr cs none m w=.go g' w' es)(hd:g'.dying=none):False:=by
 unfold endFatal at h;dsimp only at h;split at h
 ·unfold dieOf at h;simp only[GStep.go.injEq]at h;rw[← h.1]at hd;cases hd
 ·cases h
 ·cases h
theorem Dc{fr:Frame}{cs:List Frame}{m:String}{w:World}:Only (endFatal P fr cs none m w):=by
 unfold endFatal;dsimp only;split
 ·exact .inl rfl
 ·trivial
 ·trivial
theorem KR(H:Fit P F){fr:Frame}{cs:List Frame}{g:Nat}{w:World}:Only (early P fr cs none g w):=by
 unfold early;simp only[H.ahead,H.steps g,Bool.not_true,Bool.false_eq_true,if_false];trivial
theorem F7{fr:Frame}{m:String}{w w':World}{g':Goroutine}{es:Array Event}(h:endThrow fr m w=.go g' w' es)(hd:g'.dying=none):False:=by
 unfold endThrow dieOf at h;simp only[GStep.go.injEq]at h;rw[← h.1]at hd;cases hd
def nH(P:Program)(fr:Frame)(cs:List Frame):Result Next→GStep
 |.ok q w=>stepG.apply P true fr cs none (Sem.pure q) w
 |.halt x w=>stepG.apply P true fr cs none (Sem.halt x) w
theorem Rj{fr:Frame}(hk:fr.kind≠.early){cs:List Frame}{t:Sem Next}{w:World}(hf:Fine (t.run P w)) :
  stepG.apply P true fr cs none t w=GStep.after (seen P fr.fn (t.events P w #[])) (nH P fr cs (t.run P w)):=by
 have hk':(fr.kind==CallKind.early)=false:=by simpa using hk
 cases hr:t.run P w with
 |ok q w'=>
  unfold nH stepG.apply;simp only[if_true,Sem.runT_eq,hr,hk',Bool.false_eq_true,if_false,Sem.run,Sem.events_pure',jE,iJ]
 |halt x w'=>
  rw[hr]at hf;unfold nH stepG.apply;cases x<;>first|exact hf.elim|skip
  all_goals simp only[if_true,Sem.runT_eq,hr,hk',Bool.false_eq_true,if_false,Sem.run,Sem.events_halt,jE,iJ]
theorem pG(H:Fit P F){wp:World}{t:Sem Next}{fr:Frame}{cs:List Frame}(ht:eu P S wp t t)(hfr:OkFrame P fr)(hcs:∀x∈cs,OkFrame P x)(hpl:∀q w',t.run P wp=.ok q w'→Plain P q) :
  Lifted P F S wp (λw=>stepG.apply P true fr cs none t w):=by
 have hk':(fr.kind==CallKind.early)=false:=by simpa using hfr.kind
 have hwrap:(match fr.todo with|.call _ true _ _::_=>CallKind.wrapped|_=>CallKind.normal)=.normal:=by
  split
  ·rename_i d x y k htodo;exact(hfr.todo (.call d true x y) (by rw[htodo];simp)).elim
  ·rfl
 refine Lifted.run (K:=nH P fr cs) (fn:=fr.fn) ht (λw hf=>Rj hfr.kind hf) ?_ ?_ ?_
 ·intro hbad;refine⟨?_,λg' w' es hgo hr hd=>?_⟩
  ·unfold stepG.apply;cases hrun:t.run P wp with
   |ok q w1=>rw[hrun]at hbad;exact(hbad trivial).elim
   |halt x w1=>
    rw[hrun]at hbad;simp only[if_true,Sem.runT_eq,hrun];refine jk ?_;cases x with
    |panic v=>exact(hbad trivial).elim
    |goexit=>exact(hbad trivial).elim
    |fatal m=>exact Dc
    |unsupported u=>cases u<;>first|trivial|exact KR H
    |blocked=>exact .inr (.inl rfl)
    |waiting=>exact .inr (.inr (.inl rfl))
    |exit c=>trivial
    |stuck m=>trivial
    |throw m=>exact .inl rfl
  unfold stepG.apply at hgo;cases hrun:t.run P wp with
  |ok q w1=>rw[hrun]at hbad;exact hbad trivial
  |halt x w1=>
   rw[hrun]at hbad;simp only[if_true,Sem.runT_eq,hrun]at hgo;obtain⟨es'',hgo⟩:=Q7 hgo;cases x with
   |panic v=>exact hbad trivial
   |goexit=>exact hbad trivial
   |blocked=>simp only[GStep.go.injEq]at hgo;rw[← hgo.1]at hr;cases hr
   |waiting=>simp only[GStep.go.injEq]at hgo;rw[← hgo.1]at hr;cases hr
   |exit c=>cases hgo
   |fatal m=>exact F6 hgo hd
   |throw m=>exact F7 hgo hd
   |stuck m=>cases hgo
   |unsupported u=>
    cases u<;>first|(cases hgo;done)|exact OW H hgo
 ·intro q w' hrun hg;have hP:=hpl q w' hrun;cases q<;>first|exact hP.elim|skip
  case value v=>
   refine Lifted.still (g:={ frame:=fr.finish v,callers:=cs,status:=.running,dying:=none }) (λw=>?_) λ_=>⟨hfr.finish v,hcs⟩
   simp only[nH,stepG.apply,if_true,Sem.runT_eq,Sem.run,hk',Bool.false_eq_true,if_false,Sem.events_pure',jE,iJ]
  case skip=>
   refine Lifted.still (g:={ frame:=fr.finish undef,callers:=cs,status:=.running,dying:=none }) (λw=>?_) λ_=>⟨hfr.finish undef,hcs⟩
   simp only[nH,stepG.apply,if_true,Sem.runT_eq,Sem.run,hk',Bool.false_eq_true,if_false,Sem.events_pure',jE,iJ]
  case enter f args=>
   refine Lifted.still (g:={ frame:=Frame.enter P f args .normal,callers:=fr::cs,status:=.running,dying:=none }) (λw=>?_) λhF=>⟨jL H hF args (by simp),λx hx=>?_⟩
   ·simp only[nH,stepG.apply,if_true,Sem.runT_eq,Sem.run,hk',Bool.false_eq_true,if_false,Sem.events_pure',jE,iJ];exact congrArg (λk=>GStep.go { frame:=Frame.enter P f args k,callers:=fr::cs,status:=.running,dying:=none } w) hwrap
   ·rcases List.mem_cons.1 hx with rfl|hx
    ·exact hfr
    ·exact hcs x hx
  case round l f tm a b=>
   refine Lifted.still (g:={ frame:=Frame.round l f tm a b .normal,callers:=fr::cs,status:=.running,dying:=none }) (λw=>?_) λhF=>⟨Dy hP.1 hP.2 (by simp),λx hx=>?_⟩
   ·simp only[nH,stepG.apply,if_true,Sem.runT_eq,Sem.run,hk',Bool.false_eq_true,if_false,Sem.events_pure',jE,iJ]
   ·rcases List.mem_cons.1 hx with rfl|hx
    ·exact hfr
    ·exact hcs x hx
 ·rintro x w' hrun (⟨v,rfl⟩|rfl)
  ·refine .inl ⟨{ frame:=fr.raise [{ v,recovered:=false }],callers:=cs,status:=.running,dying:=none },λw=>?_,⟨hfr.raise _,hcs⟩,rfl⟩;simp only[nH,stepG.apply,if_true,Sem.runT_eq,Sem.run,hk',Bool.false_eq_true,if_false,Sem.events_halt,jE,iJ]
  ·refine .inl ⟨{ frame:=fr.raise [goexitEntry],callers:=cs,status:=.running,dying:=none },λw=>?_,⟨hfr.raise _,hcs⟩,rfl⟩;simp only[nH,stepG.apply,if_true,Sem.runT_eq,Sem.run,hk',Bool.false_eq_true,if_false,Sem.events_halt,jE,iJ]
end
end Lift
end
section
namespace Lift
set_option maxHeartbeats 1000000
set_option maxRecDepth 10000
open Go Go.Conc
section
variable [Keep] {P:Program} {S:Nat→Prop} {F:FuncId→Prop}
theorem OkFrame.at{fr fr':Frame}(h:OkFrame P fr)(h1:fr'.todo=fr.todo)(h2:fr'.defers=fr.defers)(h3:fr'.kind=fr.kind):OkFrame P fr':=⟨by rw[h1];exact h.todo,by rw[h2];exact h.defers,by rw[h3];exact h.kind⟩
theorem OkFrame.to{fr:Frame}(h:OkFrame P fr){todo:List Item}(ht:∀it∈todo,jc P it):OkFrame P { fr with todo }:=⟨ht,h.defers,h.kind⟩
theorem jX(H:Fit P F){wp:World}{fr:Frame}{cs:List Frame}(hfr:OkFrame P fr)(hcs:∀x∈cs,OkFrame P x)(v:Value):Lifted P F S wp (λw=>doReturn P true fr cs none v w):=by
 cases cs with
 |cons c rest=>
  have hc:=hcs c (by simp);have hr:∀x∈rest,OkFrame P x:=λx hx=>hcs x (by simp[hx]);cases hk:fr.kind with
  |early=>exact(hfr.kind hk).elim
  |normal=>exact Lifted.still (g:={ frame:=c.finish v,callers:=rest,status:=.running,dying:=none }) (λw=>by simp only[doReturn,hk]) λ_=>⟨hc.finish v,hr⟩
  |wrapped=>exact Lifted.still (g:={ frame:=c.finish v,callers:=rest,status:=.running,dying:=none }) (λw=>by simp only[doReturn,hk]) λ_=>⟨hc.finish v,hr⟩
  |deferred=>
   have:∃c':Frame,OkFrame P c'∧∀w,doReturn P true fr (c::rest) none v w=.go { frame:=c',callers:=rest,status:=.running,dying:=none } w:=by
    simp only[doReturn,hk];split
    ·split
     ·refine⟨_,?_,λ_=>rfl⟩;exact hc.at rfl rfl rfl
     ·refine⟨_,?_,λ_=>rfl⟩;exact hc.at rfl rfl rfl
    ·exact⟨_,hc,λ_=>rfl⟩
   obtain⟨c',h1,h2⟩:=this;exact Lifted.still h2 λ_=>⟨h1,hr⟩
  |report=>
   have:∃c':Frame,OkFrame P c'∧∀w,doReturn P true fr (c::rest) none v w=.go { frame:=c',callers:=rest,status:=.running,dying:=none } w:=by
    simp only[doReturn,hk];split
    ·split
     ·refine⟨_,?_,λ_=>rfl⟩;exact hc.at rfl rfl rfl
     ·refine⟨_,?_,λ_=>rfl⟩;exact hc.at rfl rfl rfl
    ·exact⟨_,hc,λ_=>rfl⟩
   obtain⟨c',h1,h2⟩:=this;exact Lifted.still h2 λ_=>⟨h1,hr⟩
 |nil=>
  have key:(∃k,∀w,doReturn P true fr [] none v w=.go { frame:=Frame.enter P (P.initFrom (k+1)) #[] .normal,callers:=[],status:=.running,dying:=none } w)∨(∀w,∃o w',doReturn P true fr [] none v w=.ended o w'):=by
   unfold doReturn;simp only[Bool.not_true,Bool.false_eq_true,if_false];cases fr.kind<;>dsimp only
   all_goals first
    |exact .inr λw=>⟨_,_,rfl⟩
    |(cases P.inits.idxOf? fr.fn with
      |none=>exact .inr λw=>⟨_,_,rfl⟩
      |some k=>exact .inl ⟨k,λw=>rfl⟩)
  rcases key with⟨k,hk⟩|hk
  ·exact Lifted.still hk λhF=>⟨jL H hF _ (by simp),λx hx=>by cases hx⟩
  ·obtain⟨o,w'',h2⟩:=hk wp;refine Lifted.never (by rw[h2];trivial) λg' w' es h _ _=>?_;rw[h2]at h;cases h
theorem wV{l:Nat}{w w':World}{x:Halt}(h:(Instr.takeDeferred l).run P w=.halt x w'):¬((∃v,x=.panic v)∨x=.goexit):=by
 unfold Instr.takeDeferred at h;rw[Sem.run_bind]at h;cases hh:w.heap[l]? with
 |none=>simp[getObj,Sem.run,hh]at h;rw[← h.1];simp
 |some o=>
  cases o<;>simp[getObj,Sem.run,hh,stuck]at h<;>first|(rw[← h.1];simp;done)|skip
  rename_i c;cases c with
  |none=>simp[stuck,Sem.run]at h;rw[← h.1];simp
  |some xs=>simp[setObj,Sem.run,hh,Sem.bind,pure]at h
theorem ug(H:Fit P F){wp:World}(hg:∀(b:Nat) (o:Obj),wp.heap[b]?=some o→Good P o){fr:Frame}{cs:List Frame}(hfr:OkFrame P fr)(hcs:∀x∈cs,OkFrame P x):Lifted P F S wp (λw=>unwind P true fr cs none w):=by
 cases hd:fr.defers with
 |cons d ds=>
  obtain⟨r,hr⟩:=hfr.defers d (by rw[hd];simp);have hds:∀x∈ds,∃r,x.target=.collected r:=λx hx=>hfr.defers x (by rw[hd];simp[hx]);obtain⟨tg,args⟩:=d;simp only at hr;subst hr
  refine Lifted.run (t:=Instr.takeDeferred r) (fn:=fr.fn) (K:=fun
   |.ok calls w=>.go { frame:={ fr with defers:=calls++ds },callers:=cs,status:=.running,dying:=none } w
   |.halt _ w=>.ended (.stuck "the deferred calls of a range-over-func loop have been taken" (fr.pos P)) w) (zi r wp) (λw _=>?_) ?_ ?_ ?_
  ·unfold unwind;rw[hd];simp only[Sem.runT_eq];rfl
  ·intro hbad;cases hrun:(Instr.takeDeferred r).run P wp with
   |ok a w1=>rw[hrun]at hbad;exact(hbad trivial).elim
   |halt x w1=>
    have e:∃es o,unwind P true fr cs none wp=GStep.after es (.ended o w1):=by
     unfold unwind;rw[hd];simp only[Sem.runT_eq,hrun];exact⟨_,_,rfl⟩
    obtain⟨es,o,e⟩:=e;refine⟨by rw[e];exact jk trivial,λg' w' es' hgo _ _=>?_⟩;rw[e]at hgo;cases hgo
  ·intro calls w' hrun _;obtain rfl:=xU hg hrun;exact Lifted.still (λw=>rfl) λ_=>⟨⟨hfr.todo,hds,hfr.kind⟩,hcs⟩
  ·intro x w' hrun hx;exact(wV hrun hx).elim
 |nil=>
  cases hm:fr.mode with
  |run=>
   refine Lifted.never (by unfold unwind;simp only[hd,hm];trivial) λg' w' es h _ _=>?_;unfold unwind at h;simp only[hd,hm]at h;cases h
  |panicking chain=>
   cases cs with
   |cons c rest=>
    have hcat:fr.catches P=false:=by
     unfold Frame.catches;split
     ·rename_i d wr rs sv k _ htodo;exact(hfr.todo (.call d wr rs sv) (by rw[htodo];simp)).elim
     ·rfl
    refine Lifted.still (g:={ frame:=c.raise chain,callers:=rest,status:=.running,dying:=none }) (λw=>?_) λ_=>⟨(hcs c (by simp)).raise _,λx hx=>hcs x (by simp[hx])⟩
    unfold unwind;simp only[hd,hm,hcat,Bool.false_eq_true,if_false]
   |nil=>
    refine Lifted.never (by
     unfold unwind;simp only[hd,hm];split
     ·trivial
     ·split
      ·exact .inr (.inr (.inr rfl))
      ·split
       ·exact .inl rfl
       ·trivial
       ·trivial) λg' w' es h hr hd'=>?_
    unfold unwind at h;simp only[hd,hm]at h;split at h
    ·cases h
    ·split at h
     ·simp only[GStep.go.injEq]at h;rw[← h.1]at hr;cases hr
     ·split at h
      ·simp only[GStep.go.injEq]at h;rw[← h.1]at hd';cases hd'
      ·cases h
      ·cases h
  |returning=>
   cases hfn:P.funcs[fr.fn]? with
   |none=>
    have e:(λw=>unwind P true fr cs none w)=λw=>doReturn P true fr cs none (fr.tmps.getD 0 undef) w:=by
     funext w
     unfold unwind;simp only[hd,hm,hfn]
    rw[e];exact jX H hfr hcs _
   |some fn=>
    refine Lifted.run (t:=results fn fr.tmps) (fn:=fr.fn) (K:=fun
     |.ok v w=>doReturn P true fr cs none v w
     |.halt (.stuck s) w=>.ended (.stuck s (fr.pos P)) w
     |.halt _ w=>.ended (.stuck "return: the result variables cannot be read" (fr.pos P)) w) (MI fn fr.tmps wp) (λw _=>?_) ?_ ?_ ?_
    ·unfold unwind;simp only[hd,hm,hfn,Sem.runT_eq];rfl
    ·intro hbad;cases hrun:(results fn fr.tmps).run P wp with
     |ok a w1=>rw[hrun]at hbad;exact(hbad trivial).elim
     |halt x w1=>
      have e:∃es o,unwind P true fr cs none wp=GStep.after es (.ended o w1):=by
       unfold unwind;simp only[hd,hm,hfn,Sem.runT_eq,hrun];cases x<;>exact⟨_,_,rfl⟩
      obtain⟨es,o,e⟩:=e;refine⟨by rw[e];exact jk trivial,λg' w' es' hgo _ _=>?_⟩;rw[e]at hgo;cases hgo
    ·intro v w' hrun hg;exact jX H hfr hcs v
    ·intro x w' hrun hx;refine .inr ?_;cases x<;>exact⟨_,_,rfl⟩
theorem O5{id:Nat}:∀{k k':List Item},(∀it∈k,jc P it)→exitTo id k=some k'→∀it∈k',jc P it:=by
 intro k
 induction k with
 |nil=>intro k' _ h;cases h
 |cons x k ih=>
  intro k' hk h;have hk':∀it∈k,jc P it:=λit hit=>hk it (by simp[hit]);cases x with
  |inBlock id'=>
   simp only[exitTo]at h;split at h
   ·cases h;exact hk'
   ·exact ih hk' h
  |_=>exact ih hk' (by simpa only[exitTo]using h)
theorem Gf{l:Nat}:∀{c c':Code},dR P c=true→findLabel c l=some c'→dR P c'=true:=by
 intro c
 induction c with
 |seq a b iha ihb=>
  intro c' hc h;simp only[dR,Bool.and_eq_true]at hc;simp only[findLabel]at h;split at h
  ·rename_i rest hrest;cases h;simp only[dR,Bool.and_eq_true];exact⟨iha hc.1 hrest,hc.2⟩
  ·exact ihb hc.2 h
 |label l'=>
  intro c' hc h;simp only[findLabel]at h;split at h
  ·cases h;rfl
  ·cases h
 |_=>intro c' hc h;cases h
theorem O9{l:Nat}:∀{k k':List Item},(∀it∈k,jc P it)→gotoIn l k=some k'→∀it∈k',jc P it:=by
 intro k
 induction k with
 |nil=>intro k' _ h;cases h
 |cons x k ih=>
  intro k' hk h;have hk':∀it∈k,jc P it:=λit hit=>hk it (by simp[hit]);cases x with
  |inScope body=>
   have hb:dR P body=true:=hk (.inScope body) (by simp);simp only[gotoIn]at h;split at h
   ·rename_i rest hrest;cases h;intro it hit;rcases List.mem_cons.1 hit with rfl|hit
    ·exact Gf hb hrest
    ·rcases List.mem_cons.1 hit with rfl|hit
     ·exact hb
     ·exact hk' it hit
   ·exact ih hk' h
  |_=>exact ih hk' (by simpa only[gotoIn]using h)
end
end Lift
end
section
namespace Lift
set_option maxHeartbeats 1000000
set_option maxRecDepth 10000
open Go Go.Conc
section
variable [Keep] {P:Program} {S:Nat→Prop} {F:FuncId→Prop}
theorem Df{l:Nat}{j:Option Code}{w w':World}{x:Halt}(h:(Instr.endRound l j).run P w=.halt x w'):¬((∃v,x=.panic v)∨x=.goexit):=by
 unfold Instr.endRound at h;rw[Sem.run_bind]at h;cases hh:(Instr.getLoop l).run P w with
 |halt y w1=>
  rw[hh]at h;unfold Instr.getLoop at hh;rw[Sem.run_bind]at hh;cases ho:w.heap[l]? with
  |none=>simp[getObj,Sem.run,ho]at hh;cases h;rw[← hh.1];simp
  |some o=>cases o<;>simp[getObj,Sem.run,ho,stuck]at hh<;>(cases h;rw[← hh.1];simp)
 |ok r w1=>
  rw[hh]at h;obtain⟨rfl,hl⟩:=fP hh;simp[setObj,Sem.run,hl,Sem.bind,pure,Result.andThen]at h
theorem kH(H:Fit P F){wp:World}{fr:Frame}{cs:List Frame}(hfr:OkFrame P fr)(hcs:∀x∈cs,OkFrame P x){A:World→GStep}{j:Option Code}(hj:∀c,j=some c→dR P c=true)
  (h1:fr.roundOf=none→(∀w,A w=.go { frame:={ fr with mode:=.returning },callers:=cs,status:=.running,dying:=none } w)∨(∀w,∃o w',A w=.ended o w'))
  (h2:∀l,fr.roundOf=some l→∀w,A w=GStep.after (seen P fr.fn ((Instr.endRound l j).events P w #[])) (match (Instr.endRound l j).run P w with
   |.ok v w=>doReturn P true fr cs none v w
   |.halt _ w=>.ended (.stuck "range over a function: no such loop" (fr.pos P)) w)):Lifted P F S wp A:=by
 cases hro:fr.roundOf with
 |none=>
  rcases h1 hro with h|h
  ·exact Lifted.still h λ_=>⟨hfr.at rfl rfl rfl,hcs⟩
  ·obtain⟨o,w'',h2⟩:=h wp;refine Lifted.never (by rw[h2];trivial) λg' w' es hgo _ _=>?_;rw[h2]at hgo;cases hgo
 |some l=>
  refine Lifted.run (t:=Instr.endRound l j) (fn:=fr.fn) (K:=fun
   |.ok v w=>doReturn P true fr cs none v w
   |.halt _ w=>.ended (.stuck "range over a function: no such loop" (fr.pos P)) w) (Ju l hj wp) (λw _=>(h2 l hro w).trans (by congr 1)) ?_ ?_ ?_
  ·intro hbad;rw[h2 l hro];cases hrun:(Instr.endRound l j).run P wp with
   |ok a w1=>rw[hrun]at hbad;exact(hbad trivial).elim
   |halt x w1=>exact⟨jk trivial,λg' w' es' hgo _ _=>by cases hgo⟩
  ·intro v w' hrun _;exact jX H hfr hcs v
  ·intro x w' hrun hx;exact(Df hrun hx).elim
theorem Lifted.congr{wp:World}{A B:World→GStep}(h:∀w,A w=B w)(hB:Lifted P F S wp B):Lifted P F S wp A:=by
 have:A=B:=funext h;rw[this];exact hB
theorem Dh{f:FuncId}{t:Array Value}{ps:Array Tmp}{a b:Code}{o:Option Nat}{x:Nat×List Deferred}{w w':World}(h:(Instr.enterLoop f t ps a b o).run P w=.ok x w'):∀d∈x.2,∃r,d.target=.collected r:=by
 unfold Instr.enterLoop at h;cases o with
 |some l=>
  obtain⟨y,w₁,h1,h2⟩:=run_bind_ok h;simp[newObj,Sem.run,Sem.bind,pure]at h2;rw[← h2.1];intro d hd;cases hd
 |none=>
  obtain⟨y,w₁,h1,h2⟩:=run_bind_ok h;simp[newObj,Sem.run,Sem.bind,pure]at h2;rw[← h2.1];intro d hd;simp only[List.mem_singleton]at hd;exact⟨_,by rw[hd]⟩
theorem Ag{f:FuncId}{t:Array Value}{ps:Array Tmp}{a b:Code}{o:Option Nat}{x:Halt}{w w':World}(h:(Instr.enterLoop f t ps a b o).run P w=.halt x w'):¬((∃v,x=.panic v)∨x=.goexit):=by
 unfold Instr.enterLoop at h;cases o with
 |none=>simp[newObj,Sem.run,Sem.bind,pure,Result.andThen]at h
 |some l=>
  cases ho:w.heap[l]? with
  |none=>
   simp[Instr.getLoop,getObj,Sem.run,ho,Sem.bind,pure,Result.andThen]at h;rw[← h.1];simp
  |some o=>
   cases o<;>simp[Instr.getLoop,getObj,Sem.run,ho,Sem.bind,pure,Result.andThen,stuck,newObj]at h<;>(rw[← h.1];simp)
def QX(P:Program)(F:FuncId→Prop)(fr:Frame)(wp:World):Prop:=∀f,fr.about P wp=some f→F f
theorem Jg(H:Fit P F){wp:World}(hg:∀(b:Nat) (o:Obj),wp.heap[b]?=some o→Good P o){fr:Frame}{cs:List Frame}(hm:fr.mode=.run)(hfr:OkFrame P fr)(hcs:∀x∈cs,OkFrame P x)(hn:QX P F fr wp) :
  Lifted P F S wp (λw=>stepG.exec P true true fr cs none w):=by
 have to:∀{wv:World} {todo:List Item} {A:World→GStep},(∀it∈todo,jc P it)→(∀w,A w=.go { frame:={ fr with todo },callers:=cs,status:=.running,dying:=none } w)→Lifted P F S wv A:=
  λh1 h2=>Lifted.still h2 λ_=>⟨hfr.to h1,hcs⟩
 cases htodo:fr.todo with
 |nil=>
  refine kH H hfr hcs (j:=none) (λc hc=>by cases hc) (λhro=>.inl λw=>?_) λl hro w=>?_
  ·unfold stepG.exec;simp only[htodo,hro];rfl
  ·unfold stepG.exec;simp only[htodo,hro,Sem.runT_eq];rfl
 |cons it k=>
  have hit:jc P it:=hfr.todo it (by rw[htodo];simp);have hk:∀x∈k,jc P x:=λx hx=>hfr.todo x (by rw[htodo];simp[hx]);have cons:∀{x:Item} {l:List Item},jc P x→(∀y∈l,jc P y)→∀y∈x::l,jc P y:=λhx hl y hy=>by
   rcases List.mem_cons.1 hy with rfl|hy
   ·exact hx
   ·exact hl y hy
  cases it with
  |inBlock id=>exact to hk λw=>by unfold stepG.exec;simp only[htodo]
  |inScope c=>exact to hk λw=>by unfold stepG.exec;simp only[htodo]
  |inLoop c=>exact to (cons (x:=.code c) hit (cons (x:=.inLoop c) hit hk)) λw=>by unfold stepG.exec;simp only[htodo]
  |inRangeFunc l=>
   refine Lifted.never (by unfold stepG.exec;simp only[htodo];trivial) λg' w' es h _ _=>?_;unfold stepG.exec at h;simp only[htodo]at h;cases h
  |beginRound=>
   refine Lifted.congr (B:=λw=>stepG.apply P true fr cs none (do fr.roundOf.elim (stuck "beginRound: no round") Instr.beginRound;pure Next.skip) w) (λw=>by unfold stepG.exec;simp only[htodo]) ?_
   refine pG H ?_ hfr hcs λq w' h=>BR h;cases hro:fr.roundOf with
   |none=>exact OK.bind (aZ _) (λ_=>OK.pure _) wp
   |some l=>exact OK.bind (Dz l) (λ_=>OK.pure _) wp
  |endRangeFunc l=>
   refine Lifted.run (t:=Instr.endLoop l) (fn:=fr.fn) (K:=fun
    |.ok jump w=>.go { frame:={ fr with todo:=(jump.map Item.code).toList++k },callers:=cs,status:=.running,dying:=none } w
    |.halt (.panic v) w=>.go { frame:=fr.raise [{ v,recovered:=false }],callers:=cs,status:=.running,dying:=none } w
    |.halt _ w=>.ended (.stuck "range over a function: no such loop" (fr.pos P)) w) (Md l wp) (λw _=>?_) ?_ ?_ ?_
   ·unfold stepG.exec;simp only[htodo,Sem.runT_eq];rfl
   ·intro hbad;cases hrun:(Instr.endLoop l).run P wp with
    |ok a w1=>rw[hrun]at hbad;exact(hbad trivial).elim
    |halt x w1=>
     rw[hrun]at hbad;have e:∃es o,stepG.exec P true true fr cs none wp=GStep.after es (.ended o w1):=by
      unfold stepG.exec;simp only[htodo,Sem.runT_eq,hrun];cases x<;>first|exact(hbad trivial).elim|exact⟨_,_,rfl⟩
     obtain⟨es,o,e⟩:=e;refine⟨by rw[e];exact jk trivial,λg' w' es' hgo _ _=>?_⟩;rw[e]at hgo;cases hgo
   ·intro j w' hrun _;have hj:=IG hg hrun;refine to (A:=λw=>_) (λx hx=>?_) λw=>rfl;rcases List.mem_append.1 hx with hx|hx
    ·cases j with
     |none=>cases hx
     |some c=>
      simp only[Option.map_some,Option.toList_some,List.mem_singleton]at hx;subst hx;exact hj c rfl
    ·exact hk x hx
   ·rintro x w' hrun (⟨v,rfl⟩|rfl)
    ·exact .inl ⟨_,λw=>rfl,⟨hfr.raise _,hcs⟩,rfl⟩
    ·exact .inr ⟨_,_,rfl⟩
  |inRegion ops todo=>
   cases todo with
   |nil=>exact to hk λw=>by unfold stepG.exec;simp only[htodo]
   |cons i rest=>
    by_cases hw:((ops[i]?).map (Region.wanted · (yielded ops fr.tmps))).getD false=true
    ·cases ho:ops[i]? with
     |none=>rw[ho]at hw;simp at hw
     |some o=>
      have hop:fr.oper?=some o:=by unfold Frame.oper?;simp only[htodo,ho]
      have hok:Gv P o=true:=by
       have:=Array.all_eq_true.1 hit i (Array.getElem?_eq_some_iff.1 ho).1;rw[← (Array.getElem?_eq_some_iff.1 ho).2];exact this
      have hab:∀f,o.about P wp fr.eval=some f→kT P f:=λf hf=>H.Ro (hn f (by
       unfold Frame.about;simp only[hm,htodo,ho];unfold Oper.about at hf;exact hf))
      refine Lifted.congr (B:=λw=>stepG.apply P true fr cs none (execOp fr.eval o) w) (λw=>?_) (pG H (Oz hok hab) hfr hcs λq w' h=>GV hg hok hab h);unfold stepG.exec;simp only[htodo,hw,if_true];unfold stepG.oper;simp only[hop];split
      ·rename_i l c _ hdef;exfalso;unfold Gv at hok;rw[hdef]at hok;cases hok
      ·rfl
    ·exact Lifted.still (g:={ frame:=fr.finish undef,callers:=cs,status:=.running,dying:=none }) (λw=>by unfold stepG.exec;simp only[htodo,hw];rfl) λ_=>⟨hfr.finish _,hcs⟩
  |code c=>
   have hc:dR P c=true:=hit;cases c with
   |skip=>exact to hk λw=>by unfold stepG.exec;simp only[htodo]
   |label l=>exact to hk λw=>by unfold stepG.exec;simp only[htodo]
   |seq a b=>
    simp only[dR,Bool.and_eq_true]at hc;exact to (cons (x:=.code a) hc.1 (cons (x:=.code b) hc.2 hk)) λw=>by unfold stepG.exec;simp only[htodo]
   |cond c x y=>
    simp only[dR,Bool.and_eq_true]at hc
    cases he:fr.eval c<;>first
     |(refine Lifted.never (by unfold stepG.exec;simp only[htodo,he];trivial) λg' w' es h _ _=>?_
       unfold stepG.exec at h;simp only[htodo,he]at h;cases h;done)
     |skip
    rename_i b;exact to (cons (x:=.code (if b then x else y)) (by cases b<;>simp[jc,hc.1,hc.2]) hk) λw=>by unfold stepG.exec;simp only[htodo,he]
   |block id body=>exact to (cons (x:=.code body) hc (cons (x:=.inBlock id) trivial hk)) λw=>by unfold stepG.exec;simp only[htodo]
   |loop body=>exact to (cons (x:=.code body) hc (cons (x:=.inLoop body) hc hk)) λw=>by unfold stepG.exec;simp only[htodo]
   |scope body=>exact to (cons (x:=.code body) hc (cons (x:=.inScope body) hc hk)) λw=>by unfold stepG.exec;simp only[htodo]
   |refuse why=>
    refine Lifted.never (by unfold stepG.exec;simp only[htodo];trivial) λg' w' es h _ _=>?_;unfold stepG.exec at h;simp only[htodo]at h;cases h
   |ret=>
    refine kH H hfr hcs (j:=some .ret) (λc hc=>by cases hc;rfl) (λhro=>.inl λw=>?_) λl hro w=>?_
    ·unfold stepG.exec;simp only[htodo,hro];rfl
    ·unfold stepG.exec;simp only[htodo,hro,Sem.runT_eq];rfl
   |exit id=>
    cases he:exitTo id k with
    |some k'=>exact to (O5 hk he) λw=>by unfold stepG.exec;simp only[htodo,he,Option.elim_some]
    |none=>
     refine kH H hfr hcs (j:=some (.exit id)) (λc hc=>by cases hc;rfl) (λhro=>.inr λw=>?_) λl hro w=>?_
     ·unfold stepG.exec;simp only[htodo,hro,he,Option.elim_none];exact⟨_,_,rfl⟩
     ·unfold stepG.exec;simp only[htodo,hro,he,Option.elim_none,Sem.runT_eq];rfl
   |goto id=>
    cases he:gotoIn id k with
    |some k'=>exact to (O9 hk he) λw=>by unfold stepG.exec;simp only[htodo,he,Option.elim_some]
    |none=>
     refine kH H hfr hcs (j:=some (.goto id)) (λc hc=>by cases hc;rfl) (λhro=>.inr λw=>?_) λl hro w=>?_
     ·unfold stepG.exec;simp only[htodo,hro,he,Option.elim_none];exact⟨_,_,rfl⟩
     ·unfold stepG.exec;simp only[htodo,hro,he,Option.elim_none,Sem.runT_eq];rfl
   |rangeFunc f params assign body=>
    simp only[dR,Bool.and_eq_true]at hc
    refine Lifted.run (t:=Instr.enterLoop fr.fn fr.tmps params assign body fr.roundOf) (fn:=fr.fn) (K:=fun
     |.ok x w=>stepG.apply P true { fr with todo:=.inRangeFunc x.1::k,defers:=x.2++fr.defers } cs none
       (do let d ← resolve fr.eval { callee:=.value f,args:=#[.const (.func (.yield x.1) #[] #[])],argTypes:=#[] } 0;invoke d.target d.args) w
     |.halt _ w=>.ended (.stuck "range over a function: no such loop" (fr.pos P)) w) (GI _ _ _ hc.1 hc.2 _ wp) (λw _=>?_) ?_ ?_ ?_
    ·unfold stepG.exec;simp only[htodo,Sem.runT_eq]
     congr 1
     cases(Instr.enterLoop fr.fn fr.tmps params assign body fr.roundOf).run P w with
     |ok x w1=>obtain⟨l,m⟩:=x;rfl
     |halt x w1=>rfl
    ·intro hbad;cases hrun:(Instr.enterLoop fr.fn fr.tmps params assign body fr.roundOf).run P wp with
     |ok a w1=>rw[hrun]at hbad;exact(hbad trivial).elim
     |halt x w1=>
      have e:∃es o,stepG.exec P true true fr cs none wp=GStep.after es (.ended o w1):=by
       unfold stepG.exec;simp only[htodo,Sem.runT_eq,hrun];exact⟨_,_,rfl⟩
      obtain⟨es,o,e⟩:=e;refine⟨by rw[e];exact jk trivial,λg' w' es' hgo _ _=>?_⟩;rw[e]at hgo;cases hgo
    ·intro x w' hrun hg';have hlead:∀d w'',(resolve fr.eval { callee:=.value f,args:=#[.const (.func (.yield x.1) #[] #[])],argTypes:=#[] } 0).run P w'=.ok d w''→∀g,d.target.leads P w'' d.args=some g→kT P g:=λd w'' hd g hl=>H.Ro (hn g (by
      unfold Frame.about;simp only[hm,htodo,hrun,hd];exact hl))
     have hfr':OkFrame P { fr with todo:=.inRangeFunc x.1::k,defers:=x.2++fr.defers }:=⟨cons (x:=.inRangeFunc x.1) trivial hk,λd hd=>(List.mem_append.1 hd).elim (Dh hrun d) (hfr.defers d),hfr.kind⟩
     refine pG H (eu.bind (vH _ _ _ _) λd w'' hd _=>Ec (jD (λb hb=>by cases hb) hd) (hlead d w'' hd)) hfr' hcs λq w3 h=>?_;obtain⟨d,w₁,hd,h2⟩:=run_bind_ok h;obtain rfl:=uw hd;exact wO hg' (jD (λb hb=>by cases hb) hd) (hlead d _ hd) h2
    ·intro x w' hrun hx;exact(Ag hrun hx).elim
   |region id ops draw=>
    have hops:ops.all (Gv P)=true:=hc;cases draw with
    |false=>exact to (cons (x:=.inRegion ops (List.range ops.size)) hops hk) λw=>by unfold stepG.exec;simp only[htodo];rfl
    |true=>
     refine Lifted.run (t:=choose (.order fr.fn id)) (fn:=fr.fn) (K:=fun
      |.ok t w=>.go { frame:={ fr with todo:=.inRegion ops (Region.schedule (P.follows .mixedOrders) ops t)::k },callers:=cs,status:=.running,dying:=none } w
      |.halt _ w=>.ended (.stuck "order" (fr.pos P)) w) (Sim.choose _ wp) (λw _=>?_) ?_ ?_ ?_
     ·unfold stepG.exec;simp only[htodo,events_choose,jE,iJ];rfl
     ·intro hbad;exfalso;apply hbad;simp only[run_choose];split<;>trivial
     ·intro t w' hrun _;exact to (A:=λw=>_) (cons (x:=.inRegion ops (Region.schedule (P.follows .mixedOrders) ops t)) hops hk) λw=>rfl
     ·intro x w' hrun;exfalso;simp only[run_choose]at hrun;split at hrun<;>cases hrun
  |_=>exact hit.elim
theorem qJ(H:Fit P F){wp:World}(hg:∀(b:Nat) (o:Obj),wp.heap[b]?=some o→Good P o){g:Goroutine}(hd:g.dying=none)(hG:OkG P g)(hn:QX P F g.frame wp) :
  Lifted P F S wp (λw=>stepG P true g w):=by
 obtain⟨fr,cs,st,dy,off⟩:=g;simp only at hd;subst hd;obtain⟨h1,h2⟩:=hG;cases hm:fr.mode with
 |run=>exact Lifted.congr (λw=>by unfold stepG;simp only[hm]) (Jg H hg hm h1 h2 hn)
 |returning=>exact Lifted.congr (λw=>by unfold stepG;simp only[hm]) (ug H hg h1 h2)
 |panicking c=>exact Lifted.congr (λw=>by unfold stepG;simp only[hm]) (ug H hg h1 h2)
end
end Lift
end
