/- What the first goroutine comes to beside leavers, on whatever tape, over logical worlds: runs put together. Nothing of the program stands here. -/
import Derived.Test.YtccjdkghgbbliaaGreatDoorA05
import Derived.Test.YtccjdkghgbbliaaGreatDoorA25
set_option linter.all false
namespace Go.Proofs.YtccjdkghgbbliaaGreatDoor
section
namespace Lift
set_option maxHeartbeats 1000000
set_option maxRecDepth 10000
open Go Go.Conc
open Go.ConcR (DC0)
abbrev Blks:=Nat→Prop
abbrev Rq:=Goroutine→World→Blks→Prop
section
variable [Keep] {P:Program} {F:FuncId→Prop} {S:Blks} {Q Q' Q1:Rq} {g:Goroutine} {w:World}
def Raw(P:Program)(Q:Rq)(g:Goroutine)(w:World)(S:Blks):Prop:=
 ∀(gs:Array Goroutine) (wa:World) (sl:Option (Nat×Nat)) (t:Trace) (q:Nat→Nat),gs[0]?=some g→Leavers P t gs q→Past (Shn S) wa.heap.size t→Poi P S w wa→
  ∃(N:Nat) (gs':Array Goroutine) (g':Goroutine) (w':World) (S':Blks) (Nq:World) (sl':Option (Nat×Nat)) (t':Trace) (q':Nat→Nat),
   runNT P N (crowd gs wa sl) t=(.next (crowd gs' Nq sl'),t')∧gs'[0]?=some g'∧Q g' w' S'∧Leavers P t' gs' q'∧Past (Shn S') Nq.heap.size t'∧Poi P S' w' Nq
def Sane(P:Program)(F:FuncId→Prop)(g:Goroutine):Prop:=Stood P F g∧OkG P g
def Reach(P:Program)(F:FuncId→Prop)(Q:Rq)(g:Goroutine)(w:World)(S:Blks):Prop:=Sane P F g→Raw P (λg' w' S'=>Sane P F g'∧Q g' w' S') g w S
theorem Raw.here(h:Q g w S):Raw P Q g w S:=λgs wa sl t q h0 hL hP hp=>⟨0,gs,g,w,S,wa,sl,t,q,rfl,h0,h,hL,hP,hp⟩
theorem Raw.bind(h:Raw P Q1 g w S)(k:∀g' w' S',Q1 g' w' S'→Raw P Q g' w' S'):Raw P Q g w S:=λgs wa sl t q h0 hL hP hp=>by
 obtain⟨N,gs1,g1,w1,S1,wa1,sl1,t1,q1,r1,h01,hQ1,hL1,hP1,hp1⟩:=h gs wa sl t q h0 hL hP hp;obtain⟨M,gs2,g2,w2,S2,wa2,sl2,t2,q2,r2,h02,hQ2,hL2,hP2,hp2⟩:=k g1 w1 S1 hQ1 gs1 wa1 sl1 t1 q1 h01 hL1 hP1 hp1;exact⟨N+M,gs2,g2,w2,S2,wa2,sl2,t2,q2,by rw[runNT_add,r1];exact r2,h02,hQ2,hL2,hP2,hp2⟩
theorem Raw.mono(h:Raw P Q1 g w S)(k:∀g' w' S',Q1 g' w' S'→Q g' w' S'):Raw P Q g w S:=h.bind λg' w' S' hq=>.here (k g' w' S' hq)
theorem Reach.here(h:Q g w S):Reach P F Q g w S:=λhs=>.here ⟨hs,h⟩
theorem Reach.bind(h:Reach P F Q1 g w S)(k:∀g' w' S',Q1 g' w' S'→Reach P F Q g' w' S'):Reach P F Q g w S:=λhs=>(h hs).bind λg' w' S' hq=>k g' w' S' hq.2 hq.1
theorem Reach.mono(h:Reach P F Q1 g w S)(k:∀g' w' S',Q1 g' w' S'→Q g' w' S'):Reach P F Q g w S:=h.bind λg' w' S' hq=>.here (k g' w' S' hq)
theorem Reach.lone(H:Fit P F){R:Goroutine→World→Prop}(h:Lone P F R g w)(k:∀g' w',R g' w'→Reach P F Q g' w' S):Reach P F Q g w S:=λhs=>by
 intro gs wa sl t q h0 hL hP hp;obtain⟨N,gs1,g1,w1,wa1,sl1,t1,q1,r1,_,h01,⟨hR,hs1⟩,hL1,hP1,hp1,_⟩:=beside (DZ H h hs.1 hs.2 ⟨wa,hp⟩) gs wa sl t q h0 hL hP hp;obtain⟨M,gs2,g2,w2,S2,wa2,sl2,t2,q2,r2,h02,hQ2,hL2,hP2,hp2⟩:=k g1 w1 hR hs1 gs1 wa1 sl1 t1 q1 h01 hL1 hP1 hp1;exact⟨N+M,gs2,g2,w2,S2,wa2,sl2,t2,q2,by rw[runNT_add,r1];exact r2,h02,hQ2,hL2,hP2,hp2⟩
section
variable {b:Frame} {a:Act} {k:List Item} {cs:List Frame}
theorem jU(hF:F b.fn)(a:Act)(k:List Item):Stood P F (G (b.atR a k) cs):=⟨rfl,rfl,.inl hF⟩
theorem Reach.calm(H:Fit P F){x:Item}{a':Act}{k':List Item}(hF:F b.fn)(hab:∀w,(b.atR a (x::k)).about P w=none)(hst:∀w,step P (Go.lone (b.atR a (x::k)) cs w)=.next (Go.lone (b.atR a' k') cs w))(h:Reach P F Q (G (b.atR a' k') cs) w S) :
  Reach P F Q (G (b.atR a (x::k)) cs) w S:=
 Reach.lone H (R:=λg' w'=>g'=G (b.atR a' k') cs∧∃τ d,w'=bI w τ d) (λφ=>⟨φ,0,λi q=>by rw[Nat.zero_add],_,_,.one (fenced_calm (F:=fen F) (n:=0) hF (λd hd=>by cases hd) (hab _)) (hst _),jU hF _ _,rfl,φ,0,rfl⟩)
  λg' w' ⟨e1,τ,d,e2⟩=>by
   subst e1 e2;intro hs gs wa sl t q h0 hL hP hp;exact h hs gs wa sl t q h0 hL hP ⟨hp.os,hp.out,hp.size,hp.same,hp.iP,hp.views⟩
end
abbrev Qr:=Exit→Act→World→Blks→Prop
abbrev Kr:=Act→World→Blks→Prop
def yS(K:Kr)(Q:Qr):Qr
 |.normal,a,w,S=>K a w S
 |e,a,w,S=>Q e a w S
def inBlockR(id:Nat)(Q:Qr):Qr
 |.normal,a,w,S=>Q .normal a w S
 |.exit id',a,w,S=>if id'=id then Q .normal a w S else Q (.exit id') a w S
 |e,a,w,S=>Q e a w S
variable (P F)in
def zM(Φ:Rq)(b:Frame)(k:List Item)(cs:List Frame):Qr
 |.normal,a,w,S=>Reach P F Φ (G (b.atR a k) cs) w S
 |.exit id,a,w,S=>∃k',exitTo id k=some k'∧Reach P F Φ (G (b.atR a k') cs) w S
 |.ret,a,w,S=>∀todo,Reach P F Φ (G { b.atR a todo with mode:=.returning } cs) w S
 |_,_,_,_=>False
variable (P F)in
def wpR(code:Code)(Q:Qr)(a:Act)(w:World)(S:Blks):Prop:=
 ∀(b:Frame) (k:List Item) (cs:List Frame) (Φ:Rq),F b.fn→b.roundOf=none→(∀e a' w' S',Q e a' w' S'→zM P F Φ b k cs e a' w' S')→Reach P F Φ (G (b.atR a (.code code::k)) cs) w S
variable (P F)in
def nM(ops:Array Oper)(todo:List Nat)(Q:Qr)(a:Act)(w:World)(S:Blks):Prop:=
 ∀(b:Frame) (k:List Item) (cs:List Frame) (Φ:Rq),F b.fn→b.roundOf=none→(∀e a' w' S',Q e a' w' S'→zM P F Φ b k cs e a' w' S')→Reach P F Φ (G (b.atR a (.inRegion ops todo::k)) cs) w S
section
variable {Q Q':Qr} {a:Act}
theorem zM.push{Φ:Rq}{b:Frame}{x:Item}{k:List Item}{cs:List Frame}{e:Exit}(hx:x.plain=true)(he:e≠.normal)(h:zM P F Φ b k cs e a w S):zM P F Φ b (x::k) cs e a w S:=by
 cases e with
 |normal=>exact absurd rfl he
 |exit id=>obtain⟨k',hk,hg⟩:=h;exact⟨k',by rw[exitTo_plain hx];exact hk,hg⟩
 |ret=>exact h
 |goto l=>exact h
 |panic ch=>exact h
 |outgrown=>exact h
theorem rG{code:Code}(h:wpR P F code Q a w S)(hq:∀e a w S,Q e a w S→Q' e a w S):wpR P F code Q' a w S:=λb k cs Φ hF hr hc=>h b k cs Φ hF hr λe a' w' S' q=>hc e a' w' S' (hq e a' w' S' q)
theorem zK(H:Fit P F)(h:Q .ret a w S):wpR P F .ret Q a w S:=λb k cs Φ hF hr hc=>
 Reach.lone H (R:=λg' w'=>(∃todo,g'=G { b.atR a todo with mode:=.returning } cs)∧∃τ d,w'=bI w τ d) (λφ=>⟨φ,0,λi q=>by rw[Nat.zero_add],_,_,.one (fenced_calm (F:=fen F) (n:=0) hF (λd hd=>by cases hd) rfl) (stepR_ret hr),⟨rfl,rfl,.inl hF⟩,⟨_,rfl⟩,φ,0,rfl⟩)
  λg' w' ⟨⟨todo,e1⟩,τ,d,e2⟩=>by
   subst e1 e2;intro hs gs wa sl t q h0 hL hP hp;exact hc _ _ _ _ h todo hs gs wa sl t q h0 hL hP ⟨hp.os,hp.out,hp.size,hp.same,hp.iP,hp.views⟩
theorem CQ(H:Fit P F)(h:Q .normal a w S):wpR P F .skip Q a w S:=λb k cs Φ hF hr hc=>Reach.calm H hF (λ_=>rfl) (λ_=>stepR_skip) (hc _ _ _ _ h)
theorem iC(H:Fit P F){x y:Code}(h:wpR P F x (yS (λa' w' S'=>wpR P F y Q a' w' S') Q) a w S):wpR P F (.seq x y) Q a w S:=by
 intro b k cs Φ hF hr hc;refine Reach.calm H hF (λ_=>rfl) (λ_=>stepR_seq) (h b (.code y::k) cs Φ hF hr λe a' w' S' q=>?_);cases e with
 |normal=>exact q b k cs Φ hF hr hc
 |exit id=>exact(hc _ _ _ _ q).push rfl (by simp)
 |ret=>exact(hc _ _ _ _ q).push (x:=.code y) rfl (by simp)
 |goto l=>exact hc _ _ _ _ q
 |panic ch=>exact hc _ _ _ _ q
 |outgrown=>exact hc _ _ _ _ q
theorem rF(H:Fit P F){o:Operand}{x y:Code}{t:Bool}(hc:a.eval o=.bool t)(h:wpR P F (if t then x else y) Q a w S):wpR P F (.cond o x y) Q a w S:=
 λb k cs Φ hF hr hq=>Reach.calm H hF (λ_=>rfl) (λ_=>stepR_cond hc) (h b k cs Φ hF hr hq)
theorem yU(H:Fit P F){c:Code}{q:Exit→Act→World→Prop}(h:∀τ d,c.wpIn (fen F) 0 P q a (bI w τ d)):wpR P F c (λe a' w' S'=>S'=S∧q e a' w') a w S:=by
 intro b k cs Φ hF hr hc;refine Reach.lone H (R:=λg' w'=>Reach P F Φ g' w' S) (λφ=>?_) λg' w' h=>h;obtain⟨e,a',w',hq,harr⟩:=h φ 0 b k cs hr hF (λd hd=>by cases hd);have hA:=hc e a' w' S ⟨rfl,hq⟩;refine⟨φ,0,λi q=>by rw[Nat.zero_add],?_⟩;cases e with
 |normal=>exact⟨_,_,harr,jU hF _ _,hA⟩
 |exit id=>obtain⟨k',hk',hg⟩:=hA;exact⟨_,_,harr.1 k' hk',jU hF _ _,hg⟩
 |ret=>obtain⟨todo,hs⟩:=harr.1 hr;exact⟨_,_,hs,⟨rfl,rfl,.inl hF⟩,hA todo⟩
 |goto l=>exact hA.elim
 |panic ch=>exact hA.elim
 |outgrown=>exact hA.elim
theorem mP(H:Fit P F){id:Nat}{ops:Array Oper}(h:nM P F ops (List.range ops.size) Q a w S):wpR P F (.region id ops false) Q a w S:=
 λb k cs Φ hF hr hc=>Reach.calm H hF (λ_=>rfl) (λ_=>stepR_region) (h b k cs Φ hF hr hc)
theorem lM(H:Fit P F){ops:Array Oper}(h:Q .normal a w S):nM P F ops [] Q a w S:=λb k cs Φ hF hr hc=>Reach.calm H hF (λ_=>rfl) (λ_=>stepR_region_end) (hc _ _ _ _ h)
theorem uq(H:Fit P F){ops:Array Oper}{i:Nat}{rest:List Nat}{o:Oper}(ho:ops[i]?=some o)(hw:Region.wanted o (yielded ops a.tmps)=false)(hab:∀τ d f,o.about P (bI w τ d) a.eval=some f→F f)
  (h:nM P F ops rest Q (a.put o.dst undef) w S):nM P F ops (i::rest) Q a w S:=by
 intro b k cs Φ hF hr hc;refine Reach.lone H (R:=λg' w'=>g'=G (b.atR (a.put o.dst undef) (.inRegion ops rest::k)) cs∧∃τ d,w'=bI w τ d) (λφ=>?_) λg' w' ⟨e1,τ,d,e2⟩=>?_
 ·have hs:=stepR_op_skip (P:=P) (b:=b) (a:=a) (k:=k) (cs:=cs) (w:=bI w φ 0) (ops:=ops) (i:=i) (rest:=rest) (by simp[ho];simpa using hw);simp only[ho,Option.bind_some]at hs;exact⟨φ,0,λi q=>by rw[Nat.zero_add],_,_,.one (fenced_oper (F:=fen F) (n:=0) hF (λd hd=>by cases hd) ho (hab φ 0)) hs,jU hF _ _,rfl,φ,0,rfl⟩
 ·subst e1 e2;intro hs gs wa sl t q h0 hL hP hp;exact h b k cs Φ hF hr hc hs gs wa sl t q h0 hL hP ⟨hp.os,hp.out,hp.size,hp.same,hp.iP,hp.views⟩
end
variable (P F)in
def CallsR(f:FuncId)(args:Array Value)(w:World)(S:Blks)(R:Value→World→Blks→Prop):Prop:=
 ∀(c:Frame) (cs:List Frame) (Φ:Rq),F c.fn→OkFrame P c→(∀fr∈cs,OkFrame P fr)→(∀v w' S',R v w' S'→Reach P F Φ (G (c.finish v) cs) w' S')→Raw P (λg' w' S'=>Sane P F g'∧Φ g' w' S') (G (Frame.enter P f args .normal) (c::cs)) w S
theorem CallsR.mono{f:FuncId}{args:Array Value}{R R':Value→World→Blks→Prop}(h:CallsR P F f args w S R)(hr:∀v w' S',R v w' S'→R' v w' S'):CallsR P F f args w S R':=
 λc cs Φ hF hc hcs hn=>h c cs Φ hF hc hcs λv w' S' r=>hn v w' S' (hr v w' S' r)
def Ee(P:Program)(f:Func)(R:Value→World→Blks→Prop):Qr
 |.normal,a,w,S|.ret,a,w,S=>a.defers=[]∧∃v,(∀τ d,(results f a.tmps).run P (bI w τ d)=.ok v (bI w τ d))∧R v w S
 |_,_,_,_=>False
theorem Reach.leave(H:Fit P F){b:Frame}{a:Act}{c:Frame}{cs:List Frame}{todo:List Item}{fn:Func}{v:Value}(hF:F b.fn)(hk:b.kind=.normal)(hro:b.roundOf=none)(hcF:F c.fn)(hfn:P.funcs[b.fn]?=some fn)(hd:a.defers=[])
  (hr:∀τ d,(results fn a.tmps).run P (bI w τ d)=.ok v (bI w τ d)) (h:Reach P F Q (G (c.finish v) cs) w S):Reach P F Q (G { b.atR a todo with mode:=.returning } (c::cs)) w S:=by
 refine Reach.lone H (R:=λg' w'=>g'=G (c.finish v) cs∧∃τ d,w'=bI w τ d) (λφ=>?_) λg' w' ⟨e1,τ,d,e2⟩=>?_
 ·have hl:Frame.leaving P { b.atR a todo with mode:=.returning } (bI w φ 0) (.returned v):=⟨rfl,hd,hk,fn,hfn,hr φ 0⟩
  exact⟨φ,0,λi q=>by rw[Nat.zero_add],_,_,.one (fenced_leaving (F:=fen F) (n:=0) hF (λd hd=>by cases hd) hl) (step_leave_returned hl),⟨rfl,rfl,by left;show F (c.finish v).fn;rw[Ej c v];exact hcF⟩,rfl,φ,0,rfl⟩
 ·subst e1 e2;intro hs gs wa sl t q h0 hL hP hp;exact h hs gs wa sl t q h0 hL hP ⟨hp.os,hp.out,hp.size,hp.same,hp.iP,hp.views⟩
theorem tV(H:Fit P F){f:FuncId}{fn:Func}{body:Code}{args:Array Value}{R:Value→World→Blks→Prop}(hF:F f)(hf:P.funcs[f]?=some fn)(hb:fn.body=some body)
  (h:wpR P F body (Ee P fn R) { tmps:=args++Array.replicate (fn.ntmps-args.size) undef,defers:=[] } w S):CallsR P F f args w S R:=by
 intro c cs Φ hcF hcf hcs hn
 let b:Frame:={ (default:Frame)with fn:=f,kind:=.normal,roundOf:=none }
 have henter:Frame.enter P f args .normal=b.atR { tmps:=args++Array.replicate (fn.ntmps-args.size) undef,defers:=[] } [.code body]:=by
  simp[Frame.enter,Frame.atR,hf,hb,b]
 have hok:=jL H (.inl hF) args (k:=.normal) (by simp);rw[henter]at hok ⊢;refine h b [] (c::cs) Φ hF rfl (λe a' w' S' q=>?_) ⟨jU hF _ _,hok,λfr hfr=>?_⟩
 ·cases e with
  |normal=>
   obtain⟨hd,v,hr,hR⟩:=q
   refine Reach.lone H (R:=λg' w''=>g'=G { b.atR a' []with mode:=.returning } (c::cs)∧∃τ d,w''=bI w' τ d) (λφ=>⟨φ,0,λi q=>by rw[Nat.zero_add],_,_,.one (fenced_calm (F:=fen F) (n:=0) hF (λd hd=>by cases hd) rfl) (stepR_end rfl),⟨rfl,rfl,.inl hF⟩,rfl,φ,0,rfl⟩)
    λg' w'' ⟨e1,τ,d,e2⟩=>?_
   subst e1 e2;exact Reach.leave (w:=bI w' τ d) H hF rfl rfl hcF hf hd (λτ' d'=>hr τ' d') (λhs gs wa sl t q h0 hL hP hp=>hn v w' S' hR hs gs wa sl t q h0 hL hP ⟨hp.os,hp.out,hp.size,hp.same,hp.iP,hp.views⟩)
  |ret=>
   obtain⟨hd,v,hr,hR⟩:=q;exact λtodo=>Reach.leave H hF rfl rfl hcF hf hd hr (hn v w' S' hR)
  |exit id=>exact q.elim
  |goto l=>exact q.elim
  |panic ch=>exact q.elim
  |outgrown=>exact q.elim
 ·rcases List.mem_cons.1 hfr with rfl|h
  ·exact hcf
  ·exact hcs fr h
theorem EN(H:Fit P F){Q:Qr}{a:Act}{ops:Array Oper}{i:Nat}{rest:List Nat}{o:Oper}{f:FuncId}{fn:Func}{body:Code}{args:Array Operand}{ats:Array TypeId}{R:Value→World→Blks→Prop}
  (ho:ops[i]?=some o) (hw:Region.wanted o (yielded ops a.tmps)=true) (hop:o.op=.call { callee:=.value (.func f),args,argTypes:=ats }) (hf:P.funcs[f]?=some fn) (hname:(fn.name == "runtime.NumGoroutine")=false) (hb:fn.body=some body)
  (hcall:CallsR P F f (args.map a.eval) w S R) (hnext:∀v w' S',R v w' S'→nM P F ops rest Q (a.put o.dst v) w' S'):nM P F ops (i::rest) Q a w S:=by
 intro b k cs Φ hF hr hc hs gs wa sl t q h0 hL hP hp;have hk:b.kind≠.early:=hs.2.frame.kind;have hbat:∀a' k',b.atR a' k'=b.at a' k':=λa' k'=>Frame.atR_of_none hr a' k';have hg:Goes P true AtRel DC0 (λg' w'=>g'=G (Frame.enter P f (args.map a.eval) .normal) (b.atR a (.inRegion ops (i::rest)::k)::cs)∧AtRel wa w') 1 (G (b.atR a (.inRegion ops (i::rest)::k)) cs) wa:=by
  refine Goes.step rfl λw₁ h₁=>?_;rw[hbat];refine goes_call ho hw hk hop hf hname hb ⟨⟨rfl,rfl⟩,Goes.stop λw₂ h₂=>⟨?_,?_⟩⟩
  ·rw[enter_at _ hf hb]
  ·obtain⟨d1,rfl⟩:=h₁;obtain⟨d2,rfl⟩:=h₂;exact⟨d2,rfl⟩
 obtain⟨M,gs1,g1,w1,sl1,t1,q1,r1,_,h01,⟨rfl,d,rfl⟩,hL1,hP1⟩:=walk_beside (P:=P) (Shun:=Shn S) (B:=wa.heap.size) (D:=DC0) (λw w' es hd e he=>by rw[hd.2]at he;simp at he) _ 1 gs _ wa sl t q (ak _) h0 hL hP hg;obtain⟨N,gs2,g2,w2,S2,wa2,sl2,t2,q2,r2,h02,hQ2,hL2,hP2,hp2⟩:=hcall (b.atR a (.inRegion ops (i::rest)::k)) cs Φ hF hs.2.frame hs.2.callers (λv w' S' hR=>by
   rw[Frame.finish_atR,ho];exact hnext v w' S' hR b k cs Φ hF hr hc) gs1 (wa.at d) sl1 t1 q1 h01 hL1 hP1 ⟨hp.os,hp.out,hp.size,hp.same,hp.iP,hp.views⟩
 exact⟨M+N,gs2,g2,w2,S2,wa2,sl2,t2,q2,by rw[runNT_add,r1];exact r2,h02,hQ2,hL2,hP2,hp2⟩
end
end Lift
end
section
namespace Lift
set_option maxHeartbeats 1000000
set_option maxRecDepth 10000
open Go Go.Conc
section
variable [Keep] {P:Program} {F:FuncId→Prop} {ops:Array Oper} {Q:Qr} {a:Act} {w:World} {S:Blks}
theorem ML{o:Oper}{i:Nat}{rest:List Nat}{K:Act→World→Prop}(ho:ops[i]?=some o)(hw:Region.wanted o (yielded ops a.tmps)=true)(h:o.wpIn (fen F) 0 P a w K (λ_ _ _=>False))
  (b:Frame) (k:List Item) (cs:List Frame) (hro:b.roundOf=none) (hb:F b.fn) :
  ∃a' w',K a' w'∧StepsIn (Machine.fenced P (fen F)) P (lone (b.atR a (.inRegion ops (i::rest)::k)) cs w) (lone (b.atR a' (.inRegion ops rest::k)) cs w'):=by
 unfold Oper.wpIn at h;obtain⟨habout,h⟩:=h;have hr:(fen F).room (cs.length+1+0):=λd hd=>by cases hd
 have h0:(lone (b.atR a (.inRegion ops (i::rest)::k)) cs w).fenced P (fen F):=fenced_oper (F:=fen F) (n:=0) hb hr ho habout;simp only[Oper.uponIn]at h;have hg:=stepGR_op (P:=P) (b:=b) (k:=k) (cs:=cs) (w:=w) (rest:=rest) ho hw;rw[show b.roundOf=(fen F).round from hro]at hg;have hfin:∀v,(b.atR a (.inRegion ops (i::rest)::k)).finish v=b.atR (a.put o.dst v) (.inRegion ops rest::k):=by
  intro v;rw[Frame.finish_atR,ho];rfl
 split at h
 ·rename_i v w' hr';refine⟨_,_,h,.one h0 (step_lone_go ?_)⟩;rw[hg,← hfin];simp[stepG.apply,hr']
 ·rename_i w' hr';refine⟨_,_,h,.one h0 (step_lone_go ?_)⟩;rw[hg,← hfin];simp[stepG.apply,hr']
 ·rename_i d w' hr';refine⟨_,_,h,.one h0 (step_lone_go ?_)⟩
  have:({ b.atR a (.inRegion ops (i::rest)::k)with defers:=d::a.defers }:Frame).finish undef=
    b.atR ({ a with defers:=d::a.defers }.put o.dst undef) (.inRegion ops rest::k):=by
   have:=Frame.finish_atR b { a with defers:=d::a.defers } ops i rest k undef;rw[ho]at this;exact this
  rw[hg];simp only[stepG.apply,Sem.runT_eq,hr',GStep.bare_after];exact congrArg (λfr=>GStep.go { frame:=fr,callers:=cs,status:=.running,dying:=none } w') this
 ·rename_i f args w' hr';obtain⟨hn,hF,h⟩:=h;have hroom:(fen F).room ((b.atR a (.inRegion ops (i::rest)::k)::cs).length+1+(0-1)):=Fence.room_enter hr hn;obtain⟨e,w'',fr,hR,hsteps,hfn,hleave⟩:=h (b.atR a (.inRegion ops (i::rest)::k)::cs) hroom
  have henter:step P (lone (b.atR a (.inRegion ops (i::rest)::k)) cs w)=
    .next (lone (Frame.enter P f args .normal) (b.atR a (.inRegion ops (i::rest)::k)::cs) w'):=
   step_lone_go (by rw[hg];simp[stepG.apply,hr',Frame.atR])
  cases e with
  |returned v=>
   have hl:(lone fr (b.atR a (.inRegion ops (i::rest)::k)::cs) w'').fenced P (fen F):=fenced_leaving (hfn▸hF) hroom hleave;refine⟨_,_,hR,.head h0 henter (StepsIn.trans hsteps (.one hl ?_))⟩;rw[← hfin];exact step_leave_returned hleave
  |panicked chain=>exact hR.elim
  |outgrown=>obtain⟨_,_,x⟩:=hR;exact x.elim
 ·rename_i row args w' hr';obtain⟨hn,h⟩:=h;obtain⟨v,w'',hR,hsteps⟩:=h (b.atR a (.inRegion ops (i::rest)::k)) cs (Fence.room_enter hr hn)
  have henter:step P (lone (b.atR a (.inRegion ops (i::rest)::k)) cs w)=
    .next (lone (Frame.ofRow P row args .normal) (b.atR a (.inRegion ops (i::rest)::k)::cs) w'):=
   step_lone_go (by rw[hg];simp[stepG.apply,hr',Frame.atR])
  refine⟨_,_,hR,.head h0 henter ?_⟩;rw[← hfin];exact hsteps
 ·rename_i l f tmps assign body w' hr';obtain⟨hn,_,h⟩:=h;obtain⟨e,w'',hR,hsteps⟩:=h (b.atR a (.inRegion ops (i::rest)::k)) cs (Fence.room_enter hr hn)
  have henter:step P (lone (b.atR a (.inRegion ops (i::rest)::k)) cs w)=
    .next (lone (Frame.round l f tmps assign body .normal) (b.atR a (.inRegion ops (i::rest)::k)::cs) w'):=
   step_lone_go (by rw[hg];simp[stepG.apply,hr',Frame.atR])
  cases e with
  |returned v=>
   refine⟨_,_,hR,.head h0 henter ?_⟩;rw[← hfin];exact hsteps
  |panicked chain=>exact hR.elim
  |outgrown=>obtain⟨_,_,x⟩:=hR;exact x.elim
 all_goals exact h.elim
theorem EO(H:Fit P F){o:Oper}{i:Nat}{rest:List Nat}{K:Act→World→Prop}(ho:ops[i]?=some o)(hw:Region.wanted o (yielded ops a.tmps)=true)
  (h:∀τ d,o.wpIn (fen F) 0 P a (bI w τ d) K (λ_ _ _=>False)) (hk:∀a' w',K a' w'→nM P F ops rest Q a' w' S):nM P F ops (i::rest) Q a w S:=by
 intro b k cs Φ hF hr hc;refine Reach.lone H (R:=λg' w'=>Reach P F Φ g' w' S) (λφ=>?_) λg' w' h=>h;obtain⟨a',w',hK,hs⟩:=ML (rest:=rest) ho hw (h φ 0) b k cs hr hF;exact⟨φ,0,λi q=>by rw[Nat.zero_add],_,_,hs,jU hF _ _,hk a' w' hK b k cs Φ hF hr hc⟩
theorem zx(H:Fit P F){id:Nat}(h:∀t,nM P F ops (Region.schedule (P.follows .mixedOrders) ops t) Q a w S):wpR P F (.region id ops true) Q a w S:=by
 intro b k cs Φ hF hr hc
 refine Reach.lone H (R:=λg' w'=>∃t τ d,g'=G (b.atR a (.inRegion ops (Region.schedule (P.follows .mixedOrders) ops t)::k)) cs∧w'=bI w τ d)
  (λφ=>⟨φ,0,λi q=>by rw[Nat.zero_add],_,_,.one (fenced_calm (F:=fen F) (n:=0) hF (λd hd=>by cases hd) rfl) stepR_region_draw,jU hF _ _,_,φ,1,rfl,rfl⟩) λg' w' ⟨t,τ,d,e1,e2⟩=>?_
 subst e1 e2;intro hs gs wa sl tr q h0 hL hP hp;exact h t b k cs Φ hF hr hc hs gs wa sl tr q h0 hL hP ⟨hp.os,hp.out,hp.size,hp.same,hp.iP,hp.views⟩
variable (P F ops)in
def opR(i:Nat)(K:Act→World→Blks→Prop)(a:Act)(w:World)(S:Blks):Prop:=
 ∀(rest:List Nat) (Q:Qr),(∀a' w' S',K a' w' S'→nM P F ops rest Q a' w' S')→nM P F ops (i::rest) Q a w S
variable (P F ops)in
def anyR(Q:Qr):Nat→Array Bool→Act→World→Blks→Prop
 |0,listed,a,w,S=>Region.ready .any ops listed=[]∧Q .normal a w S
 |fuel+1,listed,a,w,S=>(Region.ready .any ops listed=[]→Q .normal a w S)∧∀i∈Region.ready .any ops listed,opR P F ops i (anyR Q fuel (listed.setIfInBounds i true)) a w S
theorem KE(H:Fit P F):∀(fuel t:Nat) (listed:Array Bool) (a:Act) (w:World) (S:Blks),anyR P F ops Q fuel listed a w S→nM P F ops (Region.linearise.go .any ops fuel t listed []) Q a w S:=by
 intro fuel
 induction fuel with
 |zero=>intro t listed a w S h;simpa[Region.linearise.go]using lM H h.2
 |succ fuel ih=>
  intro t listed a w S h;obtain⟨h₀,h₁⟩:=h;simp only[Region.linearise.go]
  change nM P F ops (match (Region.ready .any ops listed)[t % (Region.ready .any ops listed).length]? with
   |some i=>Region.linearise.go .any ops fuel (t / (Region.ready .any ops listed).length) (listed.setIfInBounds i true) [i]
   |none=>[].reverse) Q a w S
  cases hi:(Region.ready .any ops listed)[t % (Region.ready .any ops listed).length]? with
  |none=>
   have hnil:Region.ready .any ops listed=[]:=by
    cases hr:Region.ready .any ops listed with
    |nil=>rfl
    |cons x xs=>
     rw[hr]at hi;have hlt:t % (x::xs).length<(x::xs).length:=Nat.mod_lt _ (by simp);simp at hi;simp at hlt;omega
   simpa using lM H (h₀ hnil)
  |some i=>
   simp only[];rw[linearise_go_acc,List.reverse_singleton,List.singleton_append];exact h₁ i (List.mem_of_getElem? hi) _ _ λa' w' S' q=>ih _ _ a' w' S' q
theorem CP(H:Fit P F){id:Nat}(hm:P.follows .mixedOrders=true)(h:anyR P F ops Q ops.size (Array.replicate ops.size false) a w S):wpR P F (.region id ops true) Q a w S:=
 zx H λt=>by
  simp only[Region.schedule,hm,Bool.true_or,if_true];exact KE H ops.size t _ a w S h
def also(D:Nat→Bool)(i:Nat):Nat→Bool:=λj=>D j||j==i
def PO(ops:Array Oper)(D:Nat→Bool)(i:Nat):Prop:=D i=false∧(∀j,fH ops i j=true→D j=true)∧(∀j,fH ops j i=true→D j=false)
abbrev Wr:=(Nat→Bool)→World→Blks→Prop
variable (P F ops)in
def StepR(W:Wr)(i:Nat)(o:Oper)(a a':Act):Prop:=
 (∀D w S,PO ops D i→W D w S→∀τ d,o.wpIn (fen F) 0 P a (bI w τ d) (λa'' w'=>a''=a'∧W (also D i) w' S) (λ_ _ _=>False))∨
 (∃(f:FuncId) (fn:Func) (body:Code) (args:Array Operand) (ats:Array TypeId),o.op=.call { callee:=.value (.func f),args,argTypes:=ats }∧P.funcs[f]?=some fn∧(fn.name == "runtime.NumGoroutine")=false∧fn.body=some body∧
  ∀D w S,PO ops D i→W D w S→CallsR P F f (args.map a.eval) w S (λv w' S'=>a'=a.put o.dst v∧W (also D i) w' S'))
variable (P F ops)in
def Fp(W:Wr):List Nat→Act→(Act→Prop)→Prop
 | [],a,R=>R a
 |i::rest,a,R=>∃o,ops[i]?=some o∧
   ((Region.wanted o (yielded ops a.tmps)=true∧∃v a',a'=a.put o.dst v∧StepR P F ops W i o a a'∧Fp W rest a' R)∨
    (Region.wanted o (yielded ops a.tmps)=false∧(∀w f,o.about P w a.eval=some f→F f)∧(∀D w S,PO ops D i→W D w S→W (also D i) w S)∧Fp W rest (a.put o.dst undef) R))
variable (P F ops)in
def GoodR(W:Wr)(i:Nat)(a:Act)(v:Value):Prop:=∃o,ops[i]?=some o∧
 ((Region.wanted o (yielded ops a.tmps)=true∧StepR P F ops W i o a (a.put o.dst v))∨(Region.wanted o (yielded ops a.tmps)=false∧(∀w f,o.about P w a.eval=some f→F f)∧(∀D w S,PO ops D i→W D w S→W (also D i) w S)∧v=undef))
theorem OT{W:Wr}{R:Act→Prop}:∀(k s:Nat) (a:Act),Fp P F ops W (List.range' s k) a R→
  ∃(vals:Nat→Value) (acts:Nat→Act),acts s=a∧(∀i,s≤i→i<s+k→acts (i+1)=(acts i).put (fM ops i) (vals i)∧GoodR P F ops W i (acts i) (vals i))∧R (acts (s+k)):=by
 intro k
 induction k with
 |zero=>intro s a h;exact⟨λ_=>undef,λ_=>a,rfl,λi h1 h2=>by omega,h⟩
 |succ k ih=>
  intro s a h;rw[List.range'_succ]at h;obtain⟨o,ho,h⟩:=h;have hd:fM ops s=o.dst:=by simp[fM,ho]
  have:∃v,GoodR P F ops W s a v∧Fp P F ops W (List.range' (s+1) k) (a.put o.dst v) R:=by
   rcases h with⟨hw,v,a',rfl,h1,h2⟩|⟨hw,h0,h1,h2⟩
   ·exact⟨v,⟨o,ho,.inl ⟨hw,h1⟩⟩,h2⟩
   ·exact⟨undef,⟨o,ho,.inr ⟨hw,h0,h1,rfl⟩⟩,h2⟩
  obtain⟨v,hg,h2⟩:=this;obtain⟨vals,acts,e,hall,hR⟩:=ih (s+1) _ h2;refine⟨λj=>if j=s then v else vals j,λj=>if j=s then a else acts j,by simp,λi h1 h2=>?_,?_⟩
  ·by_cases hi:i=s
   ·subst hi;simp only[if_pos];rw[if_neg (by omega),e,hd];exact⟨rfl,hg⟩
   ·simp only[if_neg hi];rw[if_neg (by omega)];exact hall i (by omega) (by omega)
  ·show R (if s+(k+1)=s then a else acts (s+(k+1)))
   rw[if_neg (by omega),show s+(k+1)=s+1+k by omega];exact hR
end
section
variable [Keep] {P:Program} {F:FuncId→Prop} {ops:Array Oper} {Q:Qr}
theorem zy(H:Fit P F){id:Nat}{a₀:Act}{w₀:World}{S₀:Blks}(hm:P.follows .mixedOrders=true)(ht:textual ops=true)(W:Wr)(h0:W (λ_=>false) w₀ S₀)
  (h:Fp P F ops W (List.range ops.size) a₀ (λa=>∀w S,W (λj=>decide (j<ops.size)) w S→Q .normal a w S)):wpR P F (.region id ops true) Q a₀ w₀ S₀:=by
 rw[List.range_eq_range']at h;obtain⟨vals,acts,rfl,hall,hR⟩:=OT ops.size 0 a₀ h;rw[Nat.zero_add]at hR
 refine CP H hm (xO (σ:=World×Blks) (gl:=[]) (x₀:=λ_=>undef) (s₀:=(w₀,S₀)) ht (λD _ s=>W D s.1 s.2) (λfuel l a s=>anyR P F ops Q fuel l a s.1 s.2) (λa s=>Q .normal a s.1 s.2) (λi K a s=>opR P F ops i (λa' w' S'=>K a' (w',S')) a s.1 s.2)
  (λi hi=>(hall i (Nat.zero_le _) (by omega)).1) (λl a s h1 h2=>⟨h1,h2⟩) (λfuel l a s h1 h2=>⟨h1,h2⟩) (λi o ho hns D x s a K hmay hW hsz hev hwant hK=>?_) (λx s hW=>hR s.1 s.2 hW) (λg hg=>by cases hg) h0)
 obtain⟨w,S⟩:=s;have hi:i<ops.size:=(Array.getElem?_eq_some_iff.1 ho).1;obtain⟨_,o',ho',hg⟩:=hall i (Nat.zero_le _) (by omega);rw[ho]at ho';cases ho';have hsz:a.tmps.size=(acts i).tmps.size:=hsz;have hev:∀y∈o.op.operands,a.eval y=(acts i).eval y:=hev;have hwant:Region.wanted o (yielded ops a.tmps)=Region.wanted o (yielded ops (acts i).tmps):=hwant;have hon:∀w' S',W (also D i) w' S'→K (a.put o.dst (vals i)) (w',S'):=λw' S' h=>hK _ (w',S') ⟨λg hg=>(by cases hg),λ_=>⟨rfl,h⟩⟩;intro rest Q' hk;rcases hg with⟨hw,hst⟩|⟨hw,hab,hkeep,hv⟩
 ·rcases hst with hst|⟨f,fn,body,args,ats,hop,hf,hname,hb,hst⟩
  ·refine EO H ho (by rw[hwant];exact hw) (K:=λa' w'=>a'=a.put o.dst (vals i)∧W (also D i) w' S) (λτ d=>?_) λa' w' ⟨e,hW'⟩=>by subst e;exact hk _ _ _ (hon w' S hW')
   exact mJ (F:=fen F) (T:=λu w'=>u=vals i∧W (also D i) w' S) rfl hns hsz hev (Oper.wpIn_mono (λa w ⟨e,h⟩=>⟨vals i,e,rfl,h⟩) (hst D w S hmay hW τ d)) λu w' ⟨e,h⟩=>⟨by rw[e],h⟩
  ·have hargs:args.map a.eval=args.map (acts i).eval:=by
    apply Array.map_congr_left;intro x hx;exact hev x (by rw[hop];simp[Op.operands,Call.operands,hx])
   have hc:=hst D w S hmay hW;rw[← hargs]at hc;refine EN H ho (by rw[hwant];exact hw) hop hf hname hb hc λv w' S' ⟨e,hW'⟩=>?_;have:a.put o.dst v=a.put o.dst (vals i):=by
    cases hd:o.dst with
    |none=>rfl
    |some d=>
     simp only[hd,Act.put]at e ⊢;have e1:=congrArg (λ(a:Act)=>a.tmps[d]?) e;simp only at e1;by_cases hlt:d<(acts i).tmps.size
     ·rw[Array.getElem?_setIfInBounds_self_of_lt hlt,Array.getElem?_setIfInBounds_self_of_lt hlt]at e1;rw[Option.some.inj e1]
     ·rw[Array.setIfInBounds_eq_of_size_le (by rw[hsz];exact Nat.le_of_not_lt hlt),Array.setIfInBounds_eq_of_size_le (by rw[hsz];exact Nat.le_of_not_lt hlt)]
   rw[this];exact hk _ _ _ (hon w' S' hW')
 ·refine uq H ho (by rw[hwant];exact hw) (λτ d f hf=>hab (bI w τ d) f (by rw[← hf];exact(about_congr o _ hev).symm)) ?_;have:=hon w S (hkeep _ w S hmay hW);rw[hv]at this;exact hk _ _ _ this
end
end Lift
end
section
set_option maxHeartbeats 1000000
set_option maxRecDepth 10000
open Go Go.RowKit Lift
structure Grow (n:Nat) (w w':World):Prop where
 os:w'.os=w.os
 output:w'.output=w.output
 size:w.heap.size≤w'.heap.size
 block:∀k,k<n→w'.heap[k]?=w.heap[k]?
theorem Grow.of{n:Nat}{w w':World}(h:Below n w w'):Grow n w w':=⟨h.os,h.output,h.size,h.block⟩
theorem Grow.refl(n:Nat)(w:World):Grow n w w:=⟨rfl,rfl,ak _,λ_ _=>rfl⟩
theorem Grow.trans{n:Nat}{a b c:World}(h:Grow n a b)(k:Grow n b c):Grow n a c:=⟨k.os.trans h.os,k.output.trans h.output,Nat.le_trans h.size k.size,λi hi=>(k.block i hi).trans (h.block i hi)⟩
theorem Grow.mono{n m:Nat}{a b:World}(h:Grow m a b)(hn:n≤m):Grow n a b:=⟨h.os,h.output,h.size,λi hi=>h.block i (aB hi hn)⟩
theorem Grow.bI{n:Nat}{w w':World}{τ:Nat→Question→Nat}{d:Nat}(h:Below n (bI w τ d) w'):Grow n w w':=⟨h.os,h.output,h.size,h.block⟩
structure fK (n:Nat) (w:World) (S:Blks) (w':World) (S':Blks):Prop extends Grow n w w' where
 shun:∀k,S' k→S k∨n≤k
theorem fK.refl(n:Nat)(w:World)(S:Blks):fK n w S w S:=⟨.refl n w,λ_ h=>.inl h⟩
theorem fK.trans{n:Nat}{a b c:World}{S T U:Blks}(h:fK n a S b T)(k:fK n b T c U):fK n a S c U:=⟨h.toGrow.trans k.toGrow,λi hi=>(k.shun i hi).elim (h.shun i) .inr⟩
theorem fK.mono{n m:Nat}{a b:World}{S T:Blks}(h:fK m a S b T)(hn:n≤m):fK n a S b T:=⟨h.toGrow.mono hn,λi hi=>(h.shun i hi).imp id (Nat.le_trans hn)⟩
theorem Grow.s{n:Nat}{a b:World}{S:Blks}(h:Grow n a b):fK n a S b S:=⟨h,λ_ h=>.inl h⟩
structure iE (w w':World):Prop where
 heap:w'.heap=w.heap
 os:w'.os=w.os
 output:w'.output=w.output
theorem iE.g{w w':World}(h:iE w w')(n:Nat):Grow n w w':=⟨h.os,h.output,by rw[h.heap];exact ak _,λk _=>by rw[h.heap]⟩
theorem iE.grow{w w' w'':World}{n:Nat}(h:iE w w')(hb:Below n w' w''):Grow n w w'':=(h.g n).trans (.of hb)
theorem iE.pre{v w w':World}{n:Nat}(h:iE w w')(hb:Grow n v w):Grow n v w':=hb.trans (h.g n)
theorem iE.preS{v w w':World}{S T:Blks}{n:Nat}(h:iE w w')(hb:fK n v S w T):fK n v S w' T:=hb.trans (h.g n).s
section
variable [Keep] {P:Program} {F:FuncId→Prop} {Q:Qr} {a:Act} {w:World} {S:Blks}
theorem Kq{c:Code}(H:Fit P F)(h:∀w',iE w w'→c.wpIn (fen F) 0 P (λe a' w''=>Q e a' w'' S) a w'):wpR P F c Q a w S:=
 rG (yU H λτ d=>h (bI w τ d) ⟨rfl,rfl,rfl⟩) λe a w S' ⟨hs,hq⟩=>by subst hs;exact hq
theorem UL{x y:Code}(H:Fit P F)(h:∀w',iE w w'→x.wpIn (fen F) 0 P (λe a' w''=>yS (λa w S=>wpR P F y Q a w S) Q e a' w'' S) a w'):wpR P F (.seq x y) Q a w S:=
 iC H (Kq H h)
theorem Qd{ops:Array Oper}{i:Nat}{rest:List Nat}{o:Oper}(H:Fit P F)(ho:ops[i]?=some o)(hw:Region.wanted o (yielded ops a.tmps)=true)
  (h:∀w',iE w w'→o.wpIn (fen F) 0 P a w' (λa' w''=>nM P F ops rest Q a' w'' S) (λ_ _ _=>False)):nM P F ops (i::rest) Q a w S:=
 EO H ho hw (λτ d=>h _ ⟨rfl,rfl,rfl⟩) λ_ _ h=>h
end
end
section
namespace Lift
set_option maxHeartbeats 1000000
set_option maxRecDepth 10000
open Go Go.Conc Go.RowKit
open Go.ConcR (DC0)
section
variable [Keep] {P:Program} {F:FuncId→Prop}
omit [Keep]in
theorem G6{fn:Func}{t:Tmp}(h:fn.results=#[.tmp t])(tmps:Array Value):results fn tmps=Sem.pure (tmps.getD t undef):=by
 simp[results,h];rfl
omit [Keep]in
theorem Nh{fr:Frame}{w:World}{v:Value}(hi:P.inits.idxOf? fr.fn=none){fn:Func}{t:Tmp}(hm:fr.mode=.returning)(hd:fr.defers=[])(hk:fr.kind=.normal)(hf:P.funcs[fr.fn]?=some fn)(hrs:fn.results=#[.tmp t])(hv:fr.tmps.getD t undef=v):stepG P true (G fr []) w=.ended (.done v) w #[]:=by
 simp only[stepG,G];simp[unwind,doReturn,hm,hd,hk,hf,hi,G6 hrs,hv,Sem.runT,seen,GStep.after]
omit [Keep]in
structure rU (P:Program) (f:FuncId) (fn:Func) (R:Value→World→Blks→Prop) (g:Goroutine) (w:World) (S:Blks):Prop where
 at_:∃(b:Frame) (a:Act) (todo:List Item) (v:Value),g=G { b.atR a todo with mode:=.returning } []∧b.fn=f∧b.kind=.normal∧b.roundOf=none∧a.defers=[]∧(∀τ d,(results fn a.tmps).run P (bI w τ d)=.ok v (bI w τ d))∧R v w S
theorem MS(H:Fit P F){f:FuncId}{fn:Func}{body:Code}{args:Array Value}{R:Value→World→Blks→Prop}{w:World}{S:Blks}(hF:F f)(hf:P.funcs[f]?=some fn)(hb:fn.body=some body)
  (h:wpR P F body (Ee P fn R) { tmps:=args++Array.replicate (fn.ntmps-args.size) undef,defers:=[] } w S):Raw P (rU P f fn R) (G (Frame.enter P f args .normal) []) w S:=by
 let b:Frame:={ (default:Frame)with fn:=f,kind:=.normal,roundOf:=none }
 have henter:Frame.enter P f args .normal=b.atR { tmps:=args++Array.replicate (fn.ntmps-args.size) undef,defers:=[] } [.code body]:=by
  simp[Frame.enter,Frame.atR,hf,hb,b]
 have hok:=jL H (.inl hF) args (k:=.normal) (by simp);rw[henter]at hok ⊢;refine(h b [] [] (rU P f fn R) hF rfl (λe a' w' S' q=>?_) ⟨jU hF _ _,hok,λfr hfr=>by cases hfr⟩).mono λ_ _ _ q=>q.2;cases e with
 |normal=>
  obtain⟨hd,v,hr,hR⟩:=q
  refine Reach.lone H (R:=λg' w''=>g'=G { b.atR a' []with mode:=.returning } []∧∃τ d,w''=bI w' τ d) (λφ=>⟨φ,0,λi q=>by rw[Nat.zero_add],_,_,.one (fenced_calm (F:=fen F) (n:=0) hF (λd hd=>by cases hd) rfl) (stepR_end rfl),⟨rfl,rfl,.inl hF⟩,rfl,φ,0,rfl⟩)
   λg' w'' ⟨e1,τ,d,e2⟩=>?_
  subst e1 e2;intro hs gs wa sl t q h0 hL hP hp;exact Raw.here (w:=w') ⟨hs,⟨b,a',[],v,rfl,rfl,rfl,rfl,hd,hr,hR⟩⟩ gs wa sl t q h0 hL hP ⟨hp.os,hp.out,hp.size,hp.same,hp.iP,hp.views⟩
 |ret=>
  obtain⟨hd,v,hr,hR⟩:=q;exact λtodo=>.here ⟨b,a',todo,v,rfl,rfl,rfl,rfl,hd,hr,hR⟩
 |exit id=>exact q.elim
 |goto l=>exact q.elim
 |panic ch=>exact q.elim
 |outgrown=>exact q.elim
theorem II{f:FuncId}{fn:Func}{R:Value→World→Blks→Prop}{g:Goroutine}{wa:World}(hk:Keep.orig=wa.heap)(hf:P.funcs[f]?=some fn){tr:Tmp}(hrs:fn.results=#[.tmp tr])(hi:P.inits.idxOf? f=none)
  (h:Raw P (rU P f fn R) g (Crew.waste P (λ_=>False) wa) (λ_=>False)) :
  ∃N last o w' t',runNT P (N+1) (solo g wa) #[]=(.ended o w',t')∧runN P N (solo g wa)=.next last∧step P last=.ended o w'∧
   Conc.Good P (λv w'=>∃w1 S1,R v w1 S1∧Poi P S1 w1 w') last o w' t':=by
 obtain⟨M,gs1,g1,w1,S1,wa1,sl1,t1,q1,r1,h01,⟨b,a,todo,v,rfl,hbf,hbk,hbr,had,hres,hR⟩,hL1,hP1,hp1⟩:=h #[g] wa none #[] (λ_=>0) rfl (leavers_one P g)
  (by have:=past_nil.mono (Nat.zero_le wa.heap.size);exact⟨this.clean,λi a h1 h2=>(this.known i a h1 h2).imp id λh=>h.1.elim,this.over,this.hears,this.seen⟩) (Crew.Fg (λb hb=>hb.elim) λb o _ ho _ _=>by rw[hk];exact ho)
 have hval:a.tmps.getD tr undef=v:=by
  have:=hres w1.tape 0;rw[results_tmp hrs]at this;cases this;rfl
 have hG:Goes P true AtRel DC0 (AtEnd P (Shn S1) wa1.heap.size (λv w'=>∃w1 S1,R v w1 S1∧Poi P S1 w1 w')) 0 (G { b.atR a todo with mode:=.returning } []) wa1:=by
  refine Goes.stop λw₁ h₁=>⟨rfl,v,#[],?_,by simp,?_⟩
  ·exact Nh (v:=v) (by show P.inits.idxOf? b.fn=none;rw[hbf];exact hi) rfl had hbk (by show P.funcs[b.fn]?=_;rw[hbf];exact hf) hrs hval
  ·obtain⟨d,rfl⟩:=h₁;exact⟨w1,S1,hR,⟨hp1.os,hp1.out,hp1.size,hp1.same,hp1.iP,hp1.views⟩⟩
 obtain⟨K,last,o,w',t',e1,e2,e3,e4⟩:=beside_ends (P:=P) (sl:=sl1) (λw w' es hd e he=>by rw[hd.2]at he;simp at he) h01 hL1 hP1 hG;refine⟨M+K,last,o,w',t',?_,?_,e3,e4⟩
 ·have hr:runNT P M (solo g wa) #[]=(.next (crowd gs1 wa1 sl1),t1):=r1;rw[Nat.add_assoc,runNT_add,hr];exact e1
 ·have h1:runN P M (solo g wa)=.next (crowd gs1 wa1 sl1):=by rw[← runNT_fst P M _ #[]];exact congrArg Prod.fst r1
  rw[runN_add,h1];exact e2
end
theorem run_end{P:Program}{N M:Nat}{m a b:Machine}{o o':Outcome}{w w':World}(h1:runN P N m=.next a)(h2:step P a=.ended o w)(k1:runN P M m=.next b)(k2:step P b=.ended o' w'):o'=o∧w'=w:=by
 have one:∀{x:Machine} {o:Outcome} {w:World},step P x=.ended o w→∀k,runN P (k+1) x=.ended o w:=λh k=>by simp only[runN,h]
 rcases Nat.lt_trichotomy N M with h|h|h
 ·obtain⟨k,rfl⟩:∃k,M=N+(k+1):=⟨M - N - 1,by omega⟩
  rw[runN_add,h1]at k1;have:=one h2 k;simp only at k1;rw[this]at k1;cases k1
 ·subst h;rw[h1]at k1;cases k1;rw[h2]at k2;cases k2;exact⟨rfl,rfl⟩
 ·obtain⟨k,rfl⟩:∃k,N=M+(k+1):=⟨N - M - 1,by omega⟩
  rw[runN_add,k1]at h1;have:=one k2 k;simp only at h1;rw[this]at h1;cases h1
theorem DV{P:Program}{wa w':World}(h:∀t:TypeId,∃w1 S1,fK wa.heap.size (@Crew.waste ⟨wa.heap.size,wa.heap,t⟩ P (λ_=>False) wa) (λ_=>False) w1 S1∧@Poi ⟨wa.heap.size,wa.heap,t⟩ P S1 w1 w') :
  Below wa.heap.size wa.blind w'.blind:=by
 obtain⟨w1,S1,hg,hp⟩:=h 0;obtain⟨w2,S2,kg,kp⟩:=h 1;have hs:wa.heap.size≤w'.heap.size:=by
  letI:Keep:=⟨wa.heap.size,wa.heap,0⟩
  have h1:=hg.size;rw[Crew.mG]at h1;have h2:=hp.size;omega
 have ho:w'.os=wa.os∧w'.output=wa.output:=by
  letI:Keep:=⟨wa.heap.size,wa.heap,0⟩
  exact⟨hp.os.symm.trans hg.os,hp.out.symm.trans hg.output⟩
 refine⟨ho.1,rfl,ho.2,hs,λb hb=>?_⟩
 show w'.heap[b]?=wa.heap[b]?
 have n1:¬S1 b:=λe=>(hg.shun b e).elim id (by omega);have n2:¬S2 b:=λe=>(kg.shun b e).elim id (by omega);have one:∀(t:TypeId) (x:World) (S:Blks),¬S b→fK wa.heap.size (@Crew.waste ⟨wa.heap.size,wa.heap,t⟩ P (λ_=>False) wa) (λ_=>False) x S→@Poi ⟨wa.heap.size,wa.heap,t⟩ P S x w'→w'.heap[b]?=wa.heap[b]?∨w'.heap[b]?=some (@idle ⟨wa.heap.size,wa.heap,t⟩):=by
  intro t x S hn hg hp
  letI:Keep:=⟨wa.heap.size,wa.heap,t⟩
  have e0:=hg.block b hb;rcases hp.same b hn with e|⟨_,o,e,_,he⟩
  ·by_cases hgood:∀o,wa.heap[b]?=some o→Good P o
   ·rw[Crew.sU (λh=>h) hgood]at e0;exact .inl (e.symm.trans e0)
   ·obtain⟨o,ho⟩:=Classical.not_forall.1 hgood;obtain⟨h1,h2⟩:=Classical.not_imp.1 ho;rw[Crew.sQ (λh=>h) h1 h2]at e0;exact .inr (e.symm.trans e0)
  ·exact .inl (e.trans (he hb).symm)
 rcases one 0 w1 S1 n1 hg hp with e|e
 ·exact e
 ·rcases one 1 w2 S2 n2 kg kp with k|k
  ·exact k
  ·rw[e]at k;simp[idle]at k
theorem KT{P:Program}{f:FuncId}{fn:Func}{R:Value→Prop}{g:Goroutine}{wa:World}(hf:P.funcs[f]?=some fn){tr:Tmp}(hrs:fn.results=#[.tmp tr])(hi:P.inits.idxOf? f=none)
  (h:∀t:TypeId,@Raw ⟨wa.heap.size,wa.heap,t⟩ P (rU P f fn λv w1 S1=>R v∧fK wa.heap.size (@Crew.waste ⟨wa.heap.size,wa.heap,t⟩ P (λ_=>False) wa) (λ_=>False) w1 S1) g (@Crew.waste ⟨wa.heap.size,wa.heap,t⟩ P (λ_=>False) wa) (λ_=>False)) :
  ∃N last o w' t',runNT P (N+1) (solo g wa) #[]=(.ended o w',t')∧runN P N (solo g wa)=.next last∧step P last=.ended o w'∧
   Conc.Good P (λv w'=>R v∧Below wa.heap.size wa.blind w'.blind) last o w' t':=by
 have key:=λt=>(letI:Keep:=⟨wa.heap.size,wa.heap,t⟩;II (P:=P) rfl hf hrs hi (h t))
 obtain⟨N,last,o,w',t',e1,e2,e3,e4⟩:=key 0;refine⟨N,last,o,w',t',e1,e2,e3,?_⟩;have two:∀t:TypeId,∃w1 S1,fK wa.heap.size (@Crew.waste ⟨wa.heap.size,wa.heap,t⟩ P (λ_=>False) wa) (λ_=>False) w1 S1∧@Poi ⟨wa.heap.size,wa.heap,t⟩ P S1 w1 w':=λt=>by
  obtain⟨M,last2,o2,w2,t2,k1,k2,k3,v,kv,⟨w1,S1,⟨_,hg⟩,hp⟩,_⟩:=key t;obtain⟨rfl,rfl⟩:=run_end e2 e3 k2 k3;exact⟨w1,S1,hg,hp⟩
 have hb:=DV two;obtain⟨v,hv,⟨w1,S1,⟨hR,_⟩,_⟩,hrest⟩:=e4;exact⟨v,hv,⟨hR,hb⟩,hrest⟩
end Lift
end
