/- What the first goroutine comes to beside leavers, on whatever tape, over logical worlds: runs put together. Nothing of the program stands here. -/
import Derived.Below
import Derived.Test.YtnkejaohnhpbpaaGreatDoorA05
import Derived.Test.YtnkejaohnhpbpaaGreatDoorA22
import Derived.Test.YtnkejaohnhpbpaaGreatDoorA23
import Derived.Test.YtnkejaohnhpbpaaGreatDoorA25
set_option linter.all false
section
namespace Go.Proofs.YtnkejaohnhpbpaaGreatDoor.Lift
open Go Go.Conc
open Go.ConcR (DC0)
abbrev Blks:=Nat→Prop
abbrev Rq:=Goroutine→World→Blks→Prop
section
variable [Keep] {P:Program} {F:FuncId→Prop} {S:Blks} {Q Q' Q1:Rq} {g:Goroutine} {w:World}
def Raw(P:Program)(Q:Rq)(g:Goroutine)(w:World)(S:Blks):Prop:=
 ∀(gs:Array Goroutine) (wa:World) (sl:Option (Nat×Nat)) (t:Trace) (q:Nat→Nat),gs[0]?=some g→Leavers P t gs q→Past (Shn S) wa.heap.size t→Poi P S w wa→
  ∃(N:Nat) (gs':Array Goroutine) (g':Goroutine) (w':World) (S':Blks) (wa':World) (sl':Option (Nat×Nat)) (t':Trace) (q':Nat→Nat),
   runNT P N (crowd gs wa sl) t=(.next (crowd gs' wa' sl'),t')∧gs'[0]?=some g'∧Q g' w' S'∧Leavers P t' gs' q'∧Past (Shn S') wa'.heap.size t'∧Poi P S' w' wa'
def Sane(P:Program)(F:FuncId→Prop)(g:Goroutine):Prop:=Stood P F g∧OkG P g
def Reach(P:Program)(F:FuncId→Prop)(Q:Rq)(g:Goroutine)(w:World)(S:Blks):Prop:=Sane P F g→Raw P (λg' w' S'=>Sane P F g'∧Q g' w' S') g w S
theorem Raw.here(h:Q g w S):Raw P Q g w S:=λgs wa sl t q h0 hL hP hp=>⟨0,gs,g,w,S,wa,sl,t,q,rfl,h0,h,hL,hP,hp⟩
theorem Raw.bind(h:Raw P Q1 g w S)(k:∀g' w' S',Q1 g' w' S'→Raw P Q g' w' S'):Raw P Q g w S:=λgs wa sl t q h0 hL hP hp=>by
 obtain⟨N,gs1,g1,w1,S1,wa1,sl1,t1,q1,r1,h01,hQ1,hL1,hP1,hp1⟩:=h gs wa sl t q h0 hL hP hp;obtain⟨M,gs2,g2,w2,S2,wa2,sl2,t2,q2,r2,h02,hQ2,hL2,hP2,hp2⟩:=k g1 w1 S1 hQ1 gs1 wa1 sl1 t1 q1 h01 hL1 hP1 hp1;exact⟨N+M,gs2,g2,w2,S2,wa2,sl2,t2,q2,by rw[runNT_add,r1];exact r2,h02,hQ2,hL2,hP2,hp2⟩
theorem Raw.mono(h:Raw P Q1 g w S)(k:∀g' w' S',Q1 g' w' S'→Q g' w' S'):Raw P Q g w S:=h.bind λg' w' S' hq=>.here (k g' w' S' hq)
theorem Reach.here(h:Q g w S):Reach P F Q g w S:=λhs=>.here ⟨hs,h⟩
theorem Reach.bind(h:Reach P F Q1 g w S)(k:∀g' w' S',Q1 g' w' S'→Reach P F Q g' w' S'):Reach P F Q g w S:=λhs=>(h hs).bind λg' w' S' hq=>k g' w' S' hq.2 hq.1
theorem Reach.mono(h:Reach P F Q1 g w S)(k:∀g' w' S',Q1 g' w' S'→Q g' w' S'):Reach P F Q g w S:=h.bind λg' w' S' hq=>.here (k g' w' S' hq)
theorem Reach.lone(H:Fit P F){R:Goroutine→World→Prop}(h:Lone P F R g w)(k:∀g' w',R g' w'→Reach P F Q g' w' S):Reach P F Q g w S:=λhs=>by
 intro gs wa sl t q h0 hL hP hp;obtain⟨N,gs1,g1,w1,wa1,sl1,t1,q1,r1,_,h01,⟨hR,hs1⟩,hL1,hP1,hp1,_⟩:=beside (Bg H h hs.1 hs.2 ⟨wa,hp⟩) gs wa sl t q h0 hL hP hp;obtain⟨M,gs2,g2,w2,S2,wa2,sl2,t2,q2,r2,h02,hQ2,hL2,hP2,hp2⟩:=k g1 w1 hR hs1 gs1 wa1 sl1 t1 q1 h01 hL1 hP1 hp1;exact⟨N+M,gs2,g2,w2,S2,wa2,sl2,t2,q2,by rw[runNT_add,r1];exact r2,h02,hQ2,hL2,hP2,hp2⟩
section
variable {b:Frame} {a:Act} {k:List Item} {cs:List Frame}
theorem kH(hF:F b.fn)(a:Act)(k:List Item):Stood P F (G (b.atR a k) cs):=⟨rfl,rfl,.inl hF⟩
theorem Reach.calm(H:Fit P F){x:Item}{a':Act}{k':List Item}(hF:F b.fn)(hab:∀w,(b.atR a (x::k)).about P w=none)(hst:∀w,step P (Go.lone (b.atR a (x::k)) cs w)=.next (Go.lone (b.atR a' k') cs w))(h:Reach P F Q (G (b.atR a' k') cs) w S) :
  Reach P F Q (G (b.atR a (x::k)) cs) w S:=
 Reach.lone H (R:=λg' w'=>g'=G (b.atR a' k') cs∧∃τ d,w'=bJ w τ d) (λφ=>⟨φ,0,λi q=>by rw[Nat.zero_add],_,_,.one (fenced_calm (F:=fen F) (n:=0) hF (λd hd=>by cases hd) (hab _)) (hst _),kH hF _ _,rfl,φ,0,rfl⟩)
  λg' w' ⟨e1,τ,d,e2⟩=>by
   subst e1 e2;intro hs gs wa sl t q h0 hL hP hp;exact h hs gs wa sl t q h0 hL hP ⟨hp.os,hp.out,hp.size,hp.same,hp.pois,hp.views⟩
end
abbrev Qr:=Exit→Act→World→Blks→Prop
abbrev Kr:=Act→World→Blks→Prop
def Gm(K:Kr)(Q:Qr):Qr
 |.normal,a,w,S=>K a w S
 |e,a,w,S=>Q e a w S
def inBlockR(id:Nat)(Q:Qr):Qr
 |.normal,a,w,S=>Q .normal a w S
 |.exit id',a,w,S=>if id'=id then Q .normal a w S else Q (.exit id') a w S
 |e,a,w,S=>Q e a w S
variable (P F)in
def yF(Φ:Rq)(b:Frame)(k:List Item)(cs:List Frame):Qr
 |.normal,a,w,S=>Reach P F Φ (G (b.atR a k) cs) w S
 |.exit id,a,w,S=>∃k',exitTo id k=some k'∧Reach P F Φ (G (b.atR a k') cs) w S
 |.ret,a,w,S=>∀todo,Reach P F Φ (G { b.atR a todo with mode:=.returning } cs) w S
 |_,_,_,_=>False
variable (P F)in
def wpR(code:Code)(Q:Qr)(a:Act)(w:World)(S:Blks):Prop:=
 ∀(b:Frame) (k:List Item) (cs:List Frame) (Φ:Rq),F b.fn→b.roundOf=none→(∀e a' w' S',Q e a' w' S'→yF P F Φ b k cs e a' w' S')→Reach P F Φ (G (b.atR a (.code code::k)) cs) w S
variable (P F)in
def pq(ops:Array Oper)(todo:List Nat)(Q:Qr)(a:Act)(w:World)(S:Blks):Prop:=
 ∀(b:Frame) (k:List Item) (cs:List Frame) (Φ:Rq),F b.fn→b.roundOf=none→(∀e a' w' S',Q e a' w' S'→yF P F Φ b k cs e a' w' S')→Reach P F Φ (G (b.atR a (.inRegion ops todo::k)) cs) w S
section
variable {Q Q':Qr} {a:Act}
theorem yF.push{Φ:Rq}{b:Frame}{x:Item}{k:List Item}{cs:List Frame}{e:Exit}(hx:x.plain=true)(he:e≠.normal)(h:yF P F Φ b k cs e a w S):yF P F Φ b (x::k) cs e a w S:=by
 cases e with
 |normal=>exact absurd rfl he
 |exit id=>obtain⟨k',hk,hg⟩:=h;exact⟨k',by rw[exitTo_plain hx];exact hk,hg⟩
 |ret=>exact h
 |goto l=>exact h
 |panic ch=>exact h
 |outgrown=>exact h
theorem qR{code:Code}(h:wpR P F code Q a w S)(hq:∀e a w S,Q e a w S→Q' e a w S):wpR P F code Q' a w S:=λb k cs Φ hF hr hc=>h b k cs Φ hF hr λe a' w' S' q=>hc e a' w' S' (hq e a' w' S' q)
theorem Ej(H:Fit P F)(h:Q .ret a w S):wpR P F .ret Q a w S:=λb k cs Φ hF hr hc=>
 Reach.lone H (R:=λg' w'=>(∃todo,g'=G { b.atR a todo with mode:=.returning } cs)∧∃τ d,w'=bJ w τ d) (λφ=>⟨φ,0,λi q=>by rw[Nat.zero_add],_,_,.one (fenced_calm (F:=fen F) (n:=0) hF (λd hd=>by cases hd) rfl) (stepR_ret hr),⟨rfl,rfl,.inl hF⟩,⟨_,rfl⟩,φ,0,rfl⟩)
  λg' w' ⟨⟨todo,e1⟩,τ,d,e2⟩=>by
   subst e1 e2;intro hs gs wa sl t q h0 hL hP hp;exact hc _ _ _ _ h todo hs gs wa sl t q h0 hL hP ⟨hp.os,hp.out,hp.size,hp.same,hp.pois,hp.views⟩
theorem Gx(H:Fit P F)(h:Q .normal a w S):wpR P F .skip Q a w S:=λb k cs Φ hF hr hc=>Reach.calm H hF (λ_=>rfl) (λ_=>stepR_skip) (hc _ _ _ _ h)
theorem jd(H:Fit P F){x y:Code}(h:wpR P F x (Gm (λa' w' S'=>wpR P F y Q a' w' S') Q) a w S):wpR P F (.seq x y) Q a w S:=by
 intro b k cs Φ hF hr hc;refine Reach.calm H hF (λ_=>rfl) (λ_=>stepR_seq) (h b (.code y::k) cs Φ hF hr λe a' w' S' q=>?_);cases e with
 |normal=>exact q b k cs Φ hF hr hc
 |exit id=>exact(hc _ _ _ _ q).push rfl (by simp)
 |ret=>exact(hc _ _ _ _ q).push (x:=.code y) rfl (by simp)
 |goto l=>exact hc _ _ _ _ q
 |panic ch=>exact hc _ _ _ _ q
 |outgrown=>exact hc _ _ _ _ q
theorem Ah(H:Fit P F){o:Operand}{x y:Code}{t:Bool}(hc:a.eval o=.bool t)(h:wpR P F (if t then x else y) Q a w S):wpR P F (.cond o x y) Q a w S:=
 λb k cs Φ hF hr hq=>Reach.calm H hF (λ_=>rfl) (λ_=>stepR_cond hc) (h b k cs Φ hF hr hq)
theorem xW(H:Fit P F){c:Code}{q:Exit→Act→World→Prop}(h:∀τ d,c.wpIn (fen F) 0 P q a (bJ w τ d)):wpR P F c (λe a' w' S'=>S'=S∧q e a' w') a w S:=by
 intro b k cs Φ hF hr hc;refine Reach.lone H (R:=λg' w'=>Reach P F Φ g' w' S) (λφ=>?_) λg' w' h=>h;obtain⟨e,a',w',hq,harr⟩:=h φ 0 b k cs hr hF (λd hd=>by cases hd);have hA:=hc e a' w' S ⟨rfl,hq⟩;refine⟨φ,0,λi q=>by rw[Nat.zero_add],?_⟩;cases e with
 |normal=>exact⟨_,_,harr,kH hF _ _,hA⟩
 |exit id=>obtain⟨k',hk',hg⟩:=hA;exact⟨_,_,harr.1 k' hk',kH hF _ _,hg⟩
 |ret=>obtain⟨todo,hs⟩:=harr.1 hr;exact⟨_,_,hs,⟨rfl,rfl,.inl hF⟩,hA todo⟩
 |goto l=>exact hA.elim
 |panic ch=>exact hA.elim
 |outgrown=>exact hA.elim
theorem mJ(H:Fit P F){id:Nat}{ops:Array Oper}(h:pq P F ops (List.range ops.size) Q a w S):wpR P F (.region id ops false) Q a w S:=
 λb k cs Φ hF hr hc=>Reach.calm H hF (λ_=>rfl) (λ_=>stepR_region) (h b k cs Φ hF hr hc)
theorem lV(H:Fit P F){ops:Array Oper}(h:Q .normal a w S):pq P F ops [] Q a w S:=λb k cs Φ hF hr hc=>Reach.calm H hF (λ_=>rfl) (λ_=>stepR_region_end) (hc _ _ _ _ h)
theorem AX(H:Fit P F){ops:Array Oper}{i:Nat}{rest:List Nat}{o:Oper}(ho:ops[i]?=some o)(hw:Region.wanted o (yielded ops a.tmps)=false)(hab:∀τ d f,o.about P (bJ w τ d) a.eval=some f→F f)
  (h:pq P F ops rest Q (a.put o.dst undef) w S):pq P F ops (i::rest) Q a w S:=by
 intro b k cs Φ hF hr hc;refine Reach.lone H (R:=λg' w'=>g'=G (b.atR (a.put o.dst undef) (.inRegion ops rest::k)) cs∧∃τ d,w'=bJ w τ d) (λφ=>?_) λg' w' ⟨e1,τ,d,e2⟩=>?_
 ·have hs:=stepR_op_skip (P:=P) (b:=b) (a:=a) (k:=k) (cs:=cs) (w:=bJ w φ 0) (ops:=ops) (i:=i) (rest:=rest) (by simp[ho];simpa using hw);simp only[ho,Option.bind_some]at hs;exact⟨φ,0,λi q=>by rw[Nat.zero_add],_,_,.one (fenced_oper (F:=fen F) (n:=0) hF (λd hd=>by cases hd) ho (hab φ 0)) hs,kH hF _ _,rfl,φ,0,rfl⟩
 ·subst e1 e2;intro hs gs wa sl t q h0 hL hP hp;exact h b k cs Φ hF hr hc hs gs wa sl t q h0 hL hP ⟨hp.os,hp.out,hp.size,hp.same,hp.pois,hp.views⟩
end
variable (P F)in
def CallsR(f:FuncId)(args:Array Value)(w:World)(S:Blks)(R:Value→World→Blks→Prop):Prop:=
 ∀(c:Frame) (cs:List Frame) (Φ:Rq),F c.fn→OkFrame P c→(∀fr∈cs,OkFrame P fr)→(∀v w' S',R v w' S'→Reach P F Φ (G (c.finish v) cs) w' S')→Raw P (λg' w' S'=>Sane P F g'∧Φ g' w' S') (G (Frame.enter P f args .normal) (c::cs)) w S
theorem CallsR.mono{f:FuncId}{args:Array Value}{R R':Value→World→Blks→Prop}(h:CallsR P F f args w S R)(hr:∀v w' S',R v w' S'→R' v w' S'):CallsR P F f args w S R':=
 λc cs Φ hF hc hcs hn=>h c cs Φ hF hc hcs λv w' S' r=>hn v w' S' (hr v w' S' r)
theorem uO(H:Fit P F){f:FuncId}{args:Array Value}{R:Value→World→Prop}(hc:∀τ d,CallsIn (fen F) 0 P f args (bJ w τ d) λe w'=>∃v,e=.returned v∧R v w'):CallsR P F f args w S (λv w' S'=>S'=S∧R v w'):=by
 intro c cs Φ hF hcf hcs hn;have hf:F f:=(hc w.tape 0).1;have hfn:(Frame.enter P f args .normal).fn=f:=by
  obtain⟨fn,code,h1,h2,_⟩:=H.text f hf;simp[Frame.enter,h1,h2]
 refine Reach.lone H (xZ hc (.inl hF)) (λg' w' ⟨v,e,r⟩=>?_) ⟨⟨rfl,rfl,.inl (by show F (Frame.enter P f args .normal).fn;rw[hfn];exact hf)⟩,⟨jm H (.inl hf) args (by simp),λfr hfr=>?_⟩⟩
 ·subst e;exact hn v w' S ⟨rfl,r⟩
 ·rcases List.mem_cons.1 hfr with rfl|h
  ·exact hcf
  ·exact hcs fr h
def Bo(P:Program)(f:Func)(R:Value→World→Blks→Prop):Qr
 |.normal,a,w,S|.ret,a,w,S=>a.defers=[]∧∃v,(∀τ d,(results f a.tmps).run P (bJ w τ d)=.ok v (bJ w τ d))∧R v w S
 |_,_,_,_=>False
theorem Reach.leave(H:Fit P F){b:Frame}{a:Act}{c:Frame}{cs:List Frame}{todo:List Item}{fn:Func}{v:Value}(hF:F b.fn)(hk:b.kind=.normal)(hro:b.roundOf=none)(hcF:F c.fn)(hfn:P.funcs[b.fn]?=some fn)(hd:a.defers=[])
  (hr:∀τ d,(results fn a.tmps).run P (bJ w τ d)=.ok v (bJ w τ d)) (h:Reach P F Q (G (c.finish v) cs) w S):Reach P F Q (G { b.atR a todo with mode:=.returning } (c::cs)) w S:=by
 refine Reach.lone H (R:=λg' w'=>g'=G (c.finish v) cs∧∃τ d,w'=bJ w τ d) (λφ=>?_) λg' w' ⟨e1,τ,d,e2⟩=>?_
 ·have hl:Frame.leaving P { b.atR a todo with mode:=.returning } (bJ w φ 0) (.returned v):=⟨rfl,hd,hk,fn,hfn,hr φ 0⟩
  exact⟨φ,0,λi q=>by rw[Nat.zero_add],_,_,.one (fenced_leaving (F:=fen F) (n:=0) hF (λd hd=>by cases hd) hl) (step_leave_returned hl),⟨rfl,rfl,by left;show F (c.finish v).fn;rw[wo c v];exact hcF⟩,rfl,φ,0,rfl⟩
 ·subst e1 e2;intro hs gs wa sl t q h0 hL hP hp;exact h hs gs wa sl t q h0 hL hP ⟨hp.os,hp.out,hp.size,hp.same,hp.pois,hp.views⟩
theorem rW(H:Fit P F){f:FuncId}{fn:Func}{body:Code}{args:Array Value}{R:Value→World→Blks→Prop}(hF:F f)(hf:P.funcs[f]?=some fn)(hb:fn.body=some body)
  (h:wpR P F body (Bo P fn R) { tmps:=args++Array.replicate (fn.ntmps-args.size) undef,defers:=[] } w S):CallsR P F f args w S R:=by
 intro c cs Φ hcF hcf hcs hn
 let b:Frame:={ (default:Frame)with fn:=f,kind:=.normal,roundOf:=none }
 have henter:Frame.enter P f args .normal=b.atR { tmps:=args++Array.replicate (fn.ntmps-args.size) undef,defers:=[] } [.code body]:=by
  simp[Frame.enter,Frame.atR,hf,hb,b]
 have hok:=jm H (.inl hF) args (k:=.normal) (by simp);rw[henter]at hok ⊢;refine h b [] (c::cs) Φ hF rfl (λe a' w' S' q=>?_) ⟨kH hF _ _,hok,λfr hfr=>?_⟩
 ·cases e with
  |normal=>
   obtain⟨hd,v,hr,hR⟩:=q
   refine Reach.lone H (R:=λg' w''=>g'=G { b.atR a' []with mode:=.returning } (c::cs)∧∃τ d,w''=bJ w' τ d) (λφ=>⟨φ,0,λi q=>by rw[Nat.zero_add],_,_,.one (fenced_calm (F:=fen F) (n:=0) hF (λd hd=>by cases hd) rfl) (stepR_end rfl),⟨rfl,rfl,.inl hF⟩,rfl,φ,0,rfl⟩)
    λg' w'' ⟨e1,τ,d,e2⟩=>?_
   subst e1 e2;exact Reach.leave (w:=bJ w' τ d) H hF rfl rfl hcF hf hd (λτ' d'=>hr τ' d') (λhs gs wa sl t q h0 hL hP hp=>hn v w' S' hR hs gs wa sl t q h0 hL hP ⟨hp.os,hp.out,hp.size,hp.same,hp.pois,hp.views⟩)
  |ret=>
   obtain⟨hd,v,hr,hR⟩:=q;exact λtodo=>Reach.leave H hF rfl rfl hcF hf hd hr (hn v w' S' hR)
  |exit id=>exact q.elim
  |goto l=>exact q.elim
  |panic ch=>exact q.elim
  |outgrown=>exact q.elim
 ·rcases List.mem_cons.1 hfr with rfl|h
  ·exact hcf
  ·exact hcs fr h
theorem BR(H:Fit P F){Q:Qr}{a:Act}{ops:Array Oper}{i:Nat}{rest:List Nat}{o:Oper}{f:FuncId}{fn:Func}{body:Code}{args:Array Operand}{ats:Array TypeId}{R:Value→World→Blks→Prop}
  (ho:ops[i]?=some o) (hw:Region.wanted o (yielded ops a.tmps)=true) (hop:o.op=.call { callee:=.value (.func f),args,argTypes:=ats }) (hf:P.funcs[f]?=some fn) (hname:(fn.name == "runtime.NumGoroutine")=false) (hb:fn.body=some body)
  (hcall:CallsR P F f (args.map a.eval) w S R) (hnext:∀v w' S',R v w' S'→pq P F ops rest Q (a.put o.dst v) w' S'):pq P F ops (i::rest) Q a w S:=by
 intro b k cs Φ hF hr hc hs gs wa sl t q h0 hL hP hp;have hk:b.kind≠.early:=hs.2.frame.kind;have hbat:∀a' k',b.atR a' k'=b.at a' k':=λa' k'=>Frame.atR_of_none hr a' k';have hg:Goes P true AtRel DC0 (λg' w'=>g'=G (Frame.enter P f (args.map a.eval) .normal) (b.atR a (.inRegion ops (i::rest)::k)::cs)∧AtRel wa w') 1 (G (b.atR a (.inRegion ops (i::rest)::k)) cs) wa:=by
  refine Goes.step rfl λw₁ h₁=>?_;rw[hbat];refine goes_call ho hw hk hop hf hname hb ⟨⟨rfl,rfl⟩,Goes.stop λw₂ h₂=>⟨?_,?_⟩⟩
  ·rw[enter_at _ hf hb]
  ·obtain⟨d1,rfl⟩:=h₁;obtain⟨d2,rfl⟩:=h₂;exact⟨d2,rfl⟩
 obtain⟨M,gs1,g1,w1,sl1,t1,q1,r1,_,h01,⟨rfl,d,rfl⟩,hL1,hP1⟩:=walk_beside (P:=P) (Shun:=Shn S) (B:=wa.heap.size) (D:=DC0) (λw w' es hd e he=>by rw[hd.2]at he;simp at he) _ 1 gs _ wa sl t q (ay _) h0 hL hP hg;obtain⟨N,gs2,g2,w2,S2,wa2,sl2,t2,q2,r2,h02,hQ2,hL2,hP2,hp2⟩:=hcall (b.atR a (.inRegion ops (i::rest)::k)) cs Φ hF hs.2.frame hs.2.callers (λv w' S' hR=>by
   rw[Frame.finish_atR,ho];exact hnext v w' S' hR b k cs Φ hF hr hc) gs1 (wa.at d) sl1 t1 q1 h01 hL1 hP1 ⟨hp.os,hp.out,hp.size,hp.same,hp.pois,hp.views⟩
 exact⟨M+N,gs2,g2,w2,S2,wa2,sl2,t2,q2,by rw[runNT_add,r1];exact r2,h02,hQ2,hL2,hP2,hp2⟩
end
end Go.Proofs.YtnkejaohnhpbpaaGreatDoor.Lift
end
section
namespace Go.Proofs.YtnkejaohnhpbpaaGreatDoor.Lift
open Go Go.Conc
section
variable [Keep] {P:Program} {F:FuncId→Prop} {ops:Array Oper} {Q:Qr} {a:Act} {w:World} {S:Blks}
theorem I4{o:Oper}{i:Nat}{rest:List Nat}{K:Act→World→Prop}(ho:ops[i]?=some o)(hw:Region.wanted o (yielded ops a.tmps)=true)(h:o.wpIn (fen F) 0 P a w K (λ_ _ _=>False))
  (b:Frame) (k:List Item) (cs:List Frame) (hro:b.roundOf=none) (hb:F b.fn) :
  ∃a' w',K a' w'∧StepsIn (Machine.fenced P (fen F)) P (lone (b.atR a (.inRegion ops (i::rest)::k)) cs w) (lone (b.atR a' (.inRegion ops rest::k)) cs w'):=by
 unfold Oper.wpIn at h;obtain⟨habout,h⟩:=h;have hr:(fen F).room (cs.length+1+0):=λd hd=>by cases hd
 have h0:(lone (b.atR a (.inRegion ops (i::rest)::k)) cs w).fenced P (fen F):=fenced_oper (F:=fen F) (n:=0) hb hr ho habout;simp only[Oper.uponIn]at h;have hg:=stepGR_op (P:=P) (b:=b) (k:=k) (cs:=cs) (w:=w) (rest:=rest) ho hw;rw[show b.roundOf=(fen F).round from hro]at hg;have hfin:∀v,(b.atR a (.inRegion ops (i::rest)::k)).finish v=b.atR (a.put o.dst v) (.inRegion ops rest::k):=by
  intro v;rw[Frame.finish_atR,ho];rfl
 split at h
 ·rename_i v w' hr';refine⟨_,_,h,.one h0 (step_lone_go ?_)⟩;rw[hg,← hfin];simp[stepG.apply,hr']
 ·rename_i w' hr';refine⟨_,_,h,.one h0 (step_lone_go ?_)⟩;rw[hg,← hfin];simp[stepG.apply,hr']
 ·rename_i d w' hr';refine⟨_,_,h,.one h0 (step_lone_go ?_)⟩
  have:({ b.atR a (.inRegion ops (i::rest)::k)with defers:=d::a.defers }:Frame).finish undef=
    b.atR ({ a with defers:=d::a.defers }.put o.dst undef) (.inRegion ops rest::k):=by
   have:=Frame.finish_atR b { a with defers:=d::a.defers } ops i rest k undef;rw[ho]at this;exact this
  rw[hg];simp only[stepG.apply,Sem.runT_eq,hr',GStep.bare_after];exact congrArg (λfr=>GStep.go { frame:=fr,callers:=cs,status:=.running,dying:=none } w') this
 ·rename_i f args w' hr';obtain⟨hn,hF,h⟩:=h;have hroom:(fen F).room ((b.atR a (.inRegion ops (i::rest)::k)::cs).length+1+(0-1)):=Fence.room_enter hr hn;obtain⟨e,w'',fr,hR,hsteps,hfn,hleave⟩:=h (b.atR a (.inRegion ops (i::rest)::k)::cs) hroom
  have henter:step P (lone (b.atR a (.inRegion ops (i::rest)::k)) cs w)=
    .next (lone (Frame.enter P f args .normal) (b.atR a (.inRegion ops (i::rest)::k)::cs) w'):=
   step_lone_go (by rw[hg];simp[stepG.apply,hr',Frame.atR])
  cases e with
  |returned v=>
   have hl:(lone fr (b.atR a (.inRegion ops (i::rest)::k)::cs) w'').fenced P (fen F):=fenced_leaving (hfn▸hF) hroom hleave;refine⟨_,_,hR,.head h0 henter (StepsIn.trans hsteps (.one hl ?_))⟩;rw[← hfin];exact step_leave_returned hleave
  |panicked chain=>exact hR.elim
  |outgrown=>obtain⟨_,_,x⟩:=hR;exact x.elim
 ·rename_i row args w' hr';obtain⟨hn,h⟩:=h;obtain⟨v,w'',hR,hsteps⟩:=h (b.atR a (.inRegion ops (i::rest)::k)) cs (Fence.room_enter hr hn)
  have henter:step P (lone (b.atR a (.inRegion ops (i::rest)::k)) cs w)=
    .next (lone (Frame.ofRow P row args .normal) (b.atR a (.inRegion ops (i::rest)::k)::cs) w'):=
   step_lone_go (by rw[hg];simp[stepG.apply,hr',Frame.atR])
  refine⟨_,_,hR,.head h0 henter ?_⟩;rw[← hfin];exact hsteps
 ·rename_i l f tmps assign body w' hr';obtain⟨hn,_,h⟩:=h;obtain⟨e,w'',hR,hsteps⟩:=h (b.atR a (.inRegion ops (i::rest)::k)) cs (Fence.room_enter hr hn)
  have henter:step P (lone (b.atR a (.inRegion ops (i::rest)::k)) cs w)=
    .next (lone (Frame.round l f tmps assign body .normal) (b.atR a (.inRegion ops (i::rest)::k)::cs) w'):=
   step_lone_go (by rw[hg];simp[stepG.apply,hr',Frame.atR])
  cases e with
  |returned v=>
   refine⟨_,_,hR,.head h0 henter ?_⟩;rw[← hfin];exact hsteps
  |panicked chain=>exact hR.elim
  |outgrown=>obtain⟨_,_,x⟩:=hR;exact x.elim
 all_goals exact h.elim
theorem BU(H:Fit P F){o:Oper}{i:Nat}{rest:List Nat}{K:Act→World→Prop}(ho:ops[i]?=some o)(hw:Region.wanted o (yielded ops a.tmps)=true)
  (h:∀τ d,o.wpIn (fen F) 0 P a (bJ w τ d) K (λ_ _ _=>False)) (hk:∀a' w',K a' w'→pq P F ops rest Q a' w' S):pq P F ops (i::rest) Q a w S:=by
 intro b k cs Φ hF hr hc;refine Reach.lone H (R:=λg' w'=>Reach P F Φ g' w' S) (λφ=>?_) λg' w' h=>h;obtain⟨a',w',hK,hs⟩:=I4 (rest:=rest) ho hw (h φ 0) b k cs hr hF;exact⟨φ,0,λi q=>by rw[Nat.zero_add],_,_,hs,kH hF _ _,hk a' w' hK b k cs Φ hF hr hc⟩
theorem yw(H:Fit P F){id:Nat}(h:∀t,pq P F ops (Region.schedule (P.follows .mixedOrders) ops t) Q a w S):wpR P F (.region id ops true) Q a w S:=by
 intro b k cs Φ hF hr hc
 refine Reach.lone H (R:=λg' w'=>∃t τ d,g'=G (b.atR a (.inRegion ops (Region.schedule (P.follows .mixedOrders) ops t)::k)) cs∧w'=bJ w τ d)
  (λφ=>⟨φ,0,λi q=>by rw[Nat.zero_add],_,_,.one (fenced_calm (F:=fen F) (n:=0) hF (λd hd=>by cases hd) rfl) stepR_region_draw,kH hF _ _,_,φ,1,rfl,rfl⟩) λg' w' ⟨t,τ,d,e1,e2⟩=>?_
 subst e1 e2;intro hs gs wa sl tr q h0 hL hP hp;exact h t b k cs Φ hF hr hc hs gs wa sl tr q h0 hL hP ⟨hp.os,hp.out,hp.size,hp.same,hp.pois,hp.views⟩
variable (P F ops)in
def opR(i:Nat)(K:Act→World→Blks→Prop)(a:Act)(w:World)(S:Blks):Prop:=
 ∀(rest:List Nat) (Q:Qr),(∀a' w' S',K a' w' S'→pq P F ops rest Q a' w' S')→pq P F ops (i::rest) Q a w S
variable (P F ops)in
def MP(Q:Qr):Nat→Array Bool→Act→World→Blks→Prop
 |0,listed,a,w,S=>Region.ready .any ops listed=[]∧Q .normal a w S
 |fuel+1,listed,a,w,S=>(Region.ready .any ops listed=[]→Q .normal a w S)∧∀i∈Region.ready .any ops listed,opR P F ops i (MP Q fuel (listed.setIfInBounds i true)) a w S
theorem GR(H:Fit P F):∀(fuel t:Nat) (listed:Array Bool) (a:Act) (w:World) (S:Blks),MP P F ops Q fuel listed a w S→pq P F ops (Region.linearise.go .any ops fuel t listed []) Q a w S:=by
 intro fuel
 induction fuel with
 |zero=>intro t listed a w S h;simpa[Region.linearise.go]using lV H h.2
 |succ fuel ih=>
  intro t listed a w S h;obtain⟨h₀,h₁⟩:=h;simp only[Region.linearise.go]
  change pq P F ops (match (Region.ready .any ops listed)[t % (Region.ready .any ops listed).length]? with
   |some i=>Region.linearise.go .any ops fuel (t / (Region.ready .any ops listed).length) (listed.setIfInBounds i true) [i]
   |none=>[].reverse) Q a w S
  cases hi:(Region.ready .any ops listed)[t % (Region.ready .any ops listed).length]? with
  |none=>
   have hnil:Region.ready .any ops listed=[]:=by
    cases hr:Region.ready .any ops listed with
    |nil=>rfl
    |cons x xs=>
     rw[hr]at hi;have hlt:t % (x::xs).length<(x::xs).length:=Nat.mod_lt _ (by simp);simp at hi;simp at hlt;omega
   simpa using lV H (h₀ hnil)
  |some i=>
   simp only[];rw[linearise_go_acc,List.reverse_singleton,List.singleton_append];exact h₁ i (List.mem_of_getElem? hi) _ _ λa' w' S' q=>ih _ _ a' w' S' q
theorem Ai(H:Fit P F){id:Nat}(hm:P.follows .mixedOrders=true)(h:MP P F ops Q ops.size (Array.replicate ops.size false) a w S):wpR P F (.region id ops true) Q a w S:=
 yw H λt=>by
  simp only[Region.schedule,hm,Bool.true_or,if_true];exact GR H ops.size t _ a w S h
def also(D:Nat→Bool)(i:Nat):Nat→Bool:=λj=>D j||j==i
def Iy(ops:Array Oper)(D:Nat→Bool)(i:Nat):Prop:=D i=false∧(∀j,cu ops i j=true→D j=true)∧(∀j,cu ops j i=true→D j=false)
abbrev Wr:=(Nat→Bool)→World→Blks→Prop
variable (P F ops)in
def StepR(W:Wr)(i:Nat)(o:Oper)(a a':Act):Prop:=
 (∀D w S,Iy ops D i→W D w S→∀τ d,o.wpIn (fen F) 0 P a (bJ w τ d) (λa'' w'=>a''=a'∧W (also D i) w' S) (λ_ _ _=>False))∨
 (∃(f:FuncId) (fn:Func) (body:Code) (args:Array Operand) (ats:Array TypeId),o.op=.call { callee:=.value (.func f),args,argTypes:=ats }∧P.funcs[f]?=some fn∧(fn.name == "runtime.NumGoroutine")=false∧fn.body=some body∧
  ∀D w S,Iy ops D i→W D w S→CallsR P F f (args.map a.eval) w S (λv w' S'=>a'=a.put o.dst v∧W (also D i) w' S'))
variable (P F ops)in
def CV(W:Wr):List Nat→Act→(Act→Prop)→Prop
 | [],a,R=>R a
 |i::rest,a,R=>∃o,ops[i]?=some o∧
   ((Region.wanted o (yielded ops a.tmps)=true∧∃v a',a'=a.put o.dst v∧StepR P F ops W i o a a'∧CV W rest a' R)∨
    (Region.wanted o (yielded ops a.tmps)=false∧(∀w f,o.about P w a.eval=some f→F f)∧(∀D w S,Iy ops D i→W D w S→W (also D i) w S)∧CV W rest (a.put o.dst undef) R))
variable (P F ops)in
def GoodR(W:Wr)(i:Nat)(a:Act)(v:Value):Prop:=∃o,ops[i]?=some o∧
 ((Region.wanted o (yielded ops a.tmps)=true∧StepR P F ops W i o a (a.put o.dst v))∨(Region.wanted o (yielded ops a.tmps)=false∧(∀w f,o.about P w a.eval=some f→F f)∧(∀D w S,Iy ops D i→W D w S→W (also D i) w S)∧v=undef))
theorem KA{W:Wr}{R:Act→Prop}:∀(k s:Nat) (a:Act),CV P F ops W (List.range' s k) a R→
  ∃(vals:Nat→Value) (acts:Nat→Act),acts s=a∧(∀i,s≤i→i<s+k→acts (i+1)=(acts i).put (bH ops i) (vals i)∧GoodR P F ops W i (acts i) (vals i))∧R (acts (s+k)):=by
 intro k
 induction k with
 |zero=>intro s a h;exact⟨λ_=>undef,λ_=>a,rfl,λi h1 h2=>by omega,h⟩
 |succ k ih=>
  intro s a h;rw[List.range'_succ]at h;obtain⟨o,ho,h⟩:=h;have hd:bH ops s=o.dst:=by simp[bH,ho]
  have:∃v,GoodR P F ops W s a v∧CV P F ops W (List.range' (s+1) k) (a.put o.dst v) R:=by
   rcases h with⟨hw,v,a',rfl,h1,h2⟩|⟨hw,h0,h1,h2⟩
   ·exact⟨v,⟨o,ho,.inl ⟨hw,h1⟩⟩,h2⟩
   ·exact⟨undef,⟨o,ho,.inr ⟨hw,h0,h1,rfl⟩⟩,h2⟩
  obtain⟨v,hg,h2⟩:=this;obtain⟨vals,acts,e,hall,hR⟩:=ih (s+1) _ h2;refine⟨λj=>if j=s then v else vals j,λj=>if j=s then a else acts j,by simp,λi h1 h2=>?_,?_⟩
  ·by_cases hi:i=s
   ·subst hi;simp only[if_pos];rw[if_neg (by omega),e,hd];exact⟨rfl,hg⟩
   ·simp only[if_neg hi];rw[if_neg (by omega)];exact hall i (by omega) (by omega)
  ·show R (if s+(k+1)=s then a else acts (s+(k+1)))
   rw[if_neg (by omega),show s+(k+1)=s+1+k by omega];exact hR
end
section
variable [Keep] {P:Program} {F:FuncId→Prop} {ops:Array Oper} {Q:Qr}
theorem yx(H:Fit P F){id:Nat}{a₀:Act}{w₀:World}{S₀:Blks}(hm:P.follows .mixedOrders=true)(ht:textual ops=true)(W:Wr)(h0:W (λ_=>false) w₀ S₀)
  (h:CV P F ops W (List.range ops.size) a₀ (λa=>∀w S,W (λj=>decide (j<ops.size)) w S→Q .normal a w S)):wpR P F (.region id ops true) Q a₀ w₀ S₀:=by
 rw[List.range_eq_range']at h;obtain⟨vals,acts,e0,hall,hR⟩:=KA ops.size 0 a₀ h;rw[Nat.zero_add]at hR
 have T:∀i,i<ops.size→∃o,ops[i]?=some o∧noSelect o=true∧(∀j,cu ops i j=true→j<i)∧(∀t∈o.looksAt ops,∀j,bH ops j=some t→j=i∨cu ops i j=true∨cu ops j i=true)∧
   (∀j d,bH ops i=some d→bH ops j=some d→j=i):=by
  intro i hi;have:=List.all_eq_true.1 ht i (List.mem_range.2 hi);have ho:ops[i]?=some ops[i]:=Array.getElem?_eq_getElem hi;simp only[ho,Bool.and_eq_true]at this;obtain⟨⟨⟨h1,h2⟩,h3⟩,h4⟩:=this;have lt_of:∀{j d},bH ops j=some d→j<ops.size:=λ{j d} hj=>by
   rcases Nat.lt_or_ge j ops.size with h|h
   ·exact h
   ·simp[bH,Array.getElem?_eq_none h]at hj
  refine⟨_,ho,h1,λj hj=>?_,λt htt j hj=>?_,λj d hd hj=>?_⟩
  ·obtain⟨e,he,hb,rfl⟩:=nK ho hj;have:=(Array.all_eq_true_iff_forall_mem.1 h2) e he;simpa[hb]using this
  ·have:=List.all_eq_true.1 (List.all_eq_true.1 h3 t htt) j (List.mem_range.2 (lt_of hj));simp only[hj,beq_self_eq_true,Bool.not_true,Bool.false_or,Bool.or_eq_true,beq_iff_eq]at this;rcases this with(h|h)|h
   ·exact .inl h
   ·exact .inr (.inl h)
   ·exact .inr (.inr h)
  ·have hd':ops[i].dst=some d:=by simpa[bH,ho]using hd
   have:=List.all_eq_true.1 h4 j (List.mem_range.2 (lt_of hj));simp only[hj,hd',Option.isNone_some,Bool.or_false,beq_self_eq_true,Bool.not_true,beq_iff_eq,Bool.false_eq_true,or_false,Bool.or_eq_true]at this;exact this
 have hacts:∀i,i≤ops.size→Slots ops vals a₀ (·<i) (acts i):=by
  intro i
  induction i with
  |zero=>intro _;rw[e0];exact⟨rfl,rfl,λ_ _=>rfl,λj k hj=>by omega⟩
  |succ i ih=>
   intro hi;rw[(hall i (Nat.zero_le _) (by omega)).1];have:=(ih (by omega)).put (i:=i) (λj hj k hk hjk=>by
    obtain⟨_,_,_,_,_,hu⟩:=T i (by omega);have:=hu j k hk hjk;omega)
   refine⟨this.size,this.defers,λk hk=>this.off k λj hj=>hk j (by omega),λj k hj=>this.on j k (by omega)⟩
 refine Ai H hm ?_
 have key:∀(fuel:Nat) (l:Array Bool) (a:Act) (w:World) (S:Blks),l.size=ops.size→l.toList.count false≤fuel→(∀j,l.getD j false=true→∀i,cu ops j i=true→l.getD i false=true)→
   Slots ops vals a₀ (λj=>l.getD j false=true) a→W (λj=>l.getD j false) w S→MP P F ops Q fuel l a w S:=by
  intro fuel;have finish:∀(l:Array Bool) (a:Act) (w:World) (S:Blks),l.size=ops.size→Slots ops vals a₀ (λj=>l.getD j false=true) a→W (λj=>l.getD j false) w S→Region.ready .any ops l=[]→Q .normal a w S:=by
   intro l a w S hl hS hW hr;have hdone:∀i,i<ops.size→l.getD i false=true:=by
    intro i
    induction i using Nat.strongRecOn with
    |_ i ih=>
     intro hi;cases hli:l.getD i false with
     |true=>rfl
     |false=>
      exfalso;have:i∈Region.ready .any ops l:=eY.2 ⟨hi,by simp[aB,hl,hi]at hli ⊢;exact hli,λj hj=>by
       obtain⟨_,_,_,h3,_⟩:=T i hi;have:=h3 j hj;exact ih j this (by omega)⟩
      rw[hr]at this;cases this
   have hlm:(λj=>l.getD j false)=λj=>decide (j<ops.size):=by
    funext m
    by_cases h:m<ops.size
    ·rw[hdone m h];simp[h]
    ·simp[aB,hl,h]
   rw[hlm]at hW;have hS2:Slots ops vals a₀ (·<ops.size) a:=by
    have iff:∀j,l.getD j false=true↔j<ops.size:=λj=>⟨λh=>by
     rcases Nat.lt_or_ge j ops.size with h1|h1
     ·exact h1
     ·simp[aB,hl,h1]at h,hdone j⟩
    exact⟨hS.size,hS.defers,λk hk=>hS.off k λj hj=>hk j ((iff j).1 hj),λj k hj=>hS.on j k ((iff j).2 hj)⟩
   rw[hS2.unique (hacts ops.size (ay _))];exact hR w S hW
  induction fuel with
  |zero=>
   intro l a w S hl hc hcl hS hW;have hnil:Region.ready .any ops l=[]:=by
    cases hr:Region.ready .any ops l with
    |nil=>rfl
    |cons x xs=>
     exfalso;have hx:x∈Region.ready .any ops l:=by rw[hr];simp
     obtain⟨h1,h2,_⟩:=eY.1 hx;have hxl:x<l.size:=by omega
     simp[aB,hxl]at h2;have h3:false∈l.toList:=by rw[← h2];exact Array.getElem_mem_toList hxl
     have:=List.count_pos_iff.2 h3;omega
   exact⟨hnil,finish l a w S hl hS hW hnil⟩
  |succ fuel ih=>
   intro l a w S hl hc hcl hS hW;refine⟨finish l a w S hl hS hW,λi hi=>?_⟩;obtain⟨hlt,hli,hdeps⟩:=eY.1 hi;obtain⟨o,ho,hns,htop,hlook,huniq⟩:=T i hlt;have hil:i<l.size:=by omega
   have hli':l.getD i false=false:=by simp[aB,hil]at hli ⊢;exact hli
   have hdi:bH ops i=o.dst:=by simp[bH,ho]
   have hA:=hacts i (by omega);have hag:∀t∈o.looksAt ops,a.tmps[t]?=(acts i).tmps[t]?:=by
    intro t htt;by_cases hts:t<a₀.tmps.size
    ·by_cases hex:∃j,bH ops j=some t
     ·obtain⟨j,hj⟩:=hex;have only:∀j',bH ops j'=some t→j'=j:=λj' hj'=>by
       have hjlt:j<ops.size:=by
        rcases Nat.lt_or_ge j ops.size with h|h
        ·exact h
        ·simp[bH,Array.getElem?_eq_none h]at hj
       obtain⟨_,_,_,_,_,hu⟩:=T j hjlt;exact hu j' t hj hj'
      have base:l.getD j false=false→¬j<i→a.tmps[t]?=(acts i).tmps[t]?:=λh1 h2=>by
       rw[hS.off t (λj' hj' hd=>by rw[only j' hd]at hj';rw[h1]at hj';cases hj'),hA.off t (λj' hj' hd=>by rw[only j' hd]at hj';exact h2 hj')]
      rcases hlook t htt j hj with rfl|h|h
      ·exact base hli' (by omega)
      ·rw[hS.on j t (hdeps j h) hj hts,hA.on j t (htop j h) hj hts]
      ·have hij:i<j:=by
        have hjlt:j<ops.size:=by
         rcases Nat.lt_or_ge j ops.size with h|h
         ·exact h
         ·simp[bH,Array.getElem?_eq_none h]at hj
        obtain⟨_,_,_,ht2,_⟩:=T j hjlt;exact ht2 i h
       refine base ?_ (by omega);cases hlj:l.getD j false with
       |false=>rfl
       |true=>have:=hcl j hlj i h;rw[hli']at this;cases this
     ·rw[hS.off t λj _ hd=>hex ⟨j,hd⟩,hA.off t λj _ hd=>hex ⟨j,hd⟩]
    ·have hle:=Nat.le_of_not_lt hts;rw[Array.getElem?_eq_none (by rw[hS.size];exact hle),Array.getElem?_eq_none (by rw[hA.size];exact hle)]
   have hev:∀x∈o.op.operands,a.eval x=(acts i).eval x:=by
    intro x hx;cases x with
    |tmp t=>
     have:=hag t (List.mem_append_left _ (List.mem_filterMap.2 ⟨.tmp t,by simpa using hx,rfl⟩));simp[Act.eval,aB,this]
    |_=>rfl
   have hwant:Region.wanted o (yielded ops a.tmps)=Region.wanted o (yielded ops (acts i).tmps):=by
    unfold Region.wanted;cases hg:o.guard with
    |none=>rfl
    |some gw=>
     obtain⟨g,want⟩:=gw;have hy:yielded ops a.tmps g=yielded ops (acts i).tmps g:=by
      unfold yielded;cases ht:(ops[g]?).bind (·.dst)with
      |none=>rfl
      |some t=>
       have:=hag t (by simp[Oper.looksAt,hg,ht]);simp only[Option.bind_some];rw[this]
     simp only[hy]
   have hl2:(l.setIfInBounds i true).size=ops.size:=by simpa using hl
   have hgd:∀j,(l.setIfInBounds i true).getD j false=true↔(l.getD j false=true∨j=i):=by
    intro j;by_cases hji:i=j
    ·subst hji;simp[aB,hil]
    ·rw[aB,aA hji,← aB];exact⟨.inl,λh=>h.resolve_right (λe=>hji e.symm)⟩
   have hcount:(l.setIfInBounds i true).toList.count false≤fuel:=by
    have h2:l.toList[i]?=some false:=by
     simp[aB,hil]at hli';simp[hil,hli']
    have:=lI l.toList i h2;rw[Array.toList_setIfInBounds];omega
   have hcl2:∀j,(l.setIfInBounds i true).getD j false=true→∀i',cu ops j i'=true→(l.setIfInBounds i true).getD i' false=true:=by
    intro j hj i' hb;rw[hgd]at hj ⊢;rcases hj with hj|rfl
    ·exact .inl (hcl j hj i' hb)
    ·exact .inl (hdeps i' hb)
   have hS2:Slots ops vals a₀ (λj=>(l.setIfInBounds i true).getD j false=true) (a.put o.dst (vals i)):=by
    have:=hS.put (i:=i) (λj hj k hk hjk=>by
     have:=huniq j k hk hjk;subst this;rw[hli']at hj;cases hj)
    rw[hdi]at this;exact⟨this.size,this.defers,λk hk=>this.off k λj hj=>hk j ((hgd j).2 hj),λj k hj=>this.on j k ((hgd j).1 hj)⟩
   obtain⟨_,o',ho',hg⟩:=hall i (Nat.zero_le _) (by omega);rw[ho]at ho';cases ho';have hset:(λj=>(l.setIfInBounds i true).getD j false)=also (λj=>l.getD j false) i:=by
    funext j
    unfold also;cases hx:(l.setIfInBounds i true).getD j false with
    |true=>rcases(hgd j).1 hx with h|h<;>simp[h]
    |false=>
     have h1:¬(l.getD j false=true∨j=i):=λh=>by rw[(hgd j).2 h]at hx;cases hx
     have h2:l.getD j false=false:=by cases h:l.getD j false with|false=>rfl|true=>exact absurd (.inl h) h1
     have h3:(j==i)=false:=by simp;exact λh=>h1 (.inr h)
     simp only[h2,h3,Bool.or_false]
   have hmay:Iy ops (λj=>l.getD j false) i:=⟨hli',λj hj=>hdeps j hj,λj hj=>by
    show l.getD j false=false
    cases hlj:l.getD j false with
    |false=>rfl
    |true=>have:=hcl j hlj i hj;rw[hli']at this;cases this⟩
   have hon:∀w' S',W (also (λj=>l.getD j false) i) w' S'→MP P F ops Q fuel (l.setIfInBounds i true) (a.put o.dst (vals i)) w' S':=λw' S' hW'=>ih _ _ _ _ hl2 hcount hcl2 hS2 (by rw[hset];exact hW');rcases hg with⟨hw,hst⟩|⟨hw,hab,hkeep,hv⟩
   ·rcases hst with hst|⟨f,fn,body,args,ats,hop,hf,hname,hb,hst⟩
    ·intro rest Q' hk;refine BU H ho (by rw[hwant];exact hw) (K:=λa' w'=>a'=a.put o.dst (vals i)∧W (also (λj=>l.getD j false) i) w' S) (λτ d=>?_) λa' w' ⟨e,hW'⟩=>by subst e;exact hk _ _ _ (hon w' S hW')
     exact nC (F:=fen F) (T:=λw'=>W (also (λj=>l.getD j false) i) w' S) rfl hns (by rw[hS.size,hA.size]) hev (hst _ w S hmay hW τ d) λw' hw'=>⟨rfl,hw'⟩
    ·intro rest Q' hk;have hargs:args.map a.eval=args.map (acts i).eval:=by
      apply Array.map_congr_left;intro x hx;exact hev x (by rw[hop];simp[Op.operands,Call.operands,hx])
     have hc:=hst _ w S hmay hW;rw[← hargs]at hc;refine BR H ho (by rw[hwant];exact hw) hop hf hname hb hc λv w' S' ⟨e,hW'⟩=>?_;have:a.put o.dst v=a.put o.dst (vals i):=by
      cases hd:o.dst with
      |none=>rfl
      |some d=>
       simp only[hd,Act.put]at e ⊢;have e1:=congrArg (λ(a:Act)=>a.tmps[d]?) e;simp only at e1;by_cases hlt:d<(acts i).tmps.size
       ·rw[Array.getElem?_setIfInBounds_self_of_lt hlt,Array.getElem?_setIfInBounds_self_of_lt hlt]at e1;rw[Option.some.inj e1]
       ·rw[Array.setIfInBounds_eq_of_size_le (by rw[hS.size,← hA.size];exact Nat.le_of_not_lt hlt),Array.setIfInBounds_eq_of_size_le (by rw[hS.size,← hA.size];exact Nat.le_of_not_lt hlt)]
     rw[this];exact hk _ _ _ (hon w' S' hW')
   ·intro rest Q' hk;refine AX H ho (by rw[hwant];exact hw) (λτ d f hf=>hab (bJ w τ d) f (by rw[← hf];exact(about_congr o _ hev).symm)) ?_;have:=hon w S (hkeep _ w S hmay hW);rw[hv]at this;exact hk _ _ _ this
 refine key ops.size (Array.replicate ops.size false) a₀ _ _ (by simp) (by have:=List.count_le_length (a:=false) (l:=(Array.replicate ops.size false).toList);simp at this ⊢) (λj hj=>?_) ⟨rfl,rfl,λ_ _=>rfl,λj k hj=>?_⟩ ?_
 ·rw[aB,Array.getElem?_replicate]at hj;split at hj<;>simp at hj
 ·rw[aB,Array.getElem?_replicate]at hj;split at hj<;>simp at hj
 ·have:(λj=>(Array.replicate ops.size false).getD j false)=λ_=>false:=by
   funext m
   rw[aB,Array.getElem?_replicate];split<;>rfl
  rw[this];exact h0
end
end Go.Proofs.YtnkejaohnhpbpaaGreatDoor.Lift
end
section
namespace Go.Proofs.YtnkejaohnhpbpaaGreatDoor
open Go Go.RowKit Lift
structure Grow (n:Nat) (w w':World):Prop where
 os:w'.os=w.os
 output:w'.output=w.output
 size:w.heap.size≤w'.heap.size
 block:∀k,k<n→w'.heap[k]?=w.heap[k]?
theorem Grow.of{n:Nat}{w w':World}(h:Below n w w'):Grow n w w':=⟨h.os,h.output,h.size,h.block⟩
theorem Grow.refl(n:Nat)(w:World):Grow n w w:=⟨rfl,rfl,ay _,λ_ _=>rfl⟩
theorem Grow.trans{n:Nat}{a b c:World}(h:Grow n a b)(k:Grow n b c):Grow n a c:=⟨k.os.trans h.os,k.output.trans h.output,Nat.le_trans h.size k.size,λi hi=>(k.block i hi).trans (h.block i hi)⟩
theorem Grow.mono{n m:Nat}{a b:World}(h:Grow m a b)(hn:n≤m):Grow n a b:=⟨h.os,h.output,h.size,λi hi=>h.block i (aG hi hn)⟩
theorem Grow.bJ{n:Nat}{w w':World}{τ:Nat→Question→Nat}{d:Nat}(h:Below n (bJ w τ d) w'):Grow n w w':=⟨h.os,h.output,h.size,h.block⟩
structure fD (n:Nat) (w:World) (S:Blks) (w':World) (S':Blks):Prop extends Grow n w w' where
 shun:∀k,S' k→S k∨n≤k
theorem fD.refl(n:Nat)(w:World)(S:Blks):fD n w S w S:=⟨.refl n w,λ_ h=>.inl h⟩
theorem fD.trans{n:Nat}{a b c:World}{S T U:Blks}(h:fD n a S b T)(k:fD n b T c U):fD n a S c U:=⟨h.toGrow.trans k.toGrow,λi hi=>(k.shun i hi).elim (h.shun i) .inr⟩
theorem fD.mono{n m:Nat}{a b:World}{S T:Blks}(h:fD m a S b T)(hn:n≤m):fD n a S b T:=⟨h.toGrow.mono hn,λi hi=>(h.shun i hi).imp id (Nat.le_trans hn)⟩
theorem Grow.s{n:Nat}{a b:World}{S:Blks}(h:Grow n a b):fD n a S b S:=⟨h,λ_ h=>.inl h⟩
structure iH (w w':World):Prop where
 heap:w'.heap=w.heap
 os:w'.os=w.os
 output:w'.output=w.output
theorem iH.g{w w':World}(h:iH w w')(n:Nat):Grow n w w':=⟨h.os,h.output,by rw[h.heap];exact ay _,λk _=>by rw[h.heap]⟩
theorem iH.grow{w w' w'':World}{n:Nat}(h:iH w w')(hb:Below n w' w''):Grow n w w'':=(h.g n).trans (.of hb)
theorem iH.pre{v w w':World}{n:Nat}(h:iH w w')(hb:Grow n v w):Grow n v w':=hb.trans (h.g n)
theorem iH.preS{v w w':World}{S T:Blks}{n:Nat}(h:iH w w')(hb:fD n v S w T):fD n v S w' T:=hb.trans (h.g n).s
section
variable [Keep] {P:Program} {F:FuncId→Prop} {Q:Qr} {a:Act} {w:World} {S:Blks}
theorem Gv{c:Code}(H:Fit P F)(h:∀w',iH w w'→c.wpIn (fen F) 0 P (λe a' w''=>Q e a' w'' S) a w'):wpR P F c Q a w S:=
 qR (xW H λτ d=>h (bJ w τ d) ⟨rfl,rfl,rfl⟩) λe a w S' ⟨hs,hq⟩=>by subst hs;exact hq
theorem OZ{x y:Code}(H:Fit P F)(h:∀w',iH w w'→x.wpIn (fen F) 0 P (λe a' w''=>Gm (λa w S=>wpR P F y Q a w S) Q e a' w'' S) a w'):wpR P F (.seq x y) Q a w S:=
 jd H (Gv H h)
theorem Ls{ops:Array Oper}{i:Nat}{rest:List Nat}{o:Oper}(H:Fit P F)(ho:ops[i]?=some o)(hw:Region.wanted o (yielded ops a.tmps)=true)
  (h:∀w',iH w w'→o.wpIn (fen F) 0 P a w' (λa' w''=>pq P F ops rest Q a' w'' S) (λ_ _ _=>False)):pq P F ops (i::rest) Q a w S:=
 BU H ho hw (λτ d=>h _ ⟨rfl,rfl,rfl⟩) λ_ _ h=>h
end
end Go.Proofs.YtnkejaohnhpbpaaGreatDoor
end
section
namespace Go.Proofs.YtnkejaohnhpbpaaGreatDoor.Lift
open Go Go.Conc Go.RowKit
open Go.ConcR (DC0)
section
variable [Keep] {P:Program} {F:FuncId→Prop}
omit [Keep]in
theorem D9{fn:Func}{t:Tmp}(h:fn.results=#[.tmp t])(tmps:Array Value):results fn tmps=Sem.pure (tmps.getD t undef):=by
 simp[results,h];rfl
omit [Keep]in
theorem Je{fr:Frame}{w:World}{v:Value}(hi:P.inits.idxOf? fr.fn=none){fn:Func}{t:Tmp}(hm:fr.mode=.returning)(hd:fr.defers=[])(hk:fr.kind=.normal)(hf:P.funcs[fr.fn]?=some fn)(hrs:fn.results=#[.tmp t])(hv:fr.tmps.getD t undef=v):stepG P true (G fr []) w=.ended (.done v) w #[]:=by
 simp only[stepG,G];simp[unwind,doReturn,hm,hd,hk,hf,hi,D9 hrs,hv,Sem.runT,seen,GStep.after]
omit [Keep]in
structure qU (P:Program) (f:FuncId) (fn:Func) (R:Value→World→Blks→Prop) (g:Goroutine) (w:World) (S:Blks):Prop where
 at_:∃(b:Frame) (a:Act) (todo:List Item) (v:Value),g=G { b.atR a todo with mode:=.returning } []∧b.fn=f∧b.kind=.normal∧b.roundOf=none∧a.defers=[]∧(∀τ d,(results fn a.tmps).run P (bJ w τ d)=.ok v (bJ w τ d))∧R v w S
theorem I9(H:Fit P F){f:FuncId}{fn:Func}{body:Code}{args:Array Value}{R:Value→World→Blks→Prop}{w:World}{S:Blks}(hF:F f)(hf:P.funcs[f]?=some fn)(hb:fn.body=some body)
  (h:wpR P F body (Bo P fn R) { tmps:=args++Array.replicate (fn.ntmps-args.size) undef,defers:=[] } w S):Raw P (qU P f fn R) (G (Frame.enter P f args .normal) []) w S:=by
 let b:Frame:={ (default:Frame)with fn:=f,kind:=.normal,roundOf:=none }
 have henter:Frame.enter P f args .normal=b.atR { tmps:=args++Array.replicate (fn.ntmps-args.size) undef,defers:=[] } [.code body]:=by
  simp[Frame.enter,Frame.atR,hf,hb,b]
 have hok:=jm H (.inl hF) args (k:=.normal) (by simp);rw[henter]at hok ⊢;refine(h b [] [] (qU P f fn R) hF rfl (λe a' w' S' q=>?_) ⟨kH hF _ _,hok,λfr hfr=>by cases hfr⟩).mono λ_ _ _ q=>q.2;cases e with
 |normal=>
  obtain⟨hd,v,hr,hR⟩:=q
  refine Reach.lone H (R:=λg' w''=>g'=G { b.atR a' []with mode:=.returning } []∧∃τ d,w''=bJ w' τ d) (λφ=>⟨φ,0,λi q=>by rw[Nat.zero_add],_,_,.one (fenced_calm (F:=fen F) (n:=0) hF (λd hd=>by cases hd) rfl) (stepR_end rfl),⟨rfl,rfl,.inl hF⟩,rfl,φ,0,rfl⟩)
   λg' w'' ⟨e1,τ,d,e2⟩=>?_
  subst e1 e2;intro hs gs wa sl t q h0 hL hP hp;exact Raw.here (w:=w') ⟨hs,⟨b,a',[],v,rfl,rfl,rfl,rfl,hd,hr,hR⟩⟩ gs wa sl t q h0 hL hP ⟨hp.os,hp.out,hp.size,hp.same,hp.pois,hp.views⟩
 |ret=>
  obtain⟨hd,v,hr,hR⟩:=q;exact λtodo=>.here ⟨b,a',todo,v,rfl,rfl,rfl,rfl,hd,hr,hR⟩
 |exit id=>exact q.elim
 |goto l=>exact q.elim
 |panic ch=>exact q.elim
 |outgrown=>exact q.elim
theorem EM{f:FuncId}{fn:Func}{R:Value→World→Blks→Prop}{g:Goroutine}{wa:World}(hk:Keep.orig=wa.heap)(hf:P.funcs[f]?=some fn){tr:Tmp}(hrs:fn.results=#[.tmp tr])(hi:P.inits.idxOf? f=none)
  (h:Raw P (qU P f fn R) g (Crew.waste P (λ_=>False) wa) (λ_=>False)) :
  ∃N last o w' t',runNT P (N+1) (solo g wa) #[]=(.ended o w',t')∧runN P N (solo g wa)=.next last∧step P last=.ended o w'∧
   Conc.Good P (λv w'=>∃w1 S1,R v w1 S1∧Poi P S1 w1 w') last o w' t':=by
 obtain⟨M,gs1,g1,w1,S1,wa1,sl1,t1,q1,r1,h01,⟨b,a,todo,v,rfl,hbf,hbk,hbr,had,hres,hR⟩,hL1,hP1,hp1⟩:=h #[g] wa none #[] (λ_=>0) rfl (leavers_one P g)
  (by have:=past_nil.mono (Nat.zero_le wa.heap.size);exact⟨this.clean,λi a h1 h2=>(this.known i a h1 h2).imp id λh=>h.1.elim,this.over,this.hears,this.seen⟩) (Crew.CQ (λb hb=>hb.elim) λb o _ ho _ _=>by rw[hk];exact ho)
 have hval:a.tmps.getD tr undef=v:=by
  have:=hres w1.tape 0;rw[results_tmp hrs]at this;cases this;rfl
 have hG:Goes P true AtRel DC0 (AtEnd P (Shn S1) wa1.heap.size (λv w'=>∃w1 S1,R v w1 S1∧Poi P S1 w1 w')) 0 (G { b.atR a todo with mode:=.returning } []) wa1:=by
  refine Goes.stop λw₁ h₁=>⟨rfl,v,#[],?_,by simp,?_⟩
  ·exact Je (v:=v) (by show P.inits.idxOf? b.fn=none;rw[hbf];exact hi) rfl had hbk (by show P.funcs[b.fn]?=_;rw[hbf];exact hf) hrs hval
  ·obtain⟨d,rfl⟩:=h₁;exact⟨w1,S1,hR,⟨hp1.os,hp1.out,hp1.size,hp1.same,hp1.pois,hp1.views⟩⟩
 obtain⟨K,last,o,w',t',e1,e2,e3,e4⟩:=beside_ends (P:=P) (sl:=sl1) (λw w' es hd e he=>by rw[hd.2]at he;simp at he) h01 hL1 hP1 hG;refine⟨M+K,last,o,w',t',?_,?_,e3,e4⟩
 ·have hr:runNT P M (solo g wa) #[]=(.next (crowd gs1 wa1 sl1),t1):=r1;rw[Nat.add_assoc,runNT_add,hr];exact e1
 ·have h1:runN P M (solo g wa)=.next (crowd gs1 wa1 sl1):=by rw[← runNT_fst P M _ #[]];exact congrArg Prod.fst r1
  rw[runN_add,h1];exact e2
end
theorem run_end{P:Program}{N M:Nat}{m a b:Machine}{o o':Outcome}{w w':World}(h1:runN P N m=.next a)(h2:step P a=.ended o w)(k1:runN P M m=.next b)(k2:step P b=.ended o' w'):o'=o∧w'=w:=by
 have one:∀{x:Machine} {o:Outcome} {w:World},step P x=.ended o w→∀k,runN P (k+1) x=.ended o w:=λh k=>by simp only[runN,h]
 rcases Nat.lt_trichotomy N M with h|h|h
 ·obtain⟨k,rfl⟩:∃k,M=N+(k+1):=⟨M - N - 1,by omega⟩
  rw[runN_add,h1]at k1;have:=one h2 k;simp only at k1;rw[this]at k1;cases k1
 ·subst h;rw[h1]at k1;cases k1;rw[h2]at k2;cases k2;exact⟨rfl,rfl⟩
 ·obtain⟨k,rfl⟩:∃k,N=M+(k+1):=⟨N - M - 1,by omega⟩
  rw[runN_add,k1]at h1;have:=one k2 k;simp only at h1;rw[this]at h1;cases h1
theorem A8{P:Program}{wa w':World}(h:∀t:TypeId,∃w1 S1,fD wa.heap.size (@Crew.waste ⟨wa.heap.size,wa.heap,t⟩ P (λ_=>False) wa) (λ_=>False) w1 S1∧@Poi ⟨wa.heap.size,wa.heap,t⟩ P S1 w1 w') :
  Below wa.heap.size wa.blind w'.blind:=by
 obtain⟨w1,S1,hg,hp⟩:=h 0;obtain⟨w2,S2,kg,kp⟩:=h 1;have hs:wa.heap.size≤w'.heap.size:=by
  letI:Keep:=⟨wa.heap.size,wa.heap,0⟩
  have h1:=hg.size;rw[Crew.mG]at h1;have h2:=hp.size;omega
 have ho:w'.os=wa.os∧w'.output=wa.output:=by
  letI:Keep:=⟨wa.heap.size,wa.heap,0⟩
  exact⟨hp.os.symm.trans hg.os,hp.out.symm.trans hg.output⟩
 refine⟨ho.1,rfl,ho.2,hs,λb hb=>?_⟩
 show w'.heap[b]?=wa.heap[b]?
 have n1:¬S1 b:=λe=>(hg.shun b e).elim id (by omega);have n2:¬S2 b:=λe=>(kg.shun b e).elim id (by omega);have one:∀(t:TypeId) (x:World) (S:Blks),¬S b→fD wa.heap.size (@Crew.waste ⟨wa.heap.size,wa.heap,t⟩ P (λ_=>False) wa) (λ_=>False) x S→@Poi ⟨wa.heap.size,wa.heap,t⟩ P S x w'→w'.heap[b]?=wa.heap[b]?∨w'.heap[b]?=some (@idle ⟨wa.heap.size,wa.heap,t⟩):=by
  intro t x S hn hg hp
  letI:Keep:=⟨wa.heap.size,wa.heap,t⟩
  have e0:=hg.block b hb;rcases hp.same b hn with e|⟨_,o,e,_,he⟩
  ·by_cases hgood:∀o,wa.heap[b]?=some o→Good P o
   ·rw[Crew.rP (λh=>h) hgood]at e0;exact .inl (e.symm.trans e0)
   ·obtain⟨o,ho⟩:=Classical.not_forall.1 hgood;obtain⟨h1,h2⟩:=Classical.not_imp.1 ho;rw[Crew.rO (λh=>h) h1 h2]at e0;exact .inr (e.symm.trans e0)
  ·exact .inl (e.trans (he hb).symm)
 rcases one 0 w1 S1 n1 hg hp with e|e
 ·exact e
 ·rcases one 1 w2 S2 n2 kg kp with k|k
  ·exact k
  ·rw[e]at k;simp[idle]at k
theorem Hu{P:Program}{f:FuncId}{fn:Func}{R:Value→Prop}{g:Goroutine}{wa:World}(hf:P.funcs[f]?=some fn){tr:Tmp}(hrs:fn.results=#[.tmp tr])(hi:P.inits.idxOf? f=none)
  (h:∀t:TypeId,@Raw ⟨wa.heap.size,wa.heap,t⟩ P (qU P f fn λv w1 S1=>R v∧fD wa.heap.size (@Crew.waste ⟨wa.heap.size,wa.heap,t⟩ P (λ_=>False) wa) (λ_=>False) w1 S1) g (@Crew.waste ⟨wa.heap.size,wa.heap,t⟩ P (λ_=>False) wa) (λ_=>False)) :
  ∃N last o w' t',runNT P (N+1) (solo g wa) #[]=(.ended o w',t')∧runN P N (solo g wa)=.next last∧step P last=.ended o w'∧
   Conc.Good P (λv w'=>R v∧Below wa.heap.size wa.blind w'.blind) last o w' t':=by
 have key:=λt=>(letI:Keep:=⟨wa.heap.size,wa.heap,t⟩;EM (P:=P) rfl hf hrs hi (h t))
 obtain⟨N,last,o,w',t',e1,e2,e3,e4⟩:=key 0;refine⟨N,last,o,w',t',e1,e2,e3,?_⟩;have two:∀t:TypeId,∃w1 S1,fD wa.heap.size (@Crew.waste ⟨wa.heap.size,wa.heap,t⟩ P (λ_=>False) wa) (λ_=>False) w1 S1∧@Poi ⟨wa.heap.size,wa.heap,t⟩ P S1 w1 w':=λt=>by
  obtain⟨M,last2,o2,w2,t2,k1,k2,k3,v,kv,⟨w1,S1,⟨_,hg⟩,hp⟩,_⟩:=key t;obtain⟨rfl,rfl⟩:=run_end e2 e3 k2 k3;exact⟨w1,S1,hg,hp⟩
 have hb:=A8 two;obtain⟨v,hv,⟨w1,S1,⟨hR,_⟩,_⟩,hrest⟩:=e4;exact⟨v,hv,⟨hR,hb⟩,hrest⟩
end Go.Proofs.YtnkejaohnhpbpaaGreatDoor.Lift
end
