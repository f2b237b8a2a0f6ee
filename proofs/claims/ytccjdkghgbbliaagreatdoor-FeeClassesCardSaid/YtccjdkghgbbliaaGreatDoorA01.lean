/- A run that comes through although some blocks are laid waste comes through in the same way where they hold cells, on every tape that answers alike; and touches none of them. Here: of a tree of primitives. Nothing of the program stands here. -/
import Derived.Conc.Beside
set_option linter.all false
section
universe u
namespace Go.Proofs.YtccjdkghgbbliaaGreatDoor
theorem ah{α:Sort u}{p:α→Prop}(w:α)(h:p w):∃x,p x:=⟨w,h⟩
theorem aj{α:Type u}(l:List α)(i:Nat)(a:α):l.toArray.setIfInBounds i a=(l.set i a).toArray:=List.setIfInBounds_toArray l i a
theorem ak(n:Nat):n≤n:=Nat.le_refl n
theorem au{α:Type u}{x:α}{xs:List α}{i:Nat}{a:α}:(x::xs).set (i+1) a=x::xs.set i a:=rfl
theorem ay{α:Type u}{x:α}{xs:List α}{a:α}:(x::xs).set 0 a=a::xs:=rfl
theorem aA{n m k:Nat}(h:n<m)(g:m≤k):n<k:=Nat.lt_of_lt_of_le h g
theorem aB{α:Type u}{xs:Array α}{i j:Nat}(h:i≠j){a:α}:(xs.setIfInBounds i a)[j]?=xs[j]?:=Array.getElem?_setIfInBounds_ne h
theorem aC{α:Type u}{a:α}{as:List α}:(a::as).length=as.length+1:=rfl
theorem aF{α:Type u}{as:List α}:as.toArray.size=as.length:=rfl
theorem aG{α:Type u}:([]:List α).length=0:=rfl
theorem aH{α:Type u}{xs:Array α}{i:Nat}{d:α}:xs.getD i d=xs[i]?.getD d:=Array.getD_eq_getD_getElem?
end Go.Proofs.YtccjdkghgbbliaaGreatDoor
end
namespace Go.Proofs.YtccjdkghgbbliaaGreatDoor
section
namespace Lift
set_option maxHeartbeats 1000000
set_option maxRecDepth 10000
open Go Go.Conc
def blk:Loc→Option Nat
 |.cell a=>some a.block
 |.obj r=>some r
 |_=>none
def Off(S:Nat→Prop)(N:Nat)(e:Event):Prop:=(∀b,blk e.loc=some b→¬S b∧b<N)∧∀m,e.loc=.mark m→m=.noRoom
theorem Off.mono{S:Nat→Prop}{N N':Nat}{e:Event}(h:Off S N e)(hN:N≤N'):Off S N' e:=⟨λb hb=>⟨(h.1 b hb).1,by have:=(h.1 b hb).2;omega⟩,h.2⟩
def kQ:Builtin→Bool
 |.append|.cap|.clear|.len|.max|.min=>true
 |_=>false
def isBytes(P:Program)(e:TypeId):Bool:=match P.underlying e with
 |some (.int .u8)=>true
 |_=>false
def LM(P:Program)(src dst:TypeId):Bool:=match P.underlying src,P.underlying dst with
 |some (.int _),some (.int _)=>true
 |some (.int _),some .string=>true
 |some .string,some (.slice e)=>isBytes P e
 |some (.slice e),some .string=>isBytes P e
 |_,_=>false
def Gn(P:Program)(o:Oper):Bool:=
 match o.op with
 |.move _|.assign _|.pick .. | .alloc _|.box .. | .build .. | .buildSlice .. | .load .. | .store .. | .nilCheck _|.binOp .. | .unOp .. | .makeFunc .. | .makeMap .. | .makeSlice ..
 |.slice .. | .fieldAddr .. | .field .. | .indexAddr .. | .index .. | .lookup .. | .mapUpdate .. | .extract ..=>true
 |.convert src dst _=>LM P src dst
 |.call c=>match c.callee with|.builtin b=>kQ b|_=>true
 |_=>false
def dP(P:Program):Code→Bool
 |.region _ ops _=>ops.all (Gn P)
 |.seq a b|.cond _ a b|.rangeFunc _ _ a b=>dP P a&&dP P b
 |.block _ c|.loop c|.scope c=>dP P c
 |_=>true
def wz:Target→Bool
 |.builtin b _ _ _=>kQ b
 |.coroexit _=>false
 |_=>true
class Keep where
 lim:Nat
 orig:Array Obj
 tag:TypeId
def idle[Keep]:Obj:=.view ⟨0,0,some 0⟩ Keep.tag
def Elder[Keep](b:Nat)(o:Obj):Prop:=b<Keep.lim→Keep.orig[b]?=some o
def Good(P:Program):Obj→Prop
 |.view a _=>a.spot.isSome=true
 |.loop l=>dP P l.assign=true∧dP P l.body=true∧∀c,l.pending=some c→dP P c=true
 |.deferred (some ds)=>ds=[]
 |_=>True
structure Poi [Keep] (P:Program) (S:Nat→Prop) (wp w:World):Prop where
 os:wp.os=w.os
 out:wp.output=w.output
 size:wp.heap.size=w.heap.size
 same:∀b,¬S b→wp.heap[b]?=w.heap[b]?∨(wp.heap[b]?=some idle∧∃o,w.heap[b]?=some o∧¬Good P o∧Elder b o)
 iM:∀b,S b→∃c e,w.heap[b]?=some (.cells c e (0,0))∧wp.heap[b]?=some (.cells #[] e (0,0))
 views:∀(b:Nat) (o:Obj),wp.heap[b]?=some o→Good P o
def Agree(wp w:World)(n:Nat):Prop:=∀i,i<n→∀q,wp.tape (wp.drawn+i) q=w.tape (w.drawn+i) q
def wor{α:Type}:Result α→World
 |.ok _ w=>w
 |.halt _ w=>w
def Fine{α:Type}:Result α→Prop
 |.ok _ _=>True
 |.halt (.panic _) _=>True
 |.halt .goexit _=>True
 |_=>False
def Like[Keep]{α:Type}(P:Program)(S:Nat→Prop)(n:Nat)(w:World):Result α→Result α→Prop
 |.ok a wp',.ok b w'=>a=b∧Poi P S wp' w'∧w'.tape=w.tape∧w'.drawn=w.drawn+n
 |.halt h wp',.halt h' w'=>h=h'∧Poi P S wp' w'∧w'.tape=w.tape∧w'.drawn=w.drawn+n
 |_,_=>False
def dY[Keep]{α:Type}(P:Program)(S:Nat→Prop)(wp:World)(t t':Sem α):Prop:=
 ∀w₀,Poi P S wp w₀→Fine (t.run P wp)→∃n,(wor (t.run P wp)).tape=wp.tape∧(wor (t.run P wp)).drawn=wp.drawn+n∧wp.heap.size≤(wor (t.run P wp)).heap.size∧(∀e∈t.events P wp #[],Off S (wor (t.run P wp)).heap.size e)∧
  ∀w,Poi P S wp w→Agree wp w n→Like P S n w (t.run P wp) (t'.run P w)∧t'.events P w #[]=t.events P wp #[]
def Sim[Keep]{α:Type}(P:Program)(S:Nat→Prop)(t t':Sem α):Prop:=∀wp,dY P S wp t t'
abbrev Safe[Keep]{α:Type}(P:Program)(S:Nat→Prop)(t:Sem α):Prop:=Sim P S t t
section
variable [Keep] {P:Program} {S:Nat→Prop} {α β:Type}
theorem Agree.take{wp w:World}{n m:Nat}(h:Agree wp w n)(hm:m≤n):Agree wp w m:=λi hi q=>h i (by omega) q
theorem Agree.drop{wp w wp' w':World}{n m:Nat}(h:Agree wp w (n+m))(h1:wp'.tape=wp.tape)(h2:wp'.drawn=wp.drawn+n)(h3:w'.tape=w.tape)(h4:w'.drawn=w.drawn+n):Agree wp' w' m:=λi hi q=>by
 rw[h1,h2,h3,h4,Nat.add_assoc,Nat.add_assoc];exact h (n+i) (by omega) q
theorem Sim.pure(a:α):Safe P S (Pure.pure a:Sem α):=λwp w₀ hp hf=>
 ⟨0,rfl,rfl,ak _,by simp,λw hw _=>⟨⟨rfl,hw,rfl,rfl⟩,rfl⟩⟩
theorem Sim.halt(h:Halt):Safe P S (Sem.halt h:Sem α):=λwp w₀ hp hf=>
 ⟨0,rfl,rfl,ak _,by simp,λw hw _=>⟨⟨rfl,hw,rfl,rfl⟩,rfl⟩⟩
theorem Sim.dead{t t':Sem α}(h:∀w,¬Fine (t.run P w)):Sim P S t t':=λwp _ _ hf=>absurd hf (h wp)
theorem xk{t:Sem α}{f:α→Sem β}{w:World}(h:Fine ((t>>=f).run P w)):Fine (t.run P w):=by
 rw[Sem.run_bind]at h;cases hr:t.run P w with
 |ok a w'=>trivial
 |halt x w'=>rw[hr]at h;cases x<;>first|trivial|exact h
theorem OC{t:Sem α}{f:α→Sem β}(ht:∀w x w',t.run P w≠.halt x w')(h:∀a w,¬Fine ((f a).run P w)):∀w,¬Fine ((t>>=f).run P w):=λw hf=>by
 have h1:=xk hf;rw[Sem.run_bind]at hf;cases hr:t.run P w with
 |ok a w'=>rw[hr]at hf;exact h a w' hf
 |halt x w'=>
  rw[hr]at h1;exact ht _ _ _ hr
theorem dY.bind{wp:World}{t t':Sem α}{f f':α→Sem β}(h:dY P S wp t t')(hf:∀a wp',t.run P wp=.ok a wp'→(∀(b:Nat) (o:Obj),wp'.heap[b]?=some o→Good P o)→dY P S wp' (f a) (f' a)):dY P S wp (t>>=f) (t'>>=f'):=by
 intro w₀ hp NJ;obtain⟨n,h1,h2,hz,h3,h4⟩:=h w₀ hp (xk NJ);rw[Sem.run_bind]at NJ ⊢;rw[Sem.events_bind];cases hr:t.run P wp with
 |halt x wp'=>
  rw[hr]at h1 h2 hz h3 h4;refine⟨n,h1,h2,hz,h3,λw hw ha=>?_⟩;obtain⟨hl,he⟩:=h4 w hw ha;rw[Sem.run_bind,Sem.events_bind];cases hr':t'.run P w with
  |ok a w'=>rw[hr']at hl;exact hl.elim
  |halt y w'=>rw[hr']at hl;exact⟨hl,he⟩
 |ok a wp'=>
  rw[hr]at h1 h2 hz h3 h4 NJ;obtain⟨hl₀,_⟩:∃w₁,Poi P S wp' w₁:=by
   have hA:Agree wp { w₀ with tape:=wp.tape,drawn:=wp.drawn } n:=λi _ q=>rfl;have:=(h4 { w₀ with tape:=wp.tape,drawn:=wp.drawn } ⟨hp.os,hp.out,hp.size,hp.same,hp.iM,hp.views⟩ hA).1;cases hr':t'.run P { w₀ with tape:=wp.tape,drawn:=wp.drawn }with
   |ok b w'=>rw[hr']at this;exact⟨w',this.2.1⟩
   |halt y w'=>rw[hr']at this;exact this.elim
  rename_i hp';obtain⟨m,k1,k2,kz,k3,k4⟩:=hf a wp' hr hp'.views hl₀ hp' NJ;simp only[wor]at h1 h2 hz h3;refine⟨n+m,k1.trans h1,by show(wor ((f a).run P wp')).drawn=_;rw[k2,h2,Nat.add_assoc],Nat.le_trans hz kz,?_,λw hw ha=>?_⟩
  ·show∀e∈(f a).events P wp' (t.events P wp #[]),Off S (wor ((f a).run P wp')).heap.size e
   rw[Sem.events_acc];intro e he;exact(Array.mem_append.1 he).elim (λh=>(h3 e h).mono kz) (k3 e)
  ·obtain⟨hl,he⟩:=h4 w hw (ha.take (by omega));rw[Sem.run_bind,Sem.events_bind];cases hr':t'.run P w with
   |halt y w'=>rw[hr']at hl;exact hl.elim
   |ok b w'=>
    rw[hr']at hl;obtain⟨rfl,hp2,ht,hd⟩:=hl;obtain⟨hl2,he2⟩:=k4 w' hp2 (ha.drop h1 h2 ht hd);constructor
    ·show Like P S (n+m) w ((f a).run P wp') ((f' a).run P w')
     cases ha1:(f a).run P wp'<;>cases ha2:(f' a).run P w'<;>rw[ha1,ha2]at hl2
     ·obtain⟨x1,x2,x3,x4⟩:=hl2;exact⟨x1,x2,x3.trans ht,by rw[x4,hd];omega⟩
     ·exact hl2.elim
     ·exact hl2.elim
     ·obtain⟨x1,x2,x3,x4⟩:=hl2;exact⟨x1,x2,x3.trans ht,by rw[x4,hd];omega⟩
    ·show(f' a).events P w' (t'.events P w #[])=(f a).events P wp' (t.events P wp #[])
     rw[Sem.events_acc,Sem.events_acc P (f a),he,he2]
theorem Sim.bind{t t':Sem α}{f f':α→Sem β}(h:Sim P S t t')(hf:∀a,Sim P S (f a) (f' a)):Sim P S (t>>=f) (t'>>=f'):=λwp=>dY.bind (h wp) λa wp' _ _=>hf a wp'
theorem Sim.map{t t':Sem α}(f:α→β)(h:Sim P S t t'):Sim P S (Functor.map f t) (Functor.map f t'):=Sim.bind (f:=λa=>Pure.pure (f a)) h λa=>Sim.pure _
theorem Sim.ite{c:Prop}[Decidable c]{x x' y y':Sem α}(h1:c→Sim P S x x')(h2:¬c→Sim P S y y'):Sim P S (if c then x else y) (if c then x' else y'):=by
 split
 ·exact h1 ‹_›
 ·exact h2 ‹_›
theorem cell_lt{w:World}{a:Addr}{v:Value}(hc:w.cell? a=some v):a.block<w.heap.size:=by
 unfold World.cell? at hc;cases h:w.heap[a.block]? with
 |none=>rw[h]at hc;cases hc
 |some o=>exact(Array.getElem?_eq_some_iff.1 h).1
theorem OX:Good P idle:=rfl
theorem oh{o:Obj}(h:¬Good P o):(∃a t,o=.view a t)∨(∃l,o=.loop l)∨∃d ds,o=.deferred (some (d::ds)):=by
 cases o with
 |view a t=>exact .inl ⟨a,t,rfl⟩
 |loop l=>exact .inr (.inl ⟨l,rfl⟩)
 |deferred ds=>
  rcases ds with _|_|⟨d,ds⟩
  ·exact absurd True.intro h
  ·exact absurd (Eq.refl ([]:List Deferred)) h
  ·exact .inr (.inr ⟨d,ds,rfl⟩)
 |_=>exact absurd True.intro h
theorem Poi.at{wp w:World}(h:Poi P S wp w){b:Nat}(hs:¬S b){o:Obj}(ho:wp.heap[b]?=some o)(hn:o≠idle):w.heap[b]?=some o:=by
 rcases h.same b hs with e|⟨e,_⟩
 ·rw[← e];exact ho
 ·rw[ho]at e;exact absurd (Option.some.inj e) hn
theorem Poi.back{wp w:World}(h:Poi P S wp w){b:Nat}(hs:¬S b){o:Obj}(ho:w.heap[b]?=some o)(hg:Good P o):wp.heap[b]?=some o:=by
 rcases h.same b hs with e|⟨_,o',e,hb,_⟩
 ·rw[e];exact ho
 ·rw[ho]at e;cases e;exact absurd hg hb
theorem Poi.cells{wp w:World}(h:Poi P S wp w){b:Nat}(hs:¬S b){c:Array Value}{e:TypeId}{f:Nat×Nat}:wp.heap[b]?=some (.cells c e f)↔w.heap[b]?=some (.cells c e f):=
 ⟨λh'=>h.at hs h' (by intro e;cases e),λh'=>h.back hs h' True.intro⟩
theorem Oo{w:World}{b:Nat}{o:Obj}(e:w.heap[b]?=some o)(h:¬Good P o):w.shape? b=none:=by
 unfold World.shape?;rw[e];rcases oh h with⟨a,t,rfl⟩|⟨l,rfl⟩|⟨d,ds,rfl⟩<;>rfl
theorem KC{w:World}{a:Addr}{o:Obj}(e:w.heap[a.block]?=some o)(h:¬Good P o):w.frozen? a=false:=by
 unfold World.frozen?;rw[e];rcases oh h with⟨a,t,rfl⟩|⟨l,rfl⟩|⟨d,ds,rfl⟩<;>rfl
theorem Ll{w:World}{b:Nat}(e:w.heap[b]?=some idle):w.shape? b=none:=by
 unfold World.shape?;rw[e];rfl
theorem IV{w:World}{a:Addr}(e:w.heap[a.block]?=some idle):w.frozen? a=false:=by
 unfold World.frozen?;rw[e];rfl
theorem Poi.zF{wp w:World}(h:Poi P S wp w){b:Nat}(hs:¬S b):w.shape? b=wp.shape? b:=by
 rcases h.same b hs with e|⟨e,o,e2,hb,_⟩
 ·unfold World.shape?;rw[e]
 ·rw[Oo e2 hb,Ll e]
theorem Poi.Aq{wp w:World}(h:Poi P S wp w){a:Addr}(hs:¬S a.block):w.frozen? a=wp.frozen? a:=by
 rcases h.same _ hs with e|⟨e,o,e2,hb,_⟩
 ·unfold World.frozen?;rw[e]
 ·rw[KC e2 hb,IV e]
theorem Aa{w:World}{a:Addr}{v:Value}(hc:w.cell? a=some v):∃c e f,w.heap[a.block]?=some (.cells c e f):=by
 unfold World.cell? at hc;cases h:w.heap[a.block]? with
 |none=>rw[h]at hc;cases hc
 |some o=>
  rw[h]at hc;cases o<;>first|exact⟨_,_,_,rfl⟩|(simp at hc;done)
theorem Poi.cell{wp w:World}(h:Poi P S wp w){a:Addr}{v:Value}(hc:wp.cell? a=some v):¬S a.block∧w.cell? a=some v:=by
 by_cases hs:S a.block
 ·obtain⟨c,e,_,h2⟩:=h.iM _ hs;unfold World.cell? at hc;rw[h2]at hc;simp at hc
 ·refine⟨hs,?_⟩;obtain⟨c,e,f,hb⟩:=Aa hc;have hb2:=(h.cells hs).1 hb;unfold World.cell? at hc ⊢;rw[hb]at hc;rw[hb2];exact hc
theorem Ib{w:World}{a:Addr}{o:Obj}(e:w.heap[a.block]?=some o)(h:¬Good P o):w.cell? a=none:=by
 unfold World.cell?;rw[e];rcases oh h with⟨a,t,rfl⟩|⟨l,rfl⟩|⟨d,ds,rfl⟩<;>rfl
theorem Poi.cellEq{wp w:World}(h:Poi P S wp w){a:Addr}(hs:¬S a.block):w.cell? a=wp.cell? a:=by
 rcases h.same _ hs with e|⟨e,o,e2,hb,_⟩
 ·unfold World.cell?;rw[e]
 ·rw[Ib e2 hb];unfold World.cell?;rw[e];rfl
theorem EH{w:World}{at_:Addr}(h:at_.spot.isSome=true)(u:TypeId)(k:Addr)(at':Bool):∃m,w.seen P at_ u k at'=.error m:=by
 unfold World.seen;simp only[h,Bool.or_true,if_true];exact⟨_,rfl⟩
theorem IC{w:World}(hv:∀(b:Nat) (o:Obj),w.heap[b]?=some o→Good P o)(a:Addr)(at_:Bool):∃h,w.farLoad P a at_=.error h∧(∀v,h≠.panic v)∧h≠.goexit:=by
 unfold World.farLoad World.noCell;cases hb:w.heap[a.block]? with
 |none=>exact⟨_,rfl,by simp⟩
 |some o=>
  have:=hv _ _ hb;cases o with
  |view b t=>
   obtain⟨m,hm⟩:=EH (P:=P) (w:=w) (at_:=b) this t a at_;refine⟨.unsupported (.unsafePointer m),?_,by simp⟩;have:w.viewLoad P b t a at_=.error m:=by unfold World.viewLoad;rw[hm];rfl
   simp only[this]
  |_=>exact⟨_,rfl,by simp⟩
theorem FT{w:World}(hv:∀(b:Nat) (o:Obj),w.heap[b]?=some o→Good P o)(a:Addr)(v:Value)(at_:Bool):∃h,w.farStore P a v at_=.error h∧(∀x,h≠.panic x)∧h≠.goexit:=by
 unfold World.farStore World.noCell;cases hb:w.heap[a.block]? with
 |none=>exact⟨_,rfl,by simp⟩
 |some o=>
  have:=hv _ _ hb;cases o with
  |view b t=>
   obtain⟨m,hm⟩:=EH (P:=P) (w:=w) (at_:=b) this t a at_;have:∃m',w.viewStore P b t a v at_=.error m':=by
    unfold World.viewStore;by_cases ht:tight P P.depth t=true
    ·simp only[ht,Bool.not_true,Bool.false_eq_true,if_false,hm];exact⟨_,rfl⟩
    ·simp only[ht,Bool.not_false,if_true];exact⟨_,rfl⟩
   obtain⟨m',hm'⟩:=this;refine⟨.unsupported (.unsafePointer m'),?_,by simp⟩;simp only[hm']
  |_=>exact⟨_,rfl,by simp⟩
theorem Sim.load(a:Addr)(m:Mode):Safe P S (load a m):=by
 intro wp w₀ hp hf;cases hc:wp.cell? a with
 |none=>
  obtain⟨h,he,hn⟩:=IC (P:=P) hp.views a (m==.atomic);simp only[Go.load,Sem.run,hc,he]at hf;cases h<;>first|exact absurd rfl (hn.1 _)|exact absurd rfl hn.2|exact hf.elim
 |some v=>
  obtain⟨hs,_⟩:=hp.cell hc;have hrun:∀w,w.cell? a=some v→(Go.load a m).run P w=.ok v w∧(Go.load a m).events P w #[]=#[⟨.cell a,false,m==.atomic⟩]:=λw h=>by
   constructor
   ·simp[Go.load,Sem.run,h]
   ·simp[Go.load,Sem.events,Sem.runT,h,-Sem.runT_eq]
  obtain⟨r1,e1⟩:=hrun wp hc;rw[r1,e1];refine⟨0,rfl,rfl,ak _,λe he=>?_,λw hw _=>?_⟩
  ·simp only[List.mem_toArray,List.mem_singleton]at he;subst he;exact⟨λb hb=>by cases hb;exact⟨hs,cell_lt hc⟩,λm hm=>by cases hm⟩
  ·obtain⟨r2,e2⟩:=hrun w (hw.cell hc).2;rw[r2,e2];exact⟨⟨rfl,hw,rfl,rfl⟩,rfl⟩
theorem Poi.setCell{wp w:World}(h:Poi P S wp w){a:Addr}{v0:Value}(hc:wp.cell? a=some v0)(v:Value):Poi P S (wp.setCell a v) (w.setCell a v):=by
 have hs:=(h.cell hc).1;have heq:wp.heap[a.block]?=w.heap[a.block]?:=by
  obtain⟨c,e,f,hb⟩:=Aa hc;rw[hb,(h.cells hs).1 hb]
 have key:∀(x:World) (b:Nat),b≠a.block→(x.setCell a v).heap[b]?=x.heap[b]?:=λx b hb=>by
  simp only[World.setCell,Array.getElem?_modify];rw[if_neg (Ne.symm hb)]
 refine⟨h.os,h.out,by simp[World.setCell,h.size],λb hb=>?_,λb hb=>?_,λb o hb=>?_⟩
 ·by_cases he:b=a.block
  ·subst he;exact .inl (by simp only[World.setCell,Array.getElem?_modify,heq])
  ·rw[key _ _ he,key _ _ he];exact h.same _ hb
 ·have he:b≠a.block:=λe=>hs (e▸hb);obtain⟨c,e,h1,h2⟩:=h.iM b hb;exact⟨c,e,(key _ _ he).trans h1,(key _ _ he).trans h2⟩
 ·by_cases he:b=a.block
  ·subst he;simp only[World.setCell,Array.getElem?_modify,if_true]at hb;cases hx:wp.heap[a.block]? with
   |none=>rw[hx]at hb;cases hb
   |some x=>
    rw[hx]at hb;have:=h.views _ _ hx;simp only[Option.map_some,Option.some.injEq]at hb;subst hb;cases x<;>first|exact this|trivial
  ·rw[key _ _ he]at hb;exact h.views _ _ hb
theorem Sim.store(a:Addr)(v:Value)(m:Mode):Safe P S (store a v m):=by
 intro wp w₀ hp hf;by_cases hv:v.oneCell'=true
 ·cases hc:wp.cell? a with
  |none=>
   obtain⟨h,he,hn⟩:=FT (P:=P) hp.views a v (m==.atomic);have:(Go.store a v m).run P wp=.halt h wp:=by
    cases v<;>first|(simp[Value.oneCell']at hv;done)|simp[Go.store,Sem.run,hc,he]
   rw[this]at hf;cases h<;>first|exact absurd rfl (hn.1 _)|exact absurd rfl hn.2|exact hf.elim
  |some x=>
   obtain⟨hs,_⟩:=hp.cell hc;have hfz:∀w,Poi P S wp w→w.frozen? a=wp.frozen? a:=λw hw=>hw.Aq hs;cases hfr:wp.frozen? a with
   |true=>
    exfalso;have:(Go.store a v m).run P wp=.halt (.unsupported (.unsafePointer "a write to bytes that a string shares")) wp:=by
     cases v<;>first|(simp[Value.oneCell']at hv;done)|simp[Go.store,Sem.run,hc,hfr]
    rw[this]at hf;exact hf
   |false=>
    have hrun:∀w x,w.cell? a=some x→w.frozen? a=false→(Go.store a v m).run P w=.ok () (w.setCell a v)∧(Go.store a v m).events P w #[]=#[⟨.cell a,true,m==.atomic⟩]:=λw x h h'=>by
     constructor
     ·cases v<;>first|(simp[Value.oneCell']at hv;done)|simp[Go.store,Sem.run,h,h']
     ·cases v<;>first|(simp[Value.oneCell']at hv;done)|simp[Go.store,Sem.events,Sem.runT,h,h',-Sem.runT_eq]
    obtain⟨r1,e1⟩:=hrun wp x hc hfr;rw[r1,e1];refine⟨0,rfl,rfl,by simp[wor,World.setCell],λe he=>?_,λw hw _=>?_⟩
    ·simp only[List.mem_toArray,List.mem_singleton]at he;subst he;exact⟨λb hb=>by cases hb;exact⟨hs,by simpa[wor,World.setCell]using cell_lt hc⟩,λm hm=>by cases hm⟩
    ·obtain⟨r2,e2⟩:=hrun w x (hw.cell hc).2 ((hfz w hw).trans hfr);rw[r2,e2];exact⟨⟨rfl,hw.setCell hc v,rfl,rfl⟩,rfl⟩
 ·exfalso;cases v<;>first|exact hv rfl|(simp only[Go.store,Sem.run]at hf;exact hf)
theorem Poi.push{wp w:World}(h:Poi P S wp w)(o:Obj)(ho:Good P o):Poi P S { wp with heap:=wp.heap.push o } { w with heap:=w.heap.push o }:=by
 refine⟨h.os,h.out,by simp[h.size],λb hb=>?_,λb hb=>?_,λb x hb=>?_⟩
 ·simp only[Array.getElem?_push,h.size];split
  ·exact .inl rfl
  ·exact h.same b hb
 ·obtain⟨c,e,h1,h2⟩:=h.iM b hb;have l1:=(Array.getElem?_eq_some_iff.1 h1).1;have l2:=(Array.getElem?_eq_some_iff.1 h2).1;exact⟨c,e,by simp only[Array.getElem?_push];rw[if_neg (by omega)];exact h1,by simp only[Array.getElem?_push];rw[if_neg (by omega)];exact h2⟩
 ·simp only[Array.getElem?_push]at hb;split at hb
  ·cases hb;exact ho
  ·exact h.views _ _ hb
theorem Sim.newObj(o:Obj)(ho:Good P o):Safe P S (newObj o):=λwp w₀ hp _=>by
 refine⟨0,rfl,rfl,by simp[wor,Go.newObj,Sem.run],by simp,λw hw _=>⟨⟨hw.size,hw.push o ho,rfl,rfl⟩,by simp⟩⟩
theorem Sim.frozen(a:Addr):Safe P S (frozen a):=λwp w₀ hp _=>by
 refine⟨0,rfl,rfl,ak _,by simp,λw hw _=>⟨⟨?_,hw,rfl,rfl⟩,by simp⟩⟩;by_cases hs:S a.block
 ·obtain⟨c,e,h1,h2⟩:=hw.iM _ hs;unfold World.frozen?;rw[h1,h2]
 ·exact(hw.Aq hs).symm
theorem Sim.getObj{k:Obj→Sem α}(r:Nat)(h:∀o,Sim P S (k o) (k o))(hd:∀o,¬Good P o→Sim P S (k idle) (k o)):Sim P S (Go.getObj r>>=k) (Go.getObj r>>=k):=by
 intro wp w₀ hp hf;have hnone:∀(w:World) (j:Obj→Sem α),(¬∃o,w.heap[r]?=some o∧∀c e f,o≠.cells c e f)→¬Fine ((Go.getObj r>>=j).run P w):=λw j hn hf=>by
  have:=xk hf;cases hc:w.heap[r]? with
  |none=>simp only[Go.getObj,Sem.run,hc]at this;exact this.elim
  |some o=>
   cases o with
   |cells c e f=>simp only[Go.getObj,Sem.run,hc]at this;exact this.elim
   |_=>exact hn ⟨_,hc,by simp⟩
 have hrun:∀(w:World) (j:Obj→Sem α) (o:Obj),w.heap[r]?=some o→(∀c e f,o≠.cells c e f)→(Go.getObj r>>=j).run P w=(j o).run P w∧(Go.getObj r>>=j).events P w #[]=#[⟨.obj r,false,o.isChan⟩]++(j o).events P w #[]:=λw j o h ho=>by
  have r1:(Go.getObj r).run P w=.ok o w:=by cases o<;>first|exact absurd rfl (ho _ _ _)|simp[Go.getObj,Sem.run,h]
  have e1:(Go.getObj r).events P w #[]=#[⟨.obj r,false,o.isChan⟩]:=by cases o<;>first|exact absurd rfl (ho _ _ _)|simp[Go.getObj,Sem.events,Sem.runT,h,-Sem.runT_eq]
  constructor
  ·rw[Sem.run_bind,r1];rfl
  ·rw[Sem.events_bind,r1,e1];exact Sem.events_acc P (j o) w #[⟨.obj r,false,o.isChan⟩]
 by_cases hx:∃o,wp.heap[r]?=some o∧∀c e f,o≠.cells c e f
 ·obtain⟨o,hc,ho⟩:=hx;have hs:¬S r:=λhs=>by
   obtain⟨c,e,_,h2⟩:=hp.iM _ hs;rw[hc]at h2;cases h2;exact ho _ _ _ rfl
  obtain⟨r1,e1⟩:=hrun wp k o hc ho;rw[r1]at hf ⊢;rw[e1];have hlt:=(Array.getElem?_eq_some_iff.1 hc).1;obtain⟨n,a1,a2,az,a3,a4⟩:=h o wp w₀ hp hf;refine⟨n,a1,a2,az,λe he=>?_,λw hw ha=>?_⟩
  ·rcases Array.mem_append.1 he with he|he
   ·simp only[List.mem_toArray,List.mem_singleton]at he;subst he;exact⟨λb hb=>by cases hb;exact⟨hs,by omega⟩,λm hm=>by cases hm⟩
   ·exact a3 e he
  ·rcases hw.same _ hs with e|⟨e,o',e2,hb,_⟩
   ·obtain⟨r2,e2⟩:=hrun w k o (e.symm.trans hc) ho;rw[r2,e2];obtain⟨g1,g2⟩:=a4 w hw ha;exact⟨g1,by rw[g2]⟩
   ·rw[hc]at e;obtain rfl:=Option.some.inj e;have ho':∀c e f,o'≠.cells c e f:=λc e f he=>by subst he;exact hb True.intro
    obtain⟨r2,e3⟩:=hrun w k o' e2 ho';rw[r2,e3];obtain⟨n',b1,b2,_,_,b4⟩:=hd o' hb wp w₀ hp hf;have:n'=n:=by rw[a2]at b2;omega
    subst this;obtain⟨g1,g2⟩:=b4 w hw ha;refine⟨g1,?_⟩;rw[g2];have:o'.isChan=idle.isChan:=by rcases oh hb with⟨a,t,rfl⟩|⟨l,rfl⟩|⟨d,ds,rfl⟩<;>rfl
    rw[this]
 ·exact absurd hf (hnone wp k hx)
theorem Sim.getObj'{k:Obj→Sem α}(r:Nat)(h:∀o,Sim P S (k o) (k o))(hd:∀w,¬Fine ((k idle).run P w)):Sim P S (Go.getObj r>>=k) (Go.getObj r>>=k):=Sim.getObj r h λ_ _=>Sim.dead hd
theorem Poi.setObj{wp w:World}(h:Poi P S wp w){r:Nat}(hs:¬S r)(o:Obj)(ho:Good P o):Poi P S { wp with heap:=wp.heap.setIfInBounds r o } { w with heap:=w.heap.setIfInBounds r o }:=by
 refine⟨h.os,h.out,by simp[h.size],λb hb=>?_,λb hb=>?_,λb x hb=>?_⟩
 ·simp only[Array.getElem?_setIfInBounds,h.size];split
  ·exact .inl rfl
  ·exact h.same b hb
 ·have he:r≠b:=λe=>hs (e▸hb);obtain⟨c,e,h1,h2⟩:=h.iM b hb;exact⟨c,e,by simp only[aB he];exact h1,by simp only[aB he];exact h2⟩
 ·simp only[Array.getElem?_setIfInBounds]at hb;split at hb
  ·split at hb
   ·cases hb;exact ho
   ·cases hb
  ·exact h.views _ _ hb
theorem Sim.setObj(r:Nat)(o:Obj)(hv:Good P o):Safe P S (setObj r o):=by
 intro wp w₀ hp hf;cases hc:wp.heap[r]? with
 |none=>simp only[Go.setObj,Sem.run,hc]at hf;exact hf.elim
 |some x=>
  by_cases ho:∃c e f,x=.cells c e f
  ·obtain⟨c,e,f,rfl⟩:=ho;simp only[Go.setObj,Sem.run,hc]at hf;exact hf.elim
  ·have hs:¬S r:=λhs=>by
    obtain⟨c,e,_,h2⟩:=hp.iM _ hs;rw[hc]at h2;cases h2;exact ho ⟨_,_,_,rfl⟩
   have hrun:∀(w:World) (x:Obj),w.heap[r]?=some x→(¬∃c e f,x=.cells c e f)→(Go.setObj r o).run P w=.ok () { w with heap:=w.heap.setIfInBounds r o }∧(Go.setObj r o).events P w #[]=#[⟨.obj r,true,o.isChan⟩]:=λw x h ho=>by
    constructor
    ·cases x<;>first|exact absurd ⟨_,_,_,rfl⟩ ho|simp[Go.setObj,Sem.run,h]
    ·cases x<;>first|exact absurd ⟨_,_,_,rfl⟩ ho|simp[Go.setObj,Sem.events,Sem.runT,h,-Sem.runT_eq]
   obtain⟨r1,e1⟩:=hrun wp x hc ho;rw[r1,e1];have hlt:=(Array.getElem?_eq_some_iff.1 hc).1;refine⟨0,rfl,rfl,by simp[wor],λe he=>?_,λw hw _=>?_⟩
   ·simp only[List.mem_toArray,List.mem_singleton]at he;subst he;exact⟨λb hb=>by cases hb;exact⟨hs,by simpa[wor]using hlt⟩,λm hm=>by cases hm⟩
   ·have hw':∃y,w.heap[r]?=some y∧¬∃c e f,y=.cells c e f:=by
     rcases hw.same _ hs with e|⟨_,y,e,hb,_⟩
     ·exact⟨x,e.symm.trans hc,ho⟩
     ·exact⟨y,e,λ⟨c,e,f,he⟩=>by subst he;exact hb True.intro⟩
    obtain⟨y,hy1,hy2⟩:=hw';obtain⟨r2,e2⟩:=hrun w y hy1 hy2;rw[r2,e2];exact⟨⟨rfl,hw.setObj hs o hv,rfl,rfl⟩,rfl⟩
theorem Sim.choose(q:Question):Safe P S (choose q):=by
 intro wp w₀ hp _;by_cases hq:q.forced=true
 ·have hrun:∀w,(Go.choose q).run P w=.ok 0 w:=λw=>by simp[Go.choose,Sem.run,hq]
  rw[hrun];exact⟨0,rfl,rfl,ak _,by simp,λw hw _=>⟨by rw[hrun];exact⟨rfl,hw,rfl,rfl⟩,by simp⟩⟩
 ·have hrun:∀w,(Go.choose q).run P w=.ok (q.cut (w.tape w.drawn q)) { w with drawn:=w.drawn+1 }:=λw=>by simp[Go.choose,Sem.run,hq]
  rw[hrun];refine⟨1,rfl,rfl,ak _,by simp,λw hw ha=>⟨?_,by simp⟩⟩;rw[hrun];have:=ha 0 (by omega) q;simp only[Nat.add_zero]at this;exact⟨by rw[this],⟨hw.os,hw.out,hw.size,hw.same,hw.iM,hw.views⟩,rfl,rfl⟩
theorem Sim.program:Safe P S program:=λwp w₀ hp _=>⟨0,rfl,rfl,ak _,by simp,λw hw _=>⟨⟨rfl,hw,rfl,rfl⟩,by simp⟩⟩
theorem Sim.noRoom:Safe P S (mark .noRoom):=λwp w₀ hp _=>by
 have hrun:∀w,(Go.mark .noRoom).run P w=.ok () w:=λw=>by simp[Go.mark,Sem.run]
 rw[hrun];refine⟨0,rfl,rfl,ak _,λe he=>?_,λw hw _=>⟨by rw[hrun];exact⟨rfl,hw,rfl,rfl⟩,by simp⟩⟩;simp only[events_mark,List.push_toArray,List.nil_append,List.mem_toArray,List.mem_singleton]at he;subst he;exact⟨λb hb=>(by cases hb),λm hm=>by cases hm;rfl⟩
theorem Sim.shape{k k':Option (TypeId×Nat)→Sem α}(r:Nat)(h:∀s,Sim P S (k s) (k' s))(h0:∀e n,Sim P S (k (some (e,0))) (k' (some (e,n)))):Sim P S (shape r>>=k) (shape r>>=k'):=by
 intro wp w₀ hp hf;have hrun:∀(w:World) (j:Option (TypeId×Nat)→Sem α),(Go.shape r>>=j).run P w=(j (w.shape? r)).run P w∧(Go.shape r>>=j).events P w #[]=(j (w.shape? r)).events P w #[]:=λw j=>by
  constructor
  ·simp[Go.shape,Sem.run]
  ·rw[Sem.events_bind,events_shape];simp[Go.shape,Sem.run]
 rw[(hrun wp k).1]at hf ⊢;rw[(hrun wp k).2];by_cases hs:S r
 ·obtain⟨c₀,e,h1,h2⟩:=hp.iM _ hs;have e1:wp.shape? r=some (e,0):=by unfold World.shape?;rw[h2];rfl
  rw[e1]at hf ⊢;obtain⟨n,a1,a2,az,a3,_⟩:=h0 e 0 wp w₀ hp hf;refine⟨n,a1,a2,az,a3,λw hw ha=>?_⟩;obtain⟨c,e',g1,g2⟩:=hw.iM _ hs;rw[h2]at g2;cases g2;have e2:w.shape? r=some (e,c.size):=by unfold World.shape?;rw[g1]
  rw[(hrun w k').1,(hrun w k').2,e2];obtain⟨n',b1,b2,_,_,b4⟩:=h0 e c.size wp w₀ hp hf;have:n'=n:=by rw[a2]at b2;omega
  subst this;exact b4 w hw ha
 ·obtain⟨n,a1,a2,az,a3,a4⟩:=h (wp.shape? r) wp w₀ hp hf;refine⟨n,a1,a2,az,a3,λw hw ha=>?_⟩;have e2:w.shape? r=wp.shape? r:=hw.zF hs;rw[(hrun w k').1,(hrun w k').2,e2];exact a4 w hw ha
end
end Lift
end
section
namespace Lift
set_option maxHeartbeats 1000000
set_option maxRecDepth 10000
open Go Go.Conc
def OK[Keep]{α:Type}(P:Program)(S:Nat→Prop)(t:Sem α):Prop:=Sim P S t t
section
variable [Keep] {P:Program} {S:Nat→Prop} {α β:Type}
theorem OK.pure(a:α):OK P S (Pure.pure a:Sem α):=Sim.pure a
theorem OK.halt(h:Halt):OK P S (Sem.halt h:Sem α):=Sim.halt h
theorem OK.program:OK P S program:=Sim.program
theorem OK.load(a:Addr)(m:Mode):OK P S (load a m):=Sim.load a m
theorem OK.store(a:Addr)(v:Value)(m:Mode):OK P S (store a v m):=Sim.store a v m
theorem OK.getObj{k:Obj→Sem α}(r:Nat)(h:∀o,OK P S (k o))(hd:∀w,¬Fine ((k idle).run P w)):OK P S (getObj r>>=k):=Sim.getObj' r h hd
theorem OK.setObj(r:Nat)(o:Obj)(h:Good P o):OK P S (setObj r o):=Sim.setObj r o h
theorem OK.newObj(o:Obj)(h:Good P o):OK P S (newObj o):=Sim.newObj o h
theorem OK.TJ(c:Array Value)(e:TypeId)(f:Nat×Nat):OK P S (Go.newObj (.cells c e f)):=Sim.newObj _ True.intro
theorem OK.PI(a:Addr)(l:Bool):OK P S (Go.newObj (.number a l)):=Sim.newObj _ True.intro
theorem OK.newMap(c:Array MapEntry)(n:Nat):OK P S (Go.newObj (.map c n)):=Sim.newObj _ True.intro
theorem OK.Ui(r:Nat)(c:Array MapEntry)(n:Nat):OK P S (Go.setObj r (.map c n)):=Sim.setObj _ _ True.intro
theorem OK.choose(q:Question):OK P S (choose q):=Sim.choose q
theorem OK.frozen(a:Addr):OK P S (frozen a):=Sim.frozen a
theorem OK.noRoom:OK P S (mark .noRoom):=Sim.noRoom
theorem OK.bind{t:Sem α}{f:α→Sem β}(h:OK P S t)(hf:∀a,OK P S (f a)):OK P S (t>>=f):=Sim.bind h hf
theorem OK.map{t:Sem α}(f:α→β)(h:OK P S t):OK P S (Functor.map f t):=Sim.map f h
theorem OK.ite{c:Prop}[Decidable c]{x y:Sem α}(h1:c→OK P S x)(h2:¬c→OK P S y):OK P S (if c then x else y):=by
 split
 ·exact h1 ‹_›
 ·exact h2 ‹_›
theorem OK.dead{t:Sem α}(h:∀w,¬Fine (t.run P w)):OK P S t:=Sim.dead h
theorem OK.shape{k:Option (TypeId×Nat)→Sem α}(r:Nat)(h:∀s,OK P S (k s))(h0:∀e n,k (some (e,0))=k (some (e,n))):OK P S (Go.shape r>>=k):=
 Sim.shape r h λe n=>by rw[← h0 e n];exact h _
theorem OK.Ed{β γ:Type}(l:List β)(f:β→γ→Sem (ForInStep γ))(h:∀x s,OK P S (f x s)):∀s,OK P S (forIn l s f):=by
 induction l with
 |nil=>intro s;rw[List.forIn_nil];exact OK.pure _
 |cons x l ih=>
  intro s;rw[List.forIn_cons];refine OK.bind (h x s) λr=>?_;cases r with
  |done b=>exact OK.pure _
  |yield b=>exact ih b
theorem OK.oW{β γ:Type}(l:Array β)(f:β→γ→Sem (ForInStep γ))(s:γ)(h:∀x s,OK P S (f x s)):OK P S (forIn l s f):=by
 rw[← Array.forIn_toList];exact OK.Ed _ f h s
theorem OK.uO{γ:Type}(l:Std.Legacy.Range)(f:Nat→γ→Sem (ForInStep γ))(s:γ)(h:∀x s,OK P S (f x s)):OK P S (forIn l s f):=by
 rw[Std.Legacy.Range.forIn_eq_forIn_range'];exact OK.Ed _ f h s
theorem OK.Tq{β γ:Type}(f:β→Sem γ)(h:∀x,OK P S (f x)):∀l:List β,OK P S (l.mapM f):=by
 intro l
 induction l with
 |nil=>rw[List.mapM_nil];exact OK.pure _
 |cons x l ih=>
  rw[List.mapM_cons];exact OK.bind (h x) λ_=>OK.bind ih λ_=>OK.pure _
theorem OK.aS{β γ:Type}(l:Array β)(f:β→Sem γ)(h:∀x,OK P S (f x)):OK P S (l.mapM f):=by
 rw[Array.mapM_eq_mapM_toList];exact OK.map _ (OK.Tq f h _)
theorem OK.Ap{β γ:Type}(f:γ→β→Sem γ)(h:∀s x,OK P S (f s x)):∀(l:List β) (s:γ),OK P S (l.foldlM f s):=by
 intro l
 induction l with
 |nil=>intro s;rw[List.foldlM_nil];exact OK.pure _
 |cons x l ih=>intro s;rw[List.foldlM_cons];exact OK.bind (h s x) λa=>ih a
theorem bg(why:String):OK P S (stuck why:Sem α):=OK.halt _
theorem bf(u:Unsupported):OK P S (unsupported u:Sem α):=OK.halt _
theorem L6(v:Value):OK P S (goPanic v:Sem α):=OK.halt _
theorem Bh(n:Nat):OK P S (askRoom n):=by
 unfold askRoom
 (with_reducible repeat' (first|assumption|exact OK.pure _|exact OK.noRoom|(refine OK.ite (λ_=>?_) λ_=>?_)|split|dsimp only))
theorem OK.view{k:Option (Addr×TypeId)→Sem α}(r:Nat)(h:OK P S (k none))(hd:∀a t w,¬Fine ((k (some (a,t))).run P w)):OK P S (viewAt r>>=k):=by
 unfold viewAt;rw[bind_assoc];refine OK.shape r (λs=>?_) λe n=>rfl;cases s with
 |some x=>simpa using h
 |none=>
  simp only[Option.isSome_none,Bool.false_eq_true,if_false,bind_assoc];refine Sim.getObj r (λo=>?_) λo ho=>Sim.dead λw hf=>?_
  ·cases o with
   |view a t=>simp only[pure_bind];exact Sim.dead (hd a t)
   |_=>simp only[pure_bind];exact h
  ·simp only[idle,pure_bind]at hf;exact hd _ _ w hf
theorem yI(r:Nat):OK P S (numberAt r):=by
 unfold numberAt;refine OK.shape r (λs=>?_) λe n=>rfl;split
 ·exact OK.pure _
 ·refine Sim.getObj r (λo=>?_) λo ho=>?_
  ·split<;>exact OK.pure _
  ·rcases oh ho with⟨a,t,rfl⟩|⟨l,rfl⟩|⟨d,ds,rfl⟩<;>exact OK.pure _
theorem Jk(a:Addr)(l:Bool):OK P S (asNumber a l):=by
 unfold asNumber
 (with_reducible repeat' (first|assumption|exact OK.pure _|exact OK.PI _ _|(refine OK.bind ?_ λ_=>?_)|split|dsimp only))
theorem ku(a:Addr):OK P S (behindNumber a):=by
 unfold behindNumber
 (with_reducible repeat' (first|assumption|exact OK.pure _|exact yI _|(refine OK.bind ?_ λ_=>?_)|split|dsimp only))
theorem xG(a:Addr):OK P S (noView a):=by
 unfold noView
 (with_reducible repeat' (first|assumption|exact OK.pure _|exact bf _|(refine OK.view _ ?_ (by with_unfolding_all exact λ_ _ _ h=>h))|(refine OK.ite (λ_=>?_) λ_=>?_)|split|dsimp only))
theorem dZ(t:TypeId):OK P S (typeInfo t):=by
 unfold typeInfo
 (with_reducible repeat' (first|assumption|exact OK.pure _|exact OK.program|exact bg _|(refine OK.bind ?_ λ_=>?_)|split|dsimp only))
theorem aW(t:TypeId):OK P S (underlying t):=by
 unfold underlying
 (with_reducible repeat' (first|assumption|exact OK.pure _|exact OK.program|exact bg _|(refine OK.bind ?_ λ_=>?_)|split|dsimp only))
theorem BM(t:TypeId):OK P S (typeStr t):=by
 unfold typeStr
 (with_reducible repeat' (first|assumption|exact OK.pure _|exact bf _|exact dZ _|(refine OK.bind ?_ λ_=>?_)|(refine OK.ite (λ_=>?_) λ_=>?_)|split|dsimp only))
theorem gI(t:TypeId):OK P S (zeroValue t):=by
 unfold zeroValue
 (with_reducible repeat' (first|assumption|exact OK.pure _|exact bf _|exact dZ _|(refine OK.bind ?_ λ_=>?_)|split|dsimp only))
theorem aO(t:TypeId):OK P S (Go.sizeOf t):=by
 unfold Go.sizeOf
 (with_reducible repeat' (first|assumption|exact OK.pure _|exact dZ _|(refine OK.bind ?_ λ_=>?_)|split|dsimp only))
theorem Jt(t:TypeId):OK P S (isAgg t):=by
 unfold isAgg
 (with_reducible repeat' (first|assumption|exact OK.pure _|exact aW _|(refine OK.bind ?_ λ_=>?_)|split|dsimp only))
theorem xC(a:Addr):∀(n i:Nat) (acc:Array Value),OK P S (loadCellsFrom a i n acc):=by
 intro n
 induction n with
 |zero=>intro i acc;exact OK.pure _
 |succ n ih=>intro i acc;exact OK.bind (OK.load _ _) λv=>ih _ _
theorem pz(a:Addr)(n:Nat):OK P S (loadCells a n):=xC a n 0 _
theorem nJ(a:Addr):∀(vs:List Value) (i:Nat),OK P S (storeCells a vs i):=by
 intro vs
 induction vs with
 |nil=>intro i;exact OK.pure _
 |cons v vs ih=>intro i;exact OK.bind (OK.store _ _ _) λ_=>ih _
theorem pF(t:TypeId)(a:Addr):OK P S (loadVar t a):=by
 unfold loadVar
 (with_reducible repeat' (first|assumption|exact OK.pure _|exact OK.load _ _|exact aO _|exact Jt _|exact pz _ _|(refine OK.bind ?_ λ_=>?_)|(refine OK.ite (λ_=>?_) λ_=>?_)|split|dsimp only))
theorem yK(t:TypeId)(a:Addr)(v:Value):OK P S (storeVar t a v):=by
 unfold storeVar
 (with_reducible repeat' (first|assumption|exact bg _|exact aO _|exact nJ _ _ _|(refine OK.bind ?_ λ_=>?_)|(refine OK.ite (λ_=>?_) λ_=>?_)|split|dsimp only))
theorem oz(e:TypeId)(c:Array Value):OK P S (newRow e c):=by
 unfold newRow
 (with_reducible repeat' (first|assumption|exact OK.pure _|exact OK.TJ _ _ _|(refine OK.bind ?_ λ_=>?_)|split|dsimp only))
theorem xE(e:TypeId)(c:Value):OK P S (newVar e c):=by
 unfold newVar
 (with_reducible repeat' (first|assumption|exact oz _ _|split|dsimp only))
theorem PL(t:TypeId):OK P S (elemOf t):=by
 unfold elemOf
 (with_reducible repeat' (first|assumption|exact OK.pure _|exact bg _|exact aW _|(refine OK.bind ?_ λ_=>?_)|split|dsimp only))
theorem pG(t:TypeId)(c:Array Value)(o:Nat):OK P S (part t c o):=by
 unfold part
 (with_reducible repeat' (first|assumption|exact OK.pure _|exact bg _|exact aO _|exact Jt _|(refine OK.bind ?_ λ_=>?_)|(refine OK.ite (λ_=>?_) λ_=>?_)|split|dsimp only))
theorem bM(e:RuntimeError):OK P S (runtimePanic e:Sem α):=by
 unfold runtimePanic;refine OK.bind OK.program λp=>?_;cases e<;>dsimp only
 all_goals (with_reducible repeat' (first|assumption|exact OK.program|exact L6 _|exact xE _ _|exact PL _|(refine OK.bind ?_ λ_=>?_)|split|dsimp only))
theorem lJ(k:IntKind)(x y:Int)(c:BoundsCode):OK P S (boundsPanic k x y c:Sem α):=by
 unfold boundsPanic
 (with_reducible repeat' (first|assumption|exact OK.pure _|exact OK.choose _|exact bM _|(refine OK.bind ?_ λ_=>?_)|(refine OK.map _ ?_)|(refine OK.ite (λ_=>?_) λ_=>?_)|split|dsimp only))
theorem pq(v:Value):OK P S (asIntOf v):=by
 unfold asIntOf
 (with_reducible repeat' (first|assumption|exact OK.pure _|exact bg _|exact bf _|split|dsimp only))
theorem qP(v:Value):OK P S (asInt v):=by
 unfold asInt
 (with_reducible repeat' (first|assumption|exact OK.pure _|exact pq _|(refine OK.bind ?_ λ_=>?_)|split|dsimp only))
theorem oq(v:Value):OK P S (asBool v):=by
 unfold asBool
 (with_reducible repeat' (first|assumption|exact OK.pure _|exact bg _|split|dsimp only))
theorem TM(v:Value):OK P S (asAgg v):=by
 unfold asAgg
 (with_reducible repeat' (first|assumption|exact OK.pure _|exact bg _|split|dsimp only))
theorem sG(v:Value):OK P S (asAddr v):=by
 unfold asAddr
 (with_reducible repeat' (first|assumption|exact OK.pure _|exact bg _|exact bM _|split|dsimp only))
theorem sH(a:Addr):OK P S (byteOf a):=by
 unfold byteOf;split
 ·exact OK.pure _
 ·refine OK.bind OK.program λp=>OK.bind (xG a) λ_=>OK.shape _ (λs=>?_) λe n=>rfl
  (with_reducible repeat' (first|assumption|exact OK.pure _|exact OK.program|exact bg _|exact xG _|(refine OK.bind ?_ λ_=>?_)|(refine OK.ite (λ_=>?_) λ_=>?_)|split|dsimp only))
theorem PV(a:Addr)(c b:Nat):OK P S (partAt a c b):=by
 unfold partAt
 (with_reducible repeat' (first|assumption|exact OK.pure _|exact sH _|(refine OK.bind ?_ λ_=>?_)|split|dsimp only))
theorem uf(a:Addr)(f:Field):OK P S (fieldPlace a f):=by
 unfold fieldPlace
 (with_reducible repeat' (first|assumption|exact OK.pure _|exact aO _|exact PV _ _ _|(refine OK.bind ?_ λ_=>?_)|(refine OK.ite (λ_=>?_) λ_=>?_)|split|dsimp only))
def sR(w:World)(a:Addr):Bool:=w.frozen? a||(match w.shape? a.block with|some (_,n)=>w.frozen? { block:=a.block,off:=n }|none=>false)
def zR(w:World)(a:Addr):Bool:=match w.shape? a.block with|some (_,0)=>true|_=>false
theorem uz(a:Addr)(w:World):(stringish a).run P w=.ok (sR w a) w∧(stringish a).events P w #[]=#[]:=by
 unfold stringish sR;cases hf:w.frozen? a with
 |true=>constructor<;>simp[run_frozen,hf]
 |false=>
  cases hs:w.shape? a.block with
  |none=>constructor<;>simp[run_frozen,run_shape,hf,hs]
  |some x=>constructor<;>simp[run_frozen,run_shape,hf,hs]
theorem yh{wp w:World}(h:Poi P S wp w){b:Nat}(hb:S b)(o:Nat):wp.frozen? ⟨b,o,none⟩=false∧w.frozen? ⟨b,o,none⟩=false:=by
 obtain⟨c,e,h1,h2⟩:=h.iM b hb;unfold World.frozen?;simp only[h1,h2];constructor<;>simp
theorem vW{wp w:World}(h:Poi P S wp w){a:Addr}(hb:S a.block):wp.frozen? a=false∧w.frozen? a=false:=by
 obtain⟨c,e,h1,h2⟩:=h.iM a.block hb;unfold World.frozen?;simp only[h1,h2];constructor<;>simp
theorem MQ{wp w:World}(h:Poi P S wp w){b:Nat}(hb:¬S b):w.shape? b=wp.shape? b:=h.zF hb
theorem yj{wp w:World}(h:Poi P S wp w){a:Addr}(hb:¬S a.block):w.frozen? a=wp.frozen? a:=h.Aq hb
theorem kK(a b:Addr)(w:World):(mayBeOne a b).run P w=.ok ((sR w a&&sR w b)||(sR w a&&zR w a)||(sR w b&&zR w b)) w∧(mayBeOne a b).events P w #[]=#[]:=by
 obtain⟨ra,ea⟩:=uz (P:=P) a w;obtain⟨rb,eb⟩:=uz (P:=P) b w;have eb':∀es,(stringish b).events P w es=es:=λes=>by rw[Sem.events_acc,eb];simp
 have ea':∀es,(stringish a).events P w es=es:=λes=>by rw[Sem.events_acc,ea];simp
 unfold mayBeOne;constructor
 ·simp[ra,rb,run_shape];rfl
 ·simp[ra,rb,ea',eb',run_shape]
theorem Ju(a b:Addr):OK P S (mayBeOne a b):=by
 intro wp w₀ hp hf;rw[(kK a b wp).1,(kK a b wp).2];refine⟨0,rfl,rfl,ak _,by simp,λw hw _=>?_⟩;rw[(kK a b w).1,(kK a b w).2];have key:∀x:Addr,(S x.block→sR wp x=false∧sR w x=false)∧(¬S x.block→sR wp x=sR w x∧zR wp x=zR w x):=λx=>by
  constructor
  ·intro hs;unfold sR;obtain⟨c,e,h1,h2⟩:=hw.iM _ hs;rw[(vW hw hs).1,(vW hw hs).2];unfold World.shape?;rw[h1,h2];simp only[Bool.false_or];exact⟨(yh hw hs _).1,(yh hw hs _).2⟩
  ·intro hs;unfold sR zR;rw[yj hw hs,MQ hw hs];refine⟨?_,rfl⟩
   congr 1
   split
   ·exact(yj hw (a:=⟨x.block,_,none⟩) hs).symm
   ·rfl
 refine⟨⟨?_,hw,rfl,rfl⟩,rfl⟩;by_cases ha:S a.block
 ·by_cases hb:S b.block
  ·rw[((key a).1 ha).1,((key a).1 ha).2,((key b).1 hb).1,((key b).1 hb).2];rfl
  ·rw[((key a).1 ha).1,((key a).1 ha).2,((key b).2 hb).1,((key b).2 hb).2];rfl
 ·by_cases hb:S b.block
  ·rw[((key a).2 ha).1,((key a).2 ha).2,((key b).1 hb).1,((key b).1 hb).2];simp
  ·rw[((key a).2 ha).1,((key a).2 ha).2,((key b).2 hb).1,((key b).2 hb).2]
theorem yJ(a b:Addr):OK P S (sameAddr a b):=by
 unfold sameAddr
 (with_reducible repeat' (first|assumption|exact OK.pure _|exact OK.choose _|exact OK.frozen _|exact bf _|exact xG _|(refine OK.bind ?_ λ_=>?_)|(refine OK.ite (λ_=>?_) λ_=>?_)|exact Ju _ _|split|dsimp only))
theorem BI(a b:Option Addr):OK P S (samePointer a b):=by
 unfold samePointer
 (with_reducible repeat' (first|assumption|exact OK.pure _|exact yJ _ _|split|dsimp only))
theorem jU(v:Value):OK P S (Instr.sureAddr v):=by
 unfold Instr.sureAddr
 (with_reducible repeat' (first|assumption|exact OK.pure _|exact bg _|split|dsimp only))
theorem ED(t:TypeId)(v:Value):OK P S (Instr.loadAt t v):=by
 unfold Instr.loadAt
 (with_reducible repeat' (first|assumption|exact pF _ _|exact jU _|(refine OK.bind ?_ λ_=>?_)|split|dsimp only))
theorem BL(t:TypeId)(v x:Value):OK P S (Instr.storeAt t v x):=by
 unfold Instr.storeAt
 (with_reducible repeat' (first|assumption|exact yK _ _ _|exact jU _|(refine OK.bind ?_ λ_=>?_)|split|dsimp only))
theorem Bo(t:TypeId)(v:Value)(f:Nat):OK P S (Instr.fieldAt t v f):=by
 unfold Instr.fieldAt
 (with_reducible repeat' (first|assumption|exact OK.pure _|exact bg _|exact aW _|exact uf _ _|exact jU _|(refine OK.bind ?_ λ_=>?_)|split|dsimp only))
theorem Bz(t:TypeId)(v x:Value):OK P S (Instr.indexAt t v x):=by
 unfold Instr.indexAt
 (with_reducible repeat' (first|assumption|exact OK.pure _|exact bg _|exact bf _|exact aW _|exact aO _|exact lJ _ _ _ _|exact pq _|exact jU _|(refine OK.bind ?_ λ_=>?_)|(refine OK.ite (λ_=>?_) λ_=>?_)|split|dsimp only))
theorem DF(x:Value)(y:Nat)(c:BoundsCode):OK P S (Instr.sliceBound x y c):=by
 unfold Instr.sliceBound
 (with_reducible repeat' (first|assumption|exact OK.pure _|exact lJ _ _ _ _|exact pq _|(refine OK.bind ?_ λ_=>?_)|(refine OK.ite (λ_=>?_) λ_=>?_)|split|dsimp only))
theorem qU(b:Bool)(l c:Nat)(x y z:Option Value):OK P S (Instr.sliceBounds b l c x y z):=by
 unfold Instr.sliceBounds
 (with_reducible repeat' (first|assumption|exact OK.pure _|exact bg _|exact DF _ _ _|(refine OK.bind ?_ λ_=>?_)|split|dsimp only))
theorem ok_slice(t:TypeId)(v:Value)(x y z:Option Value):OK P S (Instr.slice t v x y z):=by
 unfold Instr.slice
 (with_reducible repeat' (first|assumption|exact OK.pure _|exact bg _|exact aW _|exact aO _|exact sG _|exact qU _ _ _ _ _ _|(refine OK.bind ?_ λ_=>?_)|(refine OK.ite (λ_=>?_) λ_=>?_)|split|dsimp only))
theorem BK(t:TypeId)(v:Value)(x y z:Option Value):OK P S (Instr.sliceAt t v x y z):=by
 unfold Instr.sliceAt
 (with_reducible repeat' (first|assumption|exact OK.pure _|exact aW _|exact aO _|exact jU _|exact qU _ _ _ _ _ _|exact ok_slice _ _ _ _ _|(refine OK.bind ?_ λ_=>?_)|split|dsimp only))
theorem Jj(t:TypeId)(b:Bool)(v:Value):OK P S (Instr.alloc t b v):=by
 unfold Instr.alloc
 (with_reducible repeat' (first|assumption|exact OK.pure _|exact gI _|exact yK _ _ _|exact xE _ _|(refine OK.bind ?_ λ_=>?_)|split|dsimp only))
theorem TN(t:TypeId)(v:Value):OK P S (Instr.box t v):=by
 unfold Instr.box
 (with_reducible repeat' (first|assumption|exact OK.pure _|exact xE _ _|(refine OK.bind ?_ λ_=>?_)|split|dsimp only))
theorem Jm(t:TypeId)(ps:Array (Nat×Value)):OK P S (Instr.build t ps):=by
 unfold Instr.build
 (with_reducible repeat' (first|assumption|exact OK.pure _|exact bg _|exact aW _|exact gI _|exact aO _|exact(OK.aS _ _ λ_=>OK.bind (aO _) λ_=>OK.pure _)|(refine OK.bind ?_ λ_=>?_)|split|dsimp only))
theorem tZ(t:TypeId)(n:Nat)(ps:Array (Nat×Value)):OK P S (Instr.buildSlice t n ps):=by
 unfold Instr.buildSlice
 (with_reducible repeat' (first|assumption|exact OK.pure _|exact bg _|exact bf _|exact aW _|exact gI _|exact aO _|exact oz _ _|exact(OK.aS _ _ λ_=>OK.bind (aO _) λ_=>OK.pure _)|(refine OK.bind ?_ λ_=>?_)|(refine OK.ite (λ_=>?_) λ_=>?_)|split|dsimp only))
theorem yH(f:Fn)(x y:Array Value):OK P S (Instr.makeFunc f x y):=by
 unfold Instr.makeFunc
 (with_reducible repeat' (first|assumption|exact OK.pure _|exact(OK.aS _ _ λ_=>OK.bind (aO _) λ_=>OK.pure _)|split|dsimp only))
theorem BD(t:TypeId)(x:Option Value):OK P S (Instr.makeMap t x):=by
 unfold Instr.makeMap
 (with_reducible repeat' (first|assumption|exact OK.pure _|exact OK.newMap _ _|exact bg _|exact aW _|exact qP _|exact(OK.aS _ _ λ_=>OK.bind (aO _) λ_=>OK.pure _)|(refine OK.bind ?_ λ_=>?_)|split|dsimp only))
theorem wB(t:TypeId)(x y:Value):OK P S (Instr.makeSlice t x y):=by
 unfold Instr.makeSlice
 (with_reducible repeat' (first|assumption|exact OK.pure _|exact OK.choose _|exact bg _|exact Bh _|exact dZ _|exact aW _|exact gI _|exact aO _|exact oz _ _|exact bM _|exact qP _|exact(OK.aS _ _ λ_=>OK.bind (aO _) λ_=>OK.pure _)|(refine OK.bind ?_ λ_=>?_)|(refine OK.ite (λ_=>?_) λ_=>?_)|split|dsimp only))
theorem Jq(t:TypeId)(x:Value)(n:Nat):OK P S (Instr.field t x n):=by
 unfold Instr.field
 (with_reducible repeat' (first|assumption|exact bg _|exact aW _|exact pG _ _ _|exact TM _|exact(OK.aS _ _ λ_=>OK.bind (aO _) λ_=>OK.pure _)|(refine OK.bind ?_ λ_=>?_)|split|dsimp only))
theorem Jr(t:TypeId)(x y:Value):OK P S (Instr.index t x y):=by
 unfold Instr.index
 (with_reducible repeat' (first|assumption|exact OK.pure _|exact bg _|exact aW _|exact aO _|exact pG _ _ _|exact lJ _ _ _ _|exact pq _|exact(OK.aS _ _ λ_=>OK.bind (aO _) λ_=>OK.pure _)|(refine OK.bind ?_ λ_=>?_)|(refine OK.ite (λ_=>?_) λ_=>?_)|split|dsimp only))
theorem Bl(x:Value)(n:Nat):OK P S (Instr.extract x n):=by
 unfold Instr.extract
 (with_reducible repeat' (first|assumption|exact OK.pure _|exact bg _|exact(OK.aS _ _ λ_=>OK.bind (aO _) λ_=>OK.pure _)|split|dsimp only))
theorem LY:∀(d:Nat) (t:TypeId) (x y:Value),OK P S (Op.equalIn d t x y):=by
 intro d
 induction d with
 |zero=>intro t x y;exact OK.halt _
 |succ d ih=>
  intro t x y;unfold Op.equalIn;refine OK.bind (aW _) λu=>?_
  (with_reducible repeat' (first|assumption|exact OK.pure _|exact OK.halt _|exact OK.program|exact OK.choose _|exact bg _|exact bf _|exact ku _|exact dZ _|exact aW _|exact BM _|exact aO _|exact pG _ _ _|exact bM _|exact sH _|exact yJ _ _|exact BI _ _|exact(OK.aS _ _ λ_=>OK.bind (aO _) λ_=>OK.pure _)|exact ih _ _ _|(refine OK.oW _ _ _ λ_ _=>?_)|(refine OK.uO _ _ _ λ_ _=>?_)|(refine OK.bind ?_ λ_=>?_)|(refine OK.ite (λ_=>?_) λ_=>?_)|split|dsimp only))
theorem Jp(t:TypeId)(x y:Value):OK P S (Op.equal t x y):=LY _ _ _ _
theorem Gx:∀(d:Nat) (t:TypeId) (x y:Value),OK P S (Op.eqGuardIn d t x y):=by
 intro d
 induction d with
 |zero=>intro t x y;exact OK.halt _
 |succ d ih=>
  intro t x y;unfold Op.eqGuardIn;refine OK.bind (aW _) λu=>?_
  (with_reducible repeat' (first|assumption|exact OK.pure _|exact OK.halt _|exact aW _|exact aO _|exact pG _ _ _|exact(OK.aS _ _ λ_=>OK.bind (aO _) λ_=>OK.pure _)|exact ih _ _ _|(refine OK.oW _ _ _ λ_ _=>?_)|(refine OK.uO _ _ _ λ_ _=>?_)|(refine OK.bind ?_ λ_=>?_)|(refine OK.ite (λ_=>?_) λ_=>?_)|split|dsimp only))
theorem yE(emp:Bool):∀(d:Nat) (t:TypeId) (v:Value),OK P S (Instr.checkKey emp d t v):=by
 intro d
 induction d with
 |zero=>intro t x;exact OK.halt _
 |succ d ih=>
  intro t x;unfold Instr.checkKey;refine OK.bind (aW _) λu=>?_
  (with_reducible repeat' (first|assumption|exact OK.pure _|exact OK.halt _|exact bg _|exact dZ _|exact aW _|exact BM _|exact aO _|exact pG _ _ _|exact bM _|exact(OK.aS _ _ λ_=>OK.bind (aO _) λ_=>OK.pure _)|exact ih _ _|(refine OK.oW _ _ _ λ_ _=>?_)|(refine OK.uO _ _ _ λ_ _=>?_)|(refine OK.bind ?_ λ_=>?_)|(refine OK.ite (λ_=>?_) λ_=>?_)|split|dsimp only))
theorem Dy(t:TypeId)(k:Value):∀(es:List MapEntry) (i:Nat),OK P S (Instr.findAsking t k es i):=by
 intro es
 induction es with
 |nil=>intro i;exact OK.pure _
 |cons e es ih=>
  intro i;unfold Instr.findAsking
  (with_reducible repeat' (first|assumption|exact OK.pure _|exact(OK.aS _ _ λ_=>OK.bind (aO _) λ_=>OK.pure _)|exact Jp _ _ _|exact ih _|(refine OK.bind ?_ λ_=>?_)|(refine OK.ite (λ_=>?_) λ_=>?_)|split|dsimp only))
theorem Bq(t:TypeId)(k:Value)(es:List MapEntry):OK P S (Instr.findKey t k es):=by
 unfold Instr.findKey
 (with_reducible repeat' (first|assumption|exact OK.pure _|exact aW _|exact(OK.aS _ _ λ_=>OK.bind (aO _) λ_=>OK.pure _)|exact Dy _ _ _ _|(refine OK.bind ?_ λ_=>?_)|split|dsimp only))
theorem EF(t:TypeId)(x i:Value)(c:Bool):OK P S (Instr.lookup t x i c):=by
 unfold Instr.lookup
 (with_reducible repeat' (first|assumption|exact OK.pure _|exact bg _|exact aW _|exact gI _|exact(OK.aS _ _ λ_=>OK.bind (aO _) λ_=>OK.pure _)|exact yE _ _ _ _|exact Bq _ _ _|(refine OK.getObj _ (λ_=>?_) (by with_unfolding_all exact λ_ h=>h))|(refine OK.bind ?_ λ_=>?_)|split|dsimp only))
theorem yZ(x y:Value):OK P S (Instr.keyThatStays x y):=by
 unfold Instr.keyThatStays
 (with_reducible repeat' (first|assumption|exact OK.pure _|exact OK.choose _|exact(OK.aS _ _ λ_=>OK.bind (aO _) λ_=>OK.pure _)|(refine OK.bind ?_ λ_=>?_)|(refine OK.ite (λ_=>?_) λ_=>?_)|split|dsimp only))
theorem wC(t:TypeId)(m k v:Value):OK P S (Instr.mapUpdate t m k v):=by
 unfold Instr.mapUpdate
 (with_reducible repeat' (first|assumption|exact OK.Ui _ _ _|exact bg _|exact aW _|exact bM _|exact(OK.aS _ _ λ_=>OK.bind (aO _) λ_=>OK.pure _)|exact yE _ _ _ _|exact Bq _ _ _|exact yZ _ _|(refine OK.getObj _ (λ_=>?_) (by with_unfolding_all exact λ_ h=>h))|(refine OK.bind ?_ λ_=>?_)|split|dsimp only))
theorem yG(op:BinOp)(k:IntKind)(x y:Int):OK P S (Op.intArith op k x y):=by
 unfold Op.intArith
 (with_reducible repeat' (first|assumption|exact OK.pure _|exact bg _|exact(OK.aS _ _ λ_=>OK.bind (aO _) λ_=>OK.pure _)|split|dsimp only))
theorem PO(op:BinOp)(k:IntKind)(x y:Int):OK P S (Op.intDiv op k x y):=by
 unfold Op.intDiv
 (with_reducible repeat' (first|assumption|exact OK.pure _|exact bg _|exact bM _|exact(OK.aS _ _ λ_=>OK.bind (aO _) λ_=>OK.pure _)|(refine OK.ite (λ_=>?_) λ_=>?_)|split|dsimp only))
theorem BA(op:BinOp)(k:IntKind)(x y:Int):OK P S (Op.intBits op k x y):=by
 unfold Op.intBits
 (with_reducible repeat' (first|assumption|exact OK.pure _|exact bg _|exact(OK.aS _ _ λ_=>OK.bind (aO _) λ_=>OK.pure _)|split|dsimp only))
theorem PN(op:BinOp)(x y:Int):OK P S (Op.intCmp op x y):=by
 unfold Op.intCmp
 (with_reducible repeat' (first|assumption|exact OK.pure _|exact bg _|exact(OK.aS _ _ λ_=>OK.bind (aO _) λ_=>OK.pure _)|split|dsimp only))
theorem TT(op:BinOp)(k:IntKind)(x:Int)(j:IntKind)(y:Int):OK P S (Op.shift op k x j y):=by
 unfold Op.shift
 (with_reducible repeat' (first|assumption|exact OK.pure _|exact bg _|exact bM _|exact(OK.aS _ _ λ_=>OK.bind (aO _) λ_=>OK.pure _)|(refine OK.ite (λ_=>?_) λ_=>?_)|split|dsimp only))
theorem ug(op:BinOp)(k:FloatKind)(x y:Nat):OK P S (Op.floatArith op k x y):=by
 unfold Op.floatArith
 (with_reducible repeat' (first|assumption|exact OK.pure _|exact OK.choose _|exact bg _|exact(OK.aS _ _ λ_=>OK.bind (aO _) λ_=>OK.pure _)|(refine OK.bind ?_ λ_=>?_)|split|dsimp only))
theorem yF(op:BinOp)(k:FloatKind)(x y:Nat):OK P S (Op.floatCmp op k x y):=by
 unfold Op.floatCmp
 (with_reducible repeat' (first|assumption|exact OK.pure _|exact bg _|exact(OK.aS _ _ λ_=>OK.bind (aO _) λ_=>OK.pure _)|split|dsimp only))
theorem qV(op:BinOp)(x y:ByteArray):OK P S (Op.stringOp op x y):=by
 unfold Op.stringOp
 (with_reducible repeat' (first|assumption|exact OK.pure _|exact bg _|exact bf _|exact(OK.aS _ _ λ_=>OK.bind (aO _) λ_=>OK.pure _)|(refine OK.ite (λ_=>?_) λ_=>?_)|split|dsimp only))
theorem Jy(op:UnOp)(x:Value):OK P S (Op.unary op x):=by
 unfold Op.unary
 (with_reducible repeat' (first|assumption|exact OK.pure _|exact bg _|exact bf _|exact(OK.aS _ _ λ_=>OK.bind (aO _) λ_=>OK.pure _)|exact yG _ _ _ _|exact BA _ _ _ _|split|dsimp only))
theorem wE(a b:Addr):OK P S (Op.twoPlaces a b):=by
 unfold Op.twoPlaces
 (with_reducible repeat' (first|assumption|exact OK.pure _|exact OK.program|exact bf _|exact sH _|exact(OK.aS _ _ λ_=>OK.bind (aO _) λ_=>OK.pure _)|(refine OK.bind ?_ λ_=>?_)|(refine OK.ite (λ_=>?_) λ_=>?_)|split|dsimp only))
theorem LU(k:IntKind)(a b:Addr):OK P S (Op.addrSub k a b):=by
 unfold Op.addrSub
 (with_reducible repeat' (first|assumption|exact OK.pure _|exact(OK.aS _ _ λ_=>OK.bind (aO _) λ_=>OK.pure _)|exact wE _ _|(refine OK.bind ?_ λ_=>?_)|split|dsimp only))
theorem LP(k:BinOp)(a b:Addr):OK P S (Op.addrCmp k a b):=by
 unfold Op.addrCmp
 (with_reducible repeat' (first|assumption|exact OK.pure _|exact bf _|exact(OK.aS _ _ λ_=>OK.bind (aO _) λ_=>OK.pure _)|exact wE _ _|(refine OK.bind ?_ λ_=>?_)|split|dsimp only))
theorem LQ(k:IntKind)(a:Addr)(n:Int):OK P S (Op.addrMod k a n):=by
 unfold Op.addrMod;refine OK.shape _ (λs=>?_) λe n=>rfl
 (with_reducible repeat' (first|assumption|exact OK.pure _|exact bf _|exact dZ _|exact sH _|exact(OK.aS _ _ λ_=>OK.bind (aO _) λ_=>OK.pure _)|(refine OK.bind ?_ λ_=>?_)|(refine OK.ite (λ_=>?_) λ_=>?_)|split|dsimp only))
theorem nU(p:Program)(d:Nat)(e:TypeId)(off:Nat)(b:Int):cellAtBytes p d e 0 off b=none:=by
 simp[cellAtBytes];intro _ _ a _ h1 h2;exact absurd h1 (Int.not_le.2 h2)
theorem OK.shape'{k:Option (TypeId×Nat)→Sem α}(r:Nat)(h:∀s,OK P S (k s))(h0:∀e n,Sim P S (k (some (e,0))) (k (some (e,n)))):OK P S (Go.shape r>>=k):=Sim.shape r h h0
theorem wF(ats:Array TypeId)(t:TypeId)(args:Array Value):OK P S (Builtin.unsafeAdd_ ats t args):=by
 obtain⟨l⟩:=args;rcases l with _|⟨v,_|⟨u,_|⟨z,l⟩⟩⟩
 ·exact OK.halt _
 ·exact OK.halt _
 ·cases v<;>first|exact OK.halt _|skip
  rename_i ptr;refine OK.bind (t:=asInt u) (qP u) λn=>?_
  (with_reducible repeat' (first|assumption|exact OK.pure _|exact OK.halt _|exact OK.program|exact bf _|exact qP _|exact(OK.aS _ _ λ_=>OK.bind (aO _) λ_=>OK.pure _)|(refine OK.view _ ?_ (by with_unfolding_all exact λ_ _ _ h=>h))|(refine OK.shape' _ (λ_=>?_) λ_ _=>?_)|(refine OK.bind ?_ λ_=>?_)|(refine OK.ite (λ_=>?_) λ_=>?_)|split|dsimp only))
  all_goals
   refine Sim.dead λw=>?_
   first
    |(rename_i heq
      cases heq;simp[Sem.run_bind,nU,unsupported,Sem.run,Fine,Go.program]
      done)
    |(simp[Sem.run_bind,nU,unsupported,Sem.run,Fine,Go.program];done)
 ·exact OK.halt _
theorem BF(t:TypeId)(x y:Value):OK P S (movedNumber t x y):=by
 unfold movedNumber
 (with_reducible repeat' (first|assumption|exact OK.pure _|exact bf _|exact Jk _ _|exact ku _|exact aW _|exact(OK.aS _ _ λ_=>OK.bind (aO _) λ_=>OK.pure _)|exact wF _ _ _|(refine OK.bind ?_ λ_=>?_)|(refine OK.ite (λ_=>?_) λ_=>?_)|split|dsimp only))
theorem y7(t:TypeId)(x y:Value):OK P S (movedPointer t x y):=by
 unfold movedPointer
 (with_reducible repeat' (first|assumption|exact bf _|exact yI _|exact(OK.aS _ _ λ_=>OK.bind (aO _) λ_=>OK.pure _)|exact wF _ _ _|(refine OK.bind ?_ λ_=>?_)|(refine OK.ite (λ_=>?_) λ_=>?_)|split|dsimp only))
theorem yY(k:FloatKind)(n:Nat)(j:FloatKind):OK P S (Conv.floatToFloat k n j):=by
 unfold Conv.floatToFloat
 (with_reducible repeat' (first|assumption|exact OK.pure _|exact OK.choose _|exact(OK.aS _ _ λ_=>OK.bind (aO _) λ_=>OK.pure _)|(refine OK.bind ?_ λ_=>?_)|(refine OK.ite (λ_=>?_) λ_=>?_)|split|dsimp only))
theorem ou(op:BinOp)(k:FloatKind)(x y:Nat):OK P S (Op.Complex.arith op k x y):=by
 unfold Op.Complex.arith
 (with_reducible repeat' (first|assumption|exact OK.pure _|exact bg _|exact(OK.aS _ _ λ_=>OK.bind (aO _) λ_=>OK.pure _)|exact ug _ _ _ _|(refine OK.bind ?_ λ_=>?_)|split|dsimp only))
theorem N7(op:BinOp)(k:FloatKind)(x y:Nat):OK P S (Op.Complex.cmp op k x y):=by
 unfold Op.Complex.cmp
 (with_reducible repeat' (first|assumption|exact oq _|exact(OK.aS _ _ λ_=>OK.bind (aO _) λ_=>OK.pure _)|exact yF _ _ _ _|(refine OK.bind ?_ λ_=>?_)|split|dsimp only))
theorem TP(k:FloatKind)(x:Nat)(j:FloatKind):OK P S (Op.Complex.conv k x j):=by
 unfold Op.Complex.conv
 (with_reducible repeat' (first|assumption|exact OK.pure _|exact bg _|exact(OK.aS _ _ λ_=>OK.bind (aO _) λ_=>OK.pure _)|exact yY _ _ _|(refine OK.bind ?_ λ_=>?_)|(refine OK.ite (λ_=>?_) λ_=>?_)|split|dsimp only))
theorem Gp(x y:Nat):OK P S (Op.Complex.add x y):=ou _ _ _ _
theorem Gv(x y:Nat):OK P S (Op.Complex.sub x y):=ou _ _ _ _
theorem Gq(x y:Nat):OK P S (Op.Complex.mul x y):=ou _ _ _ _
theorem ok_cquo(x y:Nat):OK P S (Op.Complex.quo x y):=ou _ _ _ _
theorem Mc(a b c d:Nat):OK P S (Op.Complex.product a b c d):=by
 unfold Op.Complex.product
 (with_reducible repeat' (first|assumption|exact OK.pure _|exact(OK.aS _ _ λ_=>OK.bind (aO _) λ_=>OK.pure _)|exact Gp _ _|exact Gv _ _|exact Gq _ _|(refine OK.bind ?_ λ_=>?_)|split|dsimp only))
theorem Gu(s a b c d:Nat):OK P S (Op.Complex.corrected s a b c d):=by
 unfold Op.Complex.corrected
 (with_reducible repeat' (first|assumption|exact OK.pure _|exact(OK.aS _ _ λ_=>OK.bind (aO _) λ_=>OK.pure _)|exact Gp _ _|exact Gv _ _|exact Gq _ _|(refine OK.bind ?_ λ_=>?_)|split|dsimp only))
theorem Jw(a b c d:Nat):OK P S (Op.Complex.quotient a b c d):=by
 unfold Op.Complex.quotient
 (with_reducible repeat' (first|assumption|exact OK.pure _|exact(OK.aS _ _ λ_=>OK.bind (aO _) λ_=>OK.pure _)|exact N7 _ _ _ _|exact Gp _ _|exact Gv _ _|exact Gq _ _|exact ok_cquo _ _|exact Gu _ _ _ _ _|(refine OK.bind ?_ λ_=>?_)|(refine OK.ite (λ_=>?_) λ_=>?_)|split|dsimp only))
theorem Gs(op:BinOp)(k:FloatKind)(a b c d:Nat):OK P S (Op.complexOp op k a b c d):=by
 unfold Op.complexOp
 (with_reducible repeat' (first|assumption|exact OK.pure _|exact bg _|exact(OK.aS _ _ λ_=>OK.bind (aO _) λ_=>OK.pure _)|exact ou _ _ _ _|exact N7 _ _ _ _|exact TP _ _ _|exact Mc _ _ _ _|exact Jw _ _ _ _|(refine OK.bind ?_ λ_=>?_)|(refine OK.ite (λ_=>?_) λ_=>?_)|split|dsimp only))
theorem Bj(op:BinOp)(t:TypeId)(x y:Operand)(a b:Value):OK P S (eqGuard op t x y a b):=by
 unfold eqGuard
 (with_reducible repeat' (first|assumption|exact OK.pure _|exact OK.program|exact bf _|exact(OK.aS _ _ λ_=>OK.bind (aO _) λ_=>OK.pure _)|exact Gx _ _ _ _|(refine OK.bind ?_ λ_=>?_)|(refine OK.ite (λ_=>?_) λ_=>?_)|split|dsimp only))
theorem Jl(op:BinOp)(t:TypeId)(a b:Value):OK P S (binOp op t a b):=by
 unfold binOp
 (with_reducible repeat' (first|assumption|exact OK.pure _|exact bg _|exact bf _|exact ku _|exact aW _|exact(OK.aS _ _ λ_=>OK.bind (aO _) λ_=>OK.pure _)|exact Jp _ _ _|exact yG _ _ _ _|exact PO _ _ _ _|exact BA _ _ _ _|exact PN _ _ _|exact TT _ _ _ _ _|exact ug _ _ _ _|exact yF _ _ _ _|exact qV _ _ _|exact LU _ _ _|exact LP _ _ _|exact LQ _ _ _|exact BF _ _ _|exact y7 _ _ _|exact Gs _ _ _ _ _ _|(refine OK.bind ?_ λ_=>?_)|(refine OK.ite (λ_=>?_) λ_=>?_)|split|dsimp only))
theorem Js(k:IntKind)(n:Int):OK P S (Conv.intToInt k n):=by
 unfold Conv.intToInt
 (with_reducible repeat' (first|assumption|exact OK.pure _|exact(OK.aS _ _ λ_=>OK.bind (aO _) λ_=>OK.pure _)|split|dsimp only))
theorem DC(k:FloatKind)(n:Nat)(j:IntKind):OK P S (Conv.floatToInt k n j):=by
 unfold Conv.floatToInt
 (with_reducible repeat' (first|assumption|exact OK.pure _|exact OK.choose _|exact(OK.aS _ _ λ_=>OK.bind (aO _) λ_=>OK.pure _)|(refine OK.bind ?_ λ_=>?_)|(refine OK.ite (λ_=>?_) λ_=>?_)|split|dsimp only))
theorem ok_len(a:Array TypeId)(t:TypeId)(x:Array Value):OK P S (Builtin.len_ a t x):=by
 unfold Builtin.len_
 (with_reducible repeat' (first|assumption|exact OK.pure _|exact bg _|exact aW _|exact(OK.aS _ _ λ_=>OK.bind (aO _) λ_=>OK.pure _)|(refine OK.getObj _ (λ_=>?_) (by with_unfolding_all exact λ_ h=>h))|(refine OK.bind ?_ λ_=>?_)|split|dsimp only))
theorem ok_max2(x y:Value):OK P S (Builtin.max2 x y):=by
 unfold Builtin.max2
 (with_reducible repeat' (first|assumption|exact OK.pure _|exact OK.choose _|exact bg _|exact bf _|exact oq _|exact(OK.aS _ _ λ_=>OK.bind (aO _) λ_=>OK.pure _)|exact qV _ _ _|(refine OK.bind ?_ λ_=>?_)|split|dsimp only))
theorem ok_min2(x y:Value):OK P S (Builtin.min2 x y):=by
 unfold Builtin.min2
 (with_reducible repeat' (first|assumption|exact OK.pure _|exact OK.choose _|exact bg _|exact bf _|exact oq _|exact(OK.aS _ _ λ_=>OK.bind (aO _) λ_=>OK.pure _)|exact qV _ _ _|(refine OK.bind ?_ λ_=>?_)|split|dsimp only))
theorem ok_max(a:Array TypeId)(t:TypeId)(x:Array Value):OK P S (Builtin.max_ a t x):=by
 unfold Builtin.max_;split
 ·exact OK.halt _
 ·exact OK.Ap _ (λ_ _=>ok_max2 _ _) _ _
theorem ok_min(a:Array TypeId)(t:TypeId)(x:Array Value):OK P S (Builtin.min_ a t x):=by
 unfold Builtin.min_;split
 ·exact OK.halt _
 ·exact OK.Ap _ (λ_ _=>ok_min2 _ _) _ _
theorem TQ(a:Array TypeId)(t:TypeId)(x:Array Value):OK P S (Builtin.clear_ a t x):=by
 unfold Builtin.clear_
 (with_reducible repeat' (first|assumption|exact OK.pure _|exact OK.Ui _ _ _|exact bg _|exact aW _|exact gI _|exact nJ _ _ _|exact(OK.aS _ _ λ_=>OK.bind (aO _) λ_=>OK.pure _)|(refine OK.getObj _ (λ_=>?_) (by with_unfolding_all exact λ_ h=>h))|(refine OK.bind ?_ λ_=>?_)|split|dsimp only))
end
end Lift
end
section
namespace Lift
set_option maxHeartbeats 1000000
set_option maxRecDepth 10000
open Go Go.Conc
section
variable [Keep] {P:Program} {S:Nat→Prop} {α β:Type}
theorem Gl(size sLen n:Nat)(base:Option Addr)(x:Value)(w:World):∃b,(Builtin.mayShare size sLen n base x).run P w=.ok b w:=by
 have hc:∀(a:Addr) (k:Nat),∃b,(Builtin.holdsCells a k).run P w=.ok b w:=λa k=>by
  unfold Builtin.holdsCells;cases hs:w.shape? a.block with
  |none=>exact⟨false,by simp[run_shape,hs]⟩
  |some y=>exact⟨a.spot.isNone&&decide (a.off+k≤y.2),by simp[run_shape,hs]⟩
 unfold Builtin.mayShare;cases base with
 |none=>
  cases x<;>first|exact⟨_,by simp;rfl⟩|skip
  rename_i b _ _;cases b with
  |none=>exact⟨_,by simp;rfl⟩
  |some b=>
   obtain⟨r,hr⟩:=hc b (n * size);exact⟨!r,by simp[hr]⟩
 |some a=>
  obtain⟨r1,h1⟩:=hc a (sLen * size);cases r1<;>cases hf:w.frozen? (a.add (sLen / 2 * size))<;>simp only[Sem.run_bind,h1,Result.andThen_ok,run_frozen,hf,Sem.run_pure,Bool.and_true,Bool.and_false,Bool.not_true,Bool.not_false,if_true,Bool.false_eq_true,if_false,pure_bind]
  all_goals first|exact⟨_,rfl⟩|skip
  cases x<;>first|exact⟨_,rfl⟩|skip
  rename_i b _ _;cases b with
  |none=>exact⟨_,rfl⟩
  |some b=>
   obtain⟨r,hr⟩:=hc b (n * size);exact⟨_,by simp[hr];rfl⟩
theorem TS(size sLen n:Nat)(base:Option Addr)(x:Value)(k:Bool→Sem α)(hk:∀b w,¬Fine ((k b).run P w)):OK P S (Builtin.mayShare size sLen n base x>>=k):=OK.dead (OC (λw y w' h=>by
 obtain⟨b,hb⟩:=Gl (P:=P) size sLen n base x w;rw[hb]at h;cases h) hk)
theorem TR(x:Value):OK P S (Builtin.lenOf x):=by
 unfold Builtin.lenOf
 (with_reducible repeat' (first|assumption|exact OK.pure _|exact bg _|exact(OK.aS _ _ λ_=>OK.bind (aO _) λ_=>OK.pure _)|split|dsimp only))
theorem Dz(a b:Nat)(x:Value):OK P S (Builtin.firstCells a b x):=by
 unfold Builtin.firstCells
 (with_reducible repeat' (first|assumption|exact OK.pure _|exact bg _|exact pz _ _|exact(OK.aS _ _ λ_=>OK.bind (aO _) λ_=>OK.pure _)|split|dsimp only))
set_option maxHeartbeats 16000000 in
theorem PK(a:Array TypeId)(t:TypeId)(x:Array Value):OK P S (Builtin.append_ a t x):=by
 unfold Builtin.append_
 (with_reducible repeat' (first|assumption|exact OK.pure _|exact OK.choose _|exact bg _|exact Bh _|exact dZ _|exact aW _|exact gI _|exact aO _|exact nJ _ _ _|exact oz _ _|exact bM _|exact qP _|exact(OK.aS _ _ λ_=>OK.bind (aO _) λ_=>OK.pure _)|exact TR _|exact Dz _ _ _|(refine TS _ _ _ _ _ _ (λb w=>by cases b<;>simp[Fine,unsupported,Sem.run_bind,Sem.run,Go.mark]))|(refine OK.bind ?_ λ_=>?_)|(refine OK.ite (λ_=>?_) λ_=>?_)|split|dsimp only))
theorem ok_cap(a:Array TypeId)(t:TypeId)(x:Array Value):OK P S (Builtin.cap_ a t x):=by
 unfold Builtin.cap_
 (with_reducible repeat' (first|assumption|exact OK.pure _|exact bg _|exact aW _|exact(OK.aS _ _ λ_=>OK.bind (aO _) λ_=>OK.pure _)|(refine OK.getObj _ (λ_=>?_) (by with_unfolding_all exact λ_ h=>h))|(refine OK.bind ?_ λ_=>?_)|split|dsimp only))
end
end Lift
end
