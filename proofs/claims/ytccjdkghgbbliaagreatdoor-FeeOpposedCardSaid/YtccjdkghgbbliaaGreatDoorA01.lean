/- A run that comes through although some blocks are laid waste comes through in the same way where they hold cells, on every tape that answers alike; and touches none of them. Here: of a tree of primitives. Nothing of the program stands here. -/
import Derived.Conc.Beside
set_option linter.all false
section
universe u
namespace Go.Proofs.YtccjdkghgbbliaaGreatDoor
theorem ah{α:Sort u}{p:α→Prop}(w:α)(h:p w):∃x,p x:=⟨w,h⟩
theorem aj{α:Type u}(l:List α)(i:Nat)(a:α):l.toArray.setIfInBounds i a=(l.set i a).toArray:=List.setIfInBounds_toArray l i a
theorem ak(n:Nat):n≤n:=Nat.le_refl n
theorem au{α:Type u}{x:α}{xs:List α}{i:Nat}{a:α}:(x::xs).set (i+1) a=x::xs.set i a:=rfl
theorem ay{α:Type u}{x:α}{xs:List α}{a:α}:(x::xs).set 0 a=a::xs:=rfl
theorem aA{α:Type u}{xs:Array α}{i j:Nat}(h:i≠j){a:α}:(xs.setIfInBounds i a)[j]?=xs[j]?:=Array.getElem?_setIfInBounds_ne h
theorem aB{n m k:Nat}(h:n<m)(g:m≤k):n<k:=Nat.lt_of_lt_of_le h g
theorem aC{α:Type u}{a:α}{as:List α}:(a::as).length=as.length+1:=rfl
theorem aF{α:Type u}:([]:List α).length=0:=rfl
theorem aG{α:Type u}{as:List α}:as.toArray.size=as.length:=rfl
theorem aH{α:Type u}{xs:Array α}{i:Nat}{d:α}:xs.getD i d=xs[i]?.getD d:=Array.getD_eq_getD_getElem?
end Go.Proofs.YtccjdkghgbbliaaGreatDoor
end
namespace Go.Proofs.YtccjdkghgbbliaaGreatDoor
section
namespace Lift
set_option maxHeartbeats 1000000
set_option maxRecDepth 10000
open Go Go.Conc
def blk:Loc→Option Nat
 |.cell a=>some a.block
 |.obj r=>some r
 |_=>none
def Off(S:Nat→Prop)(N:Nat)(e:Event):Prop:=(∀b,blk e.loc=some b→¬S b∧b<N)∧∀m,e.loc=.mark m→m=.noRoom
theorem Off.mono{S:Nat→Prop}{N N':Nat}{e:Event}(h:Off S N e)(hN:N≤N'):Off S N' e:=⟨λb hb=>⟨(h.1 b hb).1,by have:=(h.1 b hb).2;omega⟩,h.2⟩
def kR:Builtin→Bool
 |.append|.cap|.clear|.len|.max|.min=>true
 |_=>false
def isBytes(P:Program)(e:TypeId):Bool:=match P.underlying e with
 |some (.int .u8)=>true
 |_=>false
def LZ(P:Program)(src dst:TypeId):Bool:=match P.underlying src,P.underlying dst with
 |some (.int _),some (.int _)=>true
 |some (.int _),some .string=>true
 |some .string,some (.slice e)=>isBytes P e
 |some (.slice e),some .string=>isBytes P e
 |_,_=>false
def Gv(P:Program)(o:Oper):Bool:=
 match o.op with
 |.move _|.assign _|.pick .. | .alloc _|.box .. | .build .. | .buildSlice .. | .load .. | .store .. | .nilCheck _|.binOp .. | .unOp .. | .makeFunc .. | .makeMap .. | .makeSlice ..
 |.slice .. | .fieldAddr .. | .field .. | .indexAddr .. | .index .. | .lookup .. | .mapUpdate .. | .mapEntry .. | .entryStore .. | .range .. | .next .. | .entry _|.extract ..=>true
 |.convert src dst _=>LZ P src dst
 |.call c=>match c.callee with|.builtin b=>kR b|_=>true
 |_=>false
def dR(P:Program):Code→Bool
 |.region _ ops _=>ops.all (Gv P)
 |.seq a b|.cond _ a b|.rangeFunc _ _ a b=>dR P a&&dR P b
 |.block _ c|.loop c|.scope c=>dR P c
 |_=>true
def wI:Target→Bool
 |.builtin b _ _ _=>kR b
 |.coroexit _=>false
 |_=>true
class Keep where
 lim:Nat
 orig:Array Obj
 tag:TypeId
def idle[Keep]:Obj:=.view ⟨0,0,some 0⟩ Keep.tag
def Elder[Keep](b:Nat)(o:Obj):Prop:=b<Keep.lim→Keep.orig[b]?=some o
def Good(P:Program):Obj→Prop
 |.view a _=>a.spot.isSome=true
 |.loop l=>dR P l.assign=true∧dR P l.body=true∧∀c,l.pending=some c→dR P c=true
 |.deferred (some ds)=>ds=[]
 |_=>True
structure Poi [Keep] (P:Program) (S:Nat→Prop) (wp w:World):Prop where
 os:wp.os=w.os
 out:wp.output=w.output
 size:wp.heap.size=w.heap.size
 same:∀b,¬S b→wp.heap[b]?=w.heap[b]?∨(wp.heap[b]?=some idle∧∃o,w.heap[b]?=some o∧¬Good P o∧Elder b o)
 iP:∀b,S b→∃c e,w.heap[b]?=some (.cells c e (0,0))∧wp.heap[b]?=some (.cells #[] e (0,0))
 views:∀(b:Nat) (o:Obj),wp.heap[b]?=some o→Good P o
def Agree(wp w:World)(n:Nat):Prop:=∀i,i<n→∀q,wp.tape (wp.drawn+i) q=w.tape (w.drawn+i) q
def wor{α:Type}:Result α→World
 |.ok _ w=>w
 |.halt _ w=>w
def Fine{α:Type}:Result α→Prop
 |.ok _ _=>True
 |.halt (.panic _) _=>True
 |.halt .goexit _=>True
 |_=>False
def Like[Keep]{α:Type}(P:Program)(S:Nat→Prop)(n:Nat)(w:World):Result α→Result α→Prop
 |.ok a wp',.ok b w'=>a=b∧Poi P S wp' w'∧w'.tape=w.tape∧w'.drawn=w.drawn+n
 |.halt h wp',.halt h' w'=>h=h'∧Poi P S wp' w'∧w'.tape=w.tape∧w'.drawn=w.drawn+n
 |_,_=>False
def eu[Keep]{α:Type}(P:Program)(S:Nat→Prop)(wp:World)(t t':Sem α):Prop:=
 ∀w₀,Poi P S wp w₀→Fine (t.run P wp)→∃n,(wor (t.run P wp)).tape=wp.tape∧(wor (t.run P wp)).drawn=wp.drawn+n∧wp.heap.size≤(wor (t.run P wp)).heap.size∧(∀e∈t.events P wp #[],Off S (wor (t.run P wp)).heap.size e)∧
  ∀w,Poi P S wp w→Agree wp w n→Like P S n w (t.run P wp) (t'.run P w)∧t'.events P w #[]=t.events P wp #[]
def Sim[Keep]{α:Type}(P:Program)(S:Nat→Prop)(t t':Sem α):Prop:=∀wp,eu P S wp t t'
abbrev Safe[Keep]{α:Type}(P:Program)(S:Nat→Prop)(t:Sem α):Prop:=Sim P S t t
section
variable [Keep] {P:Program} {S:Nat→Prop} {α β:Type}
theorem Agree.take{wp w:World}{n m:Nat}(h:Agree wp w n)(hm:m≤n):Agree wp w m:=λi hi q=>h i (by omega) q
theorem Agree.drop{wp w wp' w':World}{n m:Nat}(h:Agree wp w (n+m))(h1:wp'.tape=wp.tape)(h2:wp'.drawn=wp.drawn+n)(h3:w'.tape=w.tape)(h4:w'.drawn=w.drawn+n):Agree wp' w' m:=λi hi q=>by
 rw[h1,h2,h3,h4,Nat.add_assoc,Nat.add_assoc];exact h (n+i) (by omega) q
theorem Sim.pure(a:α):Safe P S (Pure.pure a:Sem α):=λwp w₀ hp hf=>
 ⟨0,rfl,rfl,ak _,by simp,λw hw _=>⟨⟨rfl,hw,rfl,rfl⟩,rfl⟩⟩
theorem Sim.halt(h:Halt):Safe P S (Sem.halt h:Sem α):=λwp w₀ hp hf=>
 ⟨0,rfl,rfl,ak _,by simp,λw hw _=>⟨⟨rfl,hw,rfl,rfl⟩,rfl⟩⟩
theorem Sim.dead{t t':Sem α}(h:∀w,¬Fine (t.run P w)):Sim P S t t':=λwp _ _ hf=>absurd hf (h wp)
theorem xA{t:Sem α}{f:α→Sem β}{w:World}(h:Fine ((t>>=f).run P w)):Fine (t.run P w):=by
 rw[Sem.run_bind]at h;cases hr:t.run P w with
 |ok a w'=>trivial
 |halt x w'=>rw[hr]at h;cases x<;>first|trivial|exact h
theorem OM{t:Sem α}{f:α→Sem β}(ht:∀w x w',t.run P w≠.halt x w')(h:∀a w,¬Fine ((f a).run P w)):∀w,¬Fine ((t>>=f).run P w):=λw hf=>by
 have h1:=xA hf;rw[Sem.run_bind]at hf;cases hr:t.run P w with
 |ok a w'=>rw[hr]at hf;exact h a w' hf
 |halt x w'=>
  rw[hr]at h1;exact ht _ _ _ hr
theorem eu.bind{wp:World}{t t':Sem α}{f f':α→Sem β}(h:eu P S wp t t')(hf:∀a wp',t.run P wp=.ok a wp'→(∀(b:Nat) (o:Obj),wp'.heap[b]?=some o→Good P o)→eu P S wp' (f a) (f' a)):eu P S wp (t>>=f) (t'>>=f'):=by
 intro w₀ hp NV;obtain⟨n,h1,h2,hz,h3,h4⟩:=h w₀ hp (xA NV);rw[Sem.run_bind]at NV ⊢;rw[Sem.events_bind];cases hr:t.run P wp with
 |halt x wp'=>
  rw[hr]at h1 h2 hz h3 h4;refine⟨n,h1,h2,hz,h3,λw hw ha=>?_⟩;obtain⟨hl,he⟩:=h4 w hw ha;rw[Sem.run_bind,Sem.events_bind];cases hr':t'.run P w with
  |ok a w'=>rw[hr']at hl;exact hl.elim
  |halt y w'=>rw[hr']at hl;exact⟨hl,he⟩
 |ok a wp'=>
  rw[hr]at h1 h2 hz h3 h4 NV;obtain⟨hl₀,_⟩:∃w₁,Poi P S wp' w₁:=by
   have hA:Agree wp { w₀ with tape:=wp.tape,drawn:=wp.drawn } n:=λi _ q=>rfl;have:=(h4 { w₀ with tape:=wp.tape,drawn:=wp.drawn } ⟨hp.os,hp.out,hp.size,hp.same,hp.iP,hp.views⟩ hA).1;cases hr':t'.run P { w₀ with tape:=wp.tape,drawn:=wp.drawn }with
   |ok b w'=>rw[hr']at this;exact⟨w',this.2.1⟩
   |halt y w'=>rw[hr']at this;exact this.elim
  rename_i hp';obtain⟨m,k1,k2,kz,k3,k4⟩:=hf a wp' hr hp'.views hl₀ hp' NV;simp only[wor]at h1 h2 hz h3;refine⟨n+m,k1.trans h1,by show(wor ((f a).run P wp')).drawn=_;rw[k2,h2,Nat.add_assoc],Nat.le_trans hz kz,?_,λw hw ha=>?_⟩
  ·show∀e∈(f a).events P wp' (t.events P wp #[]),Off S (wor ((f a).run P wp')).heap.size e
   rw[Sem.events_acc];intro e he;exact(Array.mem_append.1 he).elim (λh=>(h3 e h).mono kz) (k3 e)
  ·obtain⟨hl,he⟩:=h4 w hw (ha.take (by omega));rw[Sem.run_bind,Sem.events_bind];cases hr':t'.run P w with
   |halt y w'=>rw[hr']at hl;exact hl.elim
   |ok b w'=>
    rw[hr']at hl;obtain⟨rfl,hp2,ht,hd⟩:=hl;obtain⟨hl2,he2⟩:=k4 w' hp2 (ha.drop h1 h2 ht hd);constructor
    ·show Like P S (n+m) w ((f a).run P wp') ((f' a).run P w')
     cases ha1:(f a).run P wp'<;>cases ha2:(f' a).run P w'<;>rw[ha1,ha2]at hl2
     ·obtain⟨x1,x2,x3,x4⟩:=hl2;exact⟨x1,x2,x3.trans ht,by rw[x4,hd];omega⟩
     ·exact hl2.elim
     ·exact hl2.elim
     ·obtain⟨x1,x2,x3,x4⟩:=hl2;exact⟨x1,x2,x3.trans ht,by rw[x4,hd];omega⟩
    ·show(f' a).events P w' (t'.events P w #[])=(f a).events P wp' (t.events P wp #[])
     rw[Sem.events_acc,Sem.events_acc P (f a),he,he2]
theorem Sim.bind{t t':Sem α}{f f':α→Sem β}(h:Sim P S t t')(hf:∀a,Sim P S (f a) (f' a)):Sim P S (t>>=f) (t'>>=f'):=λwp=>eu.bind (h wp) λa wp' _ _=>hf a wp'
theorem Sim.map{t t':Sem α}(f:α→β)(h:Sim P S t t'):Sim P S (Functor.map f t) (Functor.map f t'):=Sim.bind (f:=λa=>Pure.pure (f a)) h λa=>Sim.pure _
theorem Sim.ite{c:Prop}[Decidable c]{x x' y y':Sem α}(h1:c→Sim P S x x')(h2:¬c→Sim P S y y'):Sim P S (if c then x else y) (if c then x' else y'):=by
 split
 ·exact h1 ‹_›
 ·exact h2 ‹_›
theorem cell_lt{w:World}{a:Addr}{v:Value}(hc:w.cell? a=some v):a.block<w.heap.size:=by
 unfold World.cell? at hc;cases h:w.heap[a.block]? with
 |none=>rw[h]at hc;cases hc
 |some o=>exact(Array.getElem?_eq_some_iff.1 h).1
theorem O8:Good P idle:=rfl
theorem oz{o:Obj}(h:¬Good P o):(∃a t,o=.view a t)∨(∃l,o=.loop l)∨∃d ds,o=.deferred (some (d::ds)):=by
 cases o with
 |view a t=>exact .inl ⟨a,t,rfl⟩
 |loop l=>exact .inr (.inl ⟨l,rfl⟩)
 |deferred ds=>
  rcases ds with _|_|⟨d,ds⟩
  ·exact absurd True.intro h
  ·exact absurd (Eq.refl ([]:List Deferred)) h
  ·exact .inr (.inr ⟨d,ds,rfl⟩)
 |_=>exact absurd True.intro h
theorem Poi.at{wp w:World}(h:Poi P S wp w){b:Nat}(hs:¬S b){o:Obj}(ho:wp.heap[b]?=some o)(hn:o≠idle):w.heap[b]?=some o:=by
 rcases h.same b hs with e|⟨e,_⟩
 ·rw[← e];exact ho
 ·rw[ho]at e;exact absurd (Option.some.inj e) hn
theorem Poi.back{wp w:World}(h:Poi P S wp w){b:Nat}(hs:¬S b){o:Obj}(ho:w.heap[b]?=some o)(hg:Good P o):wp.heap[b]?=some o:=by
 rcases h.same b hs with e|⟨_,o',e,hb,_⟩
 ·rw[e];exact ho
 ·rw[ho]at e;cases e;exact absurd hg hb
theorem Poi.cells{wp w:World}(h:Poi P S wp w){b:Nat}(hs:¬S b){c:Array Value}{e:TypeId}{f:Nat×Nat}:wp.heap[b]?=some (.cells c e f)↔w.heap[b]?=some (.cells c e f):=
 ⟨λh'=>h.at hs h' (by intro e;cases e),λh'=>h.back hs h' True.intro⟩
theorem OA{w:World}{b:Nat}{o:Obj}(e:w.heap[b]?=some o)(h:¬Good P o):w.shape? b=none:=by
 unfold World.shape?;rw[e];rcases oz h with⟨a,t,rfl⟩|⟨l,rfl⟩|⟨d,ds,rfl⟩<;>rfl
theorem KG{w:World}{a:Addr}{o:Obj}(e:w.heap[a.block]?=some o)(h:¬Good P o):w.frozen? a=false:=by
 unfold World.frozen?;rw[e];rcases oz h with⟨a,t,rfl⟩|⟨l,rfl⟩|⟨d,ds,rfl⟩<;>rfl
theorem Ls{w:World}{b:Nat}(e:w.heap[b]?=some idle):w.shape? b=none:=by
 unfold World.shape?;rw[e];rfl
theorem Ja{w:World}{a:Addr}(e:w.heap[a.block]?=some idle):w.frozen? a=false:=by
 unfold World.frozen?;rw[e];rfl
theorem Poi.zJ{wp w:World}(h:Poi P S wp w){b:Nat}(hs:¬S b):w.shape? b=wp.shape? b:=by
 rcases h.same b hs with e|⟨e,o,e2,hb,_⟩
 ·unfold World.shape?;rw[e]
 ·rw[OA e2 hb,Ls e]
theorem Poi.Ap{wp w:World}(h:Poi P S wp w){a:Addr}(hs:¬S a.block):w.frozen? a=wp.frozen? a:=by
 rcases h.same _ hs with e|⟨e,o,e2,hb,_⟩
 ·unfold World.frozen?;rw[e]
 ·rw[KG e2 hb,Ja e]
theorem zZ{w:World}{a:Addr}{v:Value}(hc:w.cell? a=some v):∃c e f,w.heap[a.block]?=some (.cells c e f):=by
 unfold World.cell? at hc;cases h:w.heap[a.block]? with
 |none=>rw[h]at hc;cases hc
 |some o=>
  rw[h]at hc;cases o<;>first|exact⟨_,_,_,rfl⟩|(simp at hc;done)
theorem Poi.cell{wp w:World}(h:Poi P S wp w){a:Addr}{v:Value}(hc:wp.cell? a=some v):¬S a.block∧w.cell? a=some v:=by
 by_cases hs:S a.block
 ·obtain⟨c,e,_,h2⟩:=h.iP _ hs;unfold World.cell? at hc;rw[h2]at hc;simp at hc
 ·refine⟨hs,?_⟩;obtain⟨c,e,f,hb⟩:=zZ hc;have hb2:=(h.cells hs).1 hb;unfold World.cell? at hc ⊢;rw[hb]at hc;rw[hb2];exact hc
theorem Ip{w:World}{a:Addr}{o:Obj}(e:w.heap[a.block]?=some o)(h:¬Good P o):w.cell? a=none:=by
 unfold World.cell?;rw[e];rcases oz h with⟨a,t,rfl⟩|⟨l,rfl⟩|⟨d,ds,rfl⟩<;>rfl
theorem Poi.cellEq{wp w:World}(h:Poi P S wp w){a:Addr}(hs:¬S a.block):w.cell? a=wp.cell? a:=by
 rcases h.same _ hs with e|⟨e,o,e2,hb,_⟩
 ·unfold World.cell?;rw[e]
 ·rw[Ip e2 hb];unfold World.cell?;rw[e];rfl
theorem ET{w:World}{at_:Addr}(h:at_.spot.isSome=true)(u:TypeId)(k:Addr)(at':Bool):∃m,w.seen P at_ u k at'=.error m:=by
 unfold World.seen;simp only[h,Bool.or_true,if_true];exact⟨_,rfl⟩
theorem IQ{w:World}(hv:∀(b:Nat) (o:Obj),w.heap[b]?=some o→Good P o)(a:Addr)(at_:Bool):∃h,w.farLoad P a at_=.error h∧(∀v,h≠.panic v)∧h≠.goexit:=by
 unfold World.farLoad World.noCell;cases hb:w.heap[a.block]? with
 |none=>exact⟨_,rfl,by simp⟩
 |some o=>
  have:=hv _ _ hb;cases o with
  |view b t=>
   obtain⟨m,hm⟩:=ET (P:=P) (w:=w) (at_:=b) this t a at_;refine⟨.unsupported (.unsafePointer m),?_,by simp⟩;have:w.viewLoad P b t a at_=.error m:=by unfold World.viewLoad;rw[hm];rfl
   simp only[this]
  |_=>exact⟨_,rfl,by simp⟩
theorem F8{w:World}(hv:∀(b:Nat) (o:Obj),w.heap[b]?=some o→Good P o)(a:Addr)(v:Value)(at_:Bool):∃h,w.farStore P a v at_=.error h∧(∀x,h≠.panic x)∧h≠.goexit:=by
 unfold World.farStore World.noCell;cases hb:w.heap[a.block]? with
 |none=>exact⟨_,rfl,by simp⟩
 |some o=>
  have:=hv _ _ hb;cases o with
  |view b t=>
   obtain⟨m,hm⟩:=ET (P:=P) (w:=w) (at_:=b) this t a at_;have:∃m',w.viewStore P b t a v at_=.error m':=by
    unfold World.viewStore;by_cases ht:tight P P.depth t=true
    ·simp only[ht,Bool.not_true,Bool.false_eq_true,if_false,hm];exact⟨_,rfl⟩
    ·simp only[ht,Bool.not_false,if_true];exact⟨_,rfl⟩
   obtain⟨m',hm'⟩:=this;refine⟨.unsupported (.unsafePointer m'),?_,by simp⟩;simp only[hm']
  |_=>exact⟨_,rfl,by simp⟩
theorem Sim.load(a:Addr)(m:Mode):Safe P S (load a m):=by
 intro wp w₀ hp hf;cases hc:wp.cell? a with
 |none=>
  obtain⟨h,he,hn⟩:=IQ (P:=P) hp.views a (m==.atomic);simp only[Go.load,Sem.run,hc,he]at hf;cases h<;>first|exact absurd rfl (hn.1 _)|exact absurd rfl hn.2|exact hf.elim
 |some v=>
  obtain⟨hs,_⟩:=hp.cell hc;have hrun:∀w,w.cell? a=some v→(Go.load a m).run P w=.ok v w∧(Go.load a m).events P w #[]=#[⟨.cell a,false,m==.atomic⟩]:=λw h=>by
   constructor
   ·simp[Go.load,Sem.run,h]
   ·simp[Go.load,Sem.events,Sem.runT,h,-Sem.runT_eq]
  obtain⟨r1,e1⟩:=hrun wp hc;rw[r1,e1];refine⟨0,rfl,rfl,ak _,λe he=>?_,λw hw _=>?_⟩
  ·simp only[List.mem_toArray,List.mem_singleton]at he;subst he;exact⟨λb hb=>by cases hb;exact⟨hs,cell_lt hc⟩,λm hm=>by cases hm⟩
  ·obtain⟨r2,e2⟩:=hrun w (hw.cell hc).2;rw[r2,e2];exact⟨⟨rfl,hw,rfl,rfl⟩,rfl⟩
theorem Poi.setCell{wp w:World}(h:Poi P S wp w){a:Addr}{v0:Value}(hc:wp.cell? a=some v0)(v:Value):Poi P S (wp.setCell a v) (w.setCell a v):=by
 have hs:=(h.cell hc).1;have heq:wp.heap[a.block]?=w.heap[a.block]?:=by
  obtain⟨c,e,f,hb⟩:=zZ hc;rw[hb,(h.cells hs).1 hb]
 have key:∀(x:World) (b:Nat),b≠a.block→(x.setCell a v).heap[b]?=x.heap[b]?:=λx b hb=>by
  simp only[World.setCell,Array.getElem?_modify];rw[if_neg (Ne.symm hb)]
 refine⟨h.os,h.out,by simp[World.setCell,h.size],λb hb=>?_,λb hb=>?_,λb o hb=>?_⟩
 ·by_cases he:b=a.block
  ·subst he;exact .inl (by simp only[World.setCell,Array.getElem?_modify,heq])
  ·rw[key _ _ he,key _ _ he];exact h.same _ hb
 ·have he:b≠a.block:=λe=>hs (e▸hb);obtain⟨c,e,h1,h2⟩:=h.iP b hb;exact⟨c,e,(key _ _ he).trans h1,(key _ _ he).trans h2⟩
 ·by_cases he:b=a.block
  ·subst he;simp only[World.setCell,Array.getElem?_modify,if_true]at hb;cases hx:wp.heap[a.block]? with
   |none=>rw[hx]at hb;cases hb
   |some x=>
    rw[hx]at hb;have:=h.views _ _ hx;simp only[Option.map_some,Option.some.injEq]at hb;subst hb;cases x<;>first|exact this|trivial
  ·rw[key _ _ he]at hb;exact h.views _ _ hb
theorem Sim.store(a:Addr)(v:Value)(m:Mode):Safe P S (store a v m):=by
 intro wp w₀ hp hf;by_cases hv:v.oneCell'=true
 ·cases hc:wp.cell? a with
  |none=>
   obtain⟨h,he,hn⟩:=F8 (P:=P) hp.views a v (m==.atomic);have:(Go.store a v m).run P wp=.halt h wp:=by
    cases v<;>first|(simp[Value.oneCell']at hv;done)|simp[Go.store,Sem.run,hc,he]
   rw[this]at hf;cases h<;>first|exact absurd rfl (hn.1 _)|exact absurd rfl hn.2|exact hf.elim
  |some x=>
   obtain⟨hs,_⟩:=hp.cell hc;have hfz:∀w,Poi P S wp w→w.frozen? a=wp.frozen? a:=λw hw=>hw.Ap hs;cases hfr:wp.frozen? a with
   |true=>
    exfalso;have:(Go.store a v m).run P wp=.halt (.unsupported (.unsafePointer "a write to bytes that a string shares")) wp:=by
     cases v<;>first|(simp[Value.oneCell']at hv;done)|simp[Go.store,Sem.run,hc,hfr]
    rw[this]at hf;exact hf
   |false=>
    have hrun:∀w x,w.cell? a=some x→w.frozen? a=false→(Go.store a v m).run P w=.ok () (w.setCell a v)∧(Go.store a v m).events P w #[]=#[⟨.cell a,true,m==.atomic⟩]:=λw x h h'=>by
     constructor
     ·cases v<;>first|(simp[Value.oneCell']at hv;done)|simp[Go.store,Sem.run,h,h']
     ·cases v<;>first|(simp[Value.oneCell']at hv;done)|simp[Go.store,Sem.events,Sem.runT,h,h',-Sem.runT_eq]
    obtain⟨r1,e1⟩:=hrun wp x hc hfr;rw[r1,e1];refine⟨0,rfl,rfl,by simp[wor,World.setCell],λe he=>?_,λw hw _=>?_⟩
    ·simp only[List.mem_toArray,List.mem_singleton]at he;subst he;exact⟨λb hb=>by cases hb;exact⟨hs,by simpa[wor,World.setCell]using cell_lt hc⟩,λm hm=>by cases hm⟩
    ·obtain⟨r2,e2⟩:=hrun w x (hw.cell hc).2 ((hfz w hw).trans hfr);rw[r2,e2];exact⟨⟨rfl,hw.setCell hc v,rfl,rfl⟩,rfl⟩
 ·exfalso;cases v<;>first|exact hv rfl|(simp only[Go.store,Sem.run]at hf;exact hf)
theorem Poi.push{wp w:World}(h:Poi P S wp w)(o:Obj)(ho:Good P o):Poi P S { wp with heap:=wp.heap.push o } { w with heap:=w.heap.push o }:=by
 refine⟨h.os,h.out,by simp[h.size],λb hb=>?_,λb hb=>?_,λb x hb=>?_⟩
 ·simp only[Array.getElem?_push,h.size];split
  ·exact .inl rfl
  ·exact h.same b hb
 ·obtain⟨c,e,h1,h2⟩:=h.iP b hb;have l1:=(Array.getElem?_eq_some_iff.1 h1).1;have l2:=(Array.getElem?_eq_some_iff.1 h2).1;exact⟨c,e,by simp only[Array.getElem?_push];rw[if_neg (by omega)];exact h1,by simp only[Array.getElem?_push];rw[if_neg (by omega)];exact h2⟩
 ·simp only[Array.getElem?_push]at hb;split at hb
  ·cases hb;exact ho
  ·exact h.views _ _ hb
theorem Sim.newObj(o:Obj)(ho:Good P o):Safe P S (newObj o):=λwp w₀ hp _=>by
 refine⟨0,rfl,rfl,by simp[wor,Go.newObj,Sem.run],by simp,λw hw _=>⟨⟨hw.size,hw.push o ho,rfl,rfl⟩,by simp⟩⟩
theorem Sim.frozen(a:Addr):Safe P S (frozen a):=λwp w₀ hp _=>by
 refine⟨0,rfl,rfl,ak _,by simp,λw hw _=>⟨⟨?_,hw,rfl,rfl⟩,by simp⟩⟩;by_cases hs:S a.block
 ·obtain⟨c,e,h1,h2⟩:=hw.iP _ hs;unfold World.frozen?;rw[h1,h2]
 ·exact(hw.Ap hs).symm
theorem Sim.getObj{k:Obj→Sem α}(r:Nat)(h:∀o,Sim P S (k o) (k o))(hd:∀o,¬Good P o→Sim P S (k idle) (k o)):Sim P S (Go.getObj r>>=k) (Go.getObj r>>=k):=by
 intro wp w₀ hp hf;have hnone:∀(w:World) (j:Obj→Sem α),(¬∃o,w.heap[r]?=some o∧∀c e f,o≠.cells c e f)→¬Fine ((Go.getObj r>>=j).run P w):=λw j hn hf=>by
  have:=xA hf;cases hc:w.heap[r]? with
  |none=>simp only[Go.getObj,Sem.run,hc]at this;exact this.elim
  |some o=>
   cases o with
   |cells c e f=>simp only[Go.getObj,Sem.run,hc]at this;exact this.elim
   |_=>exact hn ⟨_,hc,by simp⟩
 have hrun:∀(w:World) (j:Obj→Sem α) (o:Obj),w.heap[r]?=some o→(∀c e f,o≠.cells c e f)→(Go.getObj r>>=j).run P w=(j o).run P w∧(Go.getObj r>>=j).events P w #[]=#[⟨.obj r,false,o.isChan⟩]++(j o).events P w #[]:=λw j o h ho=>by
  have r1:(Go.getObj r).run P w=.ok o w:=by cases o<;>first|exact absurd rfl (ho _ _ _)|simp[Go.getObj,Sem.run,h]
  have e1:(Go.getObj r).events P w #[]=#[⟨.obj r,false,o.isChan⟩]:=by cases o<;>first|exact absurd rfl (ho _ _ _)|simp[Go.getObj,Sem.events,Sem.runT,h,-Sem.runT_eq]
  constructor
  ·rw[Sem.run_bind,r1];rfl
  ·rw[Sem.events_bind,r1,e1];exact Sem.events_acc P (j o) w #[⟨.obj r,false,o.isChan⟩]
 by_cases hx:∃o,wp.heap[r]?=some o∧∀c e f,o≠.cells c e f
 ·obtain⟨o,hc,ho⟩:=hx;have hs:¬S r:=λhs=>by
   obtain⟨c,e,_,h2⟩:=hp.iP _ hs;rw[hc]at h2;cases h2;exact ho _ _ _ rfl
  obtain⟨r1,e1⟩:=hrun wp k o hc ho;rw[r1]at hf ⊢;rw[e1];have hlt:=(Array.getElem?_eq_some_iff.1 hc).1;obtain⟨n,a1,a2,az,a3,a4⟩:=h o wp w₀ hp hf;refine⟨n,a1,a2,az,λe he=>?_,λw hw ha=>?_⟩
  ·rcases Array.mem_append.1 he with he|he
   ·simp only[List.mem_toArray,List.mem_singleton]at he;subst he;exact⟨λb hb=>by cases hb;exact⟨hs,by omega⟩,λm hm=>by cases hm⟩
   ·exact a3 e he
  ·rcases hw.same _ hs with e|⟨e,o',e2,hb,_⟩
   ·obtain⟨r2,e2⟩:=hrun w k o (e.symm.trans hc) ho;rw[r2,e2];obtain⟨g1,g2⟩:=a4 w hw ha;exact⟨g1,by rw[g2]⟩
   ·rw[hc]at e;obtain rfl:=Option.some.inj e;have ho':∀c e f,o'≠.cells c e f:=λc e f he=>by subst he;exact hb True.intro
    obtain⟨r2,e3⟩:=hrun w k o' e2 ho';rw[r2,e3];obtain⟨n',b1,b2,_,_,b4⟩:=hd o' hb wp w₀ hp hf;have:n'=n:=by rw[a2]at b2;omega
    subst this;obtain⟨g1,g2⟩:=b4 w hw ha;refine⟨g1,?_⟩;rw[g2];have:o'.isChan=idle.isChan:=by rcases oz hb with⟨a,t,rfl⟩|⟨l,rfl⟩|⟨d,ds,rfl⟩<;>rfl
    rw[this]
 ·exact absurd hf (hnone wp k hx)
theorem Sim.getObj'{k:Obj→Sem α}(r:Nat)(h:∀o,Sim P S (k o) (k o))(hd:∀w,¬Fine ((k idle).run P w)):Sim P S (Go.getObj r>>=k) (Go.getObj r>>=k):=Sim.getObj r h λ_ _=>Sim.dead hd
theorem Poi.setObj{wp w:World}(h:Poi P S wp w){r:Nat}(hs:¬S r)(o:Obj)(ho:Good P o):Poi P S { wp with heap:=wp.heap.setIfInBounds r o } { w with heap:=w.heap.setIfInBounds r o }:=by
 refine⟨h.os,h.out,by simp[h.size],λb hb=>?_,λb hb=>?_,λb x hb=>?_⟩
 ·simp only[Array.getElem?_setIfInBounds,h.size];split
  ·exact .inl rfl
  ·exact h.same b hb
 ·have he:r≠b:=λe=>hs (e▸hb);obtain⟨c,e,h1,h2⟩:=h.iP b hb;exact⟨c,e,by simp only[aA he];exact h1,by simp only[aA he];exact h2⟩
 ·simp only[Array.getElem?_setIfInBounds]at hb;split at hb
  ·split at hb
   ·cases hb;exact ho
   ·cases hb
  ·exact h.views _ _ hb
theorem Sim.setObj(r:Nat)(o:Obj)(hv:Good P o):Safe P S (setObj r o):=by
 intro wp w₀ hp hf;cases hc:wp.heap[r]? with
 |none=>simp only[Go.setObj,Sem.run,hc]at hf;exact hf.elim
 |some x=>
  by_cases ho:∃c e f,x=.cells c e f
  ·obtain⟨c,e,f,rfl⟩:=ho;simp only[Go.setObj,Sem.run,hc]at hf;exact hf.elim
  ·have hs:¬S r:=λhs=>by
    obtain⟨c,e,_,h2⟩:=hp.iP _ hs;rw[hc]at h2;cases h2;exact ho ⟨_,_,_,rfl⟩
   have hrun:∀(w:World) (x:Obj),w.heap[r]?=some x→(¬∃c e f,x=.cells c e f)→(Go.setObj r o).run P w=.ok () { w with heap:=w.heap.setIfInBounds r o }∧(Go.setObj r o).events P w #[]=#[⟨.obj r,true,o.isChan⟩]:=λw x h ho=>by
    constructor
    ·cases x<;>first|exact absurd ⟨_,_,_,rfl⟩ ho|simp[Go.setObj,Sem.run,h]
    ·cases x<;>first|exact absurd ⟨_,_,_,rfl⟩ ho|simp[Go.setObj,Sem.events,Sem.runT,h,-Sem.runT_eq]
   obtain⟨r1,e1⟩:=hrun wp x hc ho;rw[r1,e1];have hlt:=(Array.getElem?_eq_some_iff.1 hc).1;refine⟨0,rfl,rfl,by simp[wor],λe he=>?_,λw hw _=>?_⟩
   ·simp only[List.mem_toArray,List.mem_singleton]at he;subst he;exact⟨λb hb=>by cases hb;exact⟨hs,by simpa[wor]using hlt⟩,λm hm=>by cases hm⟩
   ·have hw':∃y,w.heap[r]?=some y∧¬∃c e f,y=.cells c e f:=by
     rcases hw.same _ hs with e|⟨_,y,e,hb,_⟩
     ·exact⟨x,e.symm.trans hc,ho⟩
     ·exact⟨y,e,λ⟨c,e,f,he⟩=>by subst he;exact hb True.intro⟩
    obtain⟨y,hy1,hy2⟩:=hw';obtain⟨r2,e2⟩:=hrun w y hy1 hy2;rw[r2,e2];exact⟨⟨rfl,hw.setObj hs o hv,rfl,rfl⟩,rfl⟩
theorem Sim.choose(q:Question):Safe P S (choose q):=by
 intro wp w₀ hp _;by_cases hq:q.forced=true
 ·have hrun:∀w,(Go.choose q).run P w=.ok 0 w:=λw=>by simp[Go.choose,Sem.run,hq]
  rw[hrun];exact⟨0,rfl,rfl,ak _,by simp,λw hw _=>⟨by rw[hrun];exact⟨rfl,hw,rfl,rfl⟩,by simp⟩⟩
 ·have hrun:∀w,(Go.choose q).run P w=.ok (q.cut (w.tape w.drawn q)) { w with drawn:=w.drawn+1 }:=λw=>by simp[Go.choose,Sem.run,hq]
  rw[hrun];refine⟨1,rfl,rfl,ak _,by simp,λw hw ha=>⟨?_,by simp⟩⟩;rw[hrun];have:=ha 0 (by omega) q;simp only[Nat.add_zero]at this;exact⟨by rw[this],⟨hw.os,hw.out,hw.size,hw.same,hw.iP,hw.views⟩,rfl,rfl⟩
theorem Sim.program:Safe P S program:=λwp w₀ hp _=>⟨0,rfl,rfl,ak _,by simp,λw hw _=>⟨⟨rfl,hw,rfl,rfl⟩,by simp⟩⟩
theorem Sim.noRoom:Safe P S (mark .noRoom):=λwp w₀ hp _=>by
 have hrun:∀w,(Go.mark .noRoom).run P w=.ok () w:=λw=>by simp[Go.mark,Sem.run]
 rw[hrun];refine⟨0,rfl,rfl,ak _,λe he=>?_,λw hw _=>⟨by rw[hrun];exact⟨rfl,hw,rfl,rfl⟩,by simp⟩⟩;simp only[events_mark,List.push_toArray,List.nil_append,List.mem_toArray,List.mem_singleton]at he;subst he;exact⟨λb hb=>(by cases hb),λm hm=>by cases hm;rfl⟩
theorem Sim.shape{k k':Option (TypeId×Nat)→Sem α}(r:Nat)(h:∀s,Sim P S (k s) (k' s))(h0:∀e n,Sim P S (k (some (e,0))) (k' (some (e,n)))):Sim P S (shape r>>=k) (shape r>>=k'):=by
 intro wp w₀ hp hf;have hrun:∀(w:World) (j:Option (TypeId×Nat)→Sem α),(Go.shape r>>=j).run P w=(j (w.shape? r)).run P w∧(Go.shape r>>=j).events P w #[]=(j (w.shape? r)).events P w #[]:=λw j=>by
  constructor
  ·simp[Go.shape,Sem.run]
  ·rw[Sem.events_bind,events_shape];simp[Go.shape,Sem.run]
 rw[(hrun wp k).1]at hf ⊢;rw[(hrun wp k).2];by_cases hs:S r
 ·obtain⟨c₀,e,h1,h2⟩:=hp.iP _ hs;have e1:wp.shape? r=some (e,0):=by unfold World.shape?;rw[h2];rfl
  rw[e1]at hf ⊢;obtain⟨n,a1,a2,az,a3,_⟩:=h0 e 0 wp w₀ hp hf;refine⟨n,a1,a2,az,a3,λw hw ha=>?_⟩;obtain⟨c,e',g1,g2⟩:=hw.iP _ hs;rw[h2]at g2;cases g2;have e2:w.shape? r=some (e,c.size):=by unfold World.shape?;rw[g1]
  rw[(hrun w k').1,(hrun w k').2,e2];obtain⟨n',b1,b2,_,_,b4⟩:=h0 e c.size wp w₀ hp hf;have:n'=n:=by rw[a2]at b2;omega
  subst this;exact b4 w hw ha
 ·obtain⟨n,a1,a2,az,a3,a4⟩:=h (wp.shape? r) wp w₀ hp hf;refine⟨n,a1,a2,az,a3,λw hw ha=>?_⟩;have e2:w.shape? r=wp.shape? r:=hw.zJ hs;rw[(hrun w k').1,(hrun w k').2,e2];exact a4 w hw ha
end
end Lift
end
section
namespace Lift
set_option maxHeartbeats 1000000
set_option maxRecDepth 10000
open Go Go.Conc
def OK[Keep]{α:Type}(P:Program)(S:Nat→Prop)(t:Sem α):Prop:=Sim P S t t
section
variable [Keep] {P:Program} {S:Nat→Prop} {α β:Type}
theorem OK.pure(a:α):OK P S (Pure.pure a:Sem α):=Sim.pure a
theorem OK.halt(h:Halt):OK P S (Sem.halt h:Sem α):=Sim.halt h
theorem OK.program:OK P S program:=Sim.program
theorem OK.load(a:Addr)(m:Mode):OK P S (load a m):=Sim.load a m
theorem OK.store(a:Addr)(v:Value)(m:Mode):OK P S (store a v m):=Sim.store a v m
theorem OK.getObj{k:Obj→Sem α}(r:Nat)(h:∀o,OK P S (k o))(hd:∀w,¬Fine ((k idle).run P w)):OK P S (getObj r>>=k):=Sim.getObj' r h hd
theorem OK.setObj(r:Nat)(o:Obj)(h:Good P o):OK P S (setObj r o):=Sim.setObj r o h
theorem OK.newObj(o:Obj)(h:Good P o):OK P S (newObj o):=Sim.newObj o h
theorem OK.TQ(c:Array Value)(e:TypeId)(f:Nat×Nat):OK P S (Go.newObj (.cells c e f)):=Sim.newObj _ True.intro
theorem OK.PV(a:Addr)(l:Bool):OK P S (Go.newObj (.number a l)):=Sim.newObj _ True.intro
theorem OK.newMap(c:Array MapEntry)(n:Nat):OK P S (Go.newObj (.map c n)):=Sim.newObj _ True.intro
theorem OK.Hg(r:Nat)(c:Array MapEntry)(n:Nat):OK P S (Go.setObj r (.map c n)):=Sim.setObj _ _ True.intro
theorem OK.choose(q:Question):OK P S (choose q):=Sim.choose q
theorem OK.frozen(a:Addr):OK P S (frozen a):=Sim.frozen a
theorem OK.noRoom:OK P S (mark .noRoom):=Sim.noRoom
theorem OK.bind{t:Sem α}{f:α→Sem β}(h:OK P S t)(hf:∀a,OK P S (f a)):OK P S (t>>=f):=Sim.bind h hf
theorem OK.map{t:Sem α}(f:α→β)(h:OK P S t):OK P S (Functor.map f t):=Sim.map f h
theorem OK.ite{c:Prop}[Decidable c]{x y:Sem α}(h1:c→OK P S x)(h2:¬c→OK P S y):OK P S (if c then x else y):=by
 split
 ·exact h1 ‹_›
 ·exact h2 ‹_›
theorem OK.dead{t:Sem α}(h:∀w,¬Fine (t.run P w)):OK P S t:=Sim.dead h
theorem OK.shape{k:Option (TypeId×Nat)→Sem α}(r:Nat)(h:∀s,OK P S (k s))(h0:∀e n,k (some (e,0))=k (some (e,n))):OK P S (Go.shape r>>=k):=
 Sim.shape r h λe n=>by rw[← h0 e n];exact h _
theorem OK.En{β γ:Type}(l:List β)(f:β→γ→Sem (ForInStep γ))(h:∀x s,OK P S (f x s)):∀s,OK P S (forIn l s f):=by
 induction l with
 |nil=>intro s;rw[List.forIn_nil];exact OK.pure _
 |cons x l ih=>
  intro s;rw[List.forIn_cons];refine OK.bind (h x s) λr=>?_;cases r with
  |done b=>exact OK.pure _
  |yield b=>exact ih b
theorem OK.o9{β γ:Type}(l:Array β)(f:β→γ→Sem (ForInStep γ))(s:γ)(h:∀x s,OK P S (f x s)):OK P S (forIn l s f):=by
 rw[← Array.forIn_toList];exact OK.En _ f h s
theorem OK.uU{γ:Type}(l:Std.Legacy.Range)(f:Nat→γ→Sem (ForInStep γ))(s:γ)(h:∀x s,OK P S (f x s)):OK P S (forIn l s f):=by
 rw[Std.Legacy.Range.forIn_eq_forIn_range'];exact OK.En _ f h s
theorem OK.TM{β γ:Type}(f:β→Sem γ)(h:∀x,OK P S (f x)):∀l:List β,OK P S (l.mapM f):=by
 intro l
 induction l with
 |nil=>rw[List.mapM_nil];exact OK.pure _
 |cons x l ih=>
  rw[List.mapM_cons];exact OK.bind (h x) λ_=>OK.bind ih λ_=>OK.pure _
theorem OK.aP{β γ:Type}(l:Array β)(f:β→Sem γ)(h:∀x,OK P S (f x)):OK P S (l.mapM f):=by
 rw[Array.mapM_eq_mapM_toList];exact OK.map _ (OK.TM f h _)
theorem OK.Am{β γ:Type}(f:γ→β→Sem γ)(h:∀s x,OK P S (f s x)):∀(l:List β) (s:γ),OK P S (l.foldlM f s):=by
 intro l
 induction l with
 |nil=>intro s;rw[List.foldlM_nil];exact OK.pure _
 |cons x l ih=>intro s;rw[List.foldlM_cons];exact OK.bind (h s x) λa=>ih a
theorem aZ(why:String):OK P S (stuck why:Sem α):=OK.halt _
theorem aW(u:Unsupported):OK P S (unsupported u:Sem α):=OK.halt _
theorem MC(v:Value):OK P S (goPanic v:Sem α):=OK.halt _
theorem AZ(n:Nat):OK P S (askRoom n):=by
 unfold askRoom
 (with_reducible repeat' (first|assumption|exact OK.pure _|exact OK.noRoom|(refine OK.ite (λ_=>?_) λ_=>?_)|split|dsimp only))
theorem OK.view{k:Option (Addr×TypeId)→Sem α}(r:Nat)(h:OK P S (k none))(hd:∀a t w,¬Fine ((k (some (a,t))).run P w)):OK P S (viewAt r>>=k):=by
 unfold viewAt;rw[bind_assoc];refine OK.shape r (λs=>?_) λe n=>rfl;cases s with
 |some x=>simpa using h
 |none=>
  simp only[Option.isSome_none,Bool.false_eq_true,if_false,bind_assoc];refine Sim.getObj r (λo=>?_) λo ho=>Sim.dead λw hf=>?_
  ·cases o with
   |view a t=>simp only[pure_bind];exact Sim.dead (hd a t)
   |_=>simp only[pure_bind];exact h
  ·simp only[idle,pure_bind]at hf;exact hd _ _ w hf
theorem yL(r:Nat):OK P S (numberAt r):=by
 unfold numberAt;refine OK.shape r (λs=>?_) λe n=>rfl;split
 ·exact OK.pure _
 ·refine Sim.getObj r (λo=>?_) λo ho=>?_
  ·split<;>exact OK.pure _
  ·rcases oz ho with⟨a,t,rfl⟩|⟨l,rfl⟩|⟨d,ds,rfl⟩<;>exact OK.pure _
theorem Jr(a:Addr)(l:Bool):OK P S (asNumber a l):=by
 unfold asNumber
 (with_reducible repeat' (first|assumption|exact OK.pure _|exact OK.PV _ _|(refine OK.bind ?_ λ_=>?_)|split|dsimp only))
theorem jY(a:Addr):OK P S (behindNumber a):=by
 unfold behindNumber
 (with_reducible repeat' (first|assumption|exact OK.pure _|exact yL _|(refine OK.bind ?_ λ_=>?_)|split|dsimp only))
theorem xM(a:Addr):OK P S (noView a):=by
 unfold noView
 (with_reducible repeat' (first|assumption|exact OK.pure _|exact aW _|(refine OK.view _ ?_ (by with_unfolding_all exact λ_ _ _ h=>h))|(refine OK.ite (λ_=>?_) λ_=>?_)|split|dsimp only))
theorem eF(t:TypeId):OK P S (typeInfo t):=by
 unfold typeInfo
 (with_reducible repeat' (first|assumption|exact OK.pure _|exact OK.program|exact aZ _|(refine OK.bind ?_ λ_=>?_)|split|dsimp only))
theorem aU(t:TypeId):OK P S (underlying t):=by
 unfold underlying
 (with_reducible repeat' (first|assumption|exact OK.pure _|exact OK.program|exact aZ _|(refine OK.bind ?_ λ_=>?_)|split|dsimp only))
theorem BG(t:TypeId):OK P S (typeStr t):=by
 unfold typeStr
 (with_reducible repeat' (first|assumption|exact OK.pure _|exact aW _|exact eF _|(refine OK.bind ?_ λ_=>?_)|(refine OK.ite (λ_=>?_) λ_=>?_)|split|dsimp only))
theorem gq(t:TypeId):OK P S (zeroValue t):=by
 unfold zeroValue
 (with_reducible repeat' (first|assumption|exact OK.pure _|exact aW _|exact eF _|(refine OK.bind ?_ λ_=>?_)|split|dsimp only))
theorem aN(t:TypeId):OK P S (Go.sizeOf t):=by
 unfold Go.sizeOf
 (with_reducible repeat' (first|assumption|exact OK.pure _|exact eF _|(refine OK.bind ?_ λ_=>?_)|split|dsimp only))
theorem JA(t:TypeId):OK P S (isAgg t):=by
 unfold isAgg
 (with_reducible repeat' (first|assumption|exact OK.pure _|exact aU _|(refine OK.bind ?_ λ_=>?_)|split|dsimp only))
theorem xJ(a:Addr):∀(n i:Nat) (acc:Array Value),OK P S (loadCellsFrom a i n acc):=by
 intro n
 induction n with
 |zero=>intro i acc;exact OK.pure _
 |succ n ih=>intro i acc;exact OK.bind (OK.load _ _) λv=>ih _ _
theorem pJ(a:Addr)(n:Nat):OK P S (loadCells a n):=xJ a n 0 _
theorem nK(a:Addr):∀(vs:List Value) (i:Nat),OK P S (storeCells a vs i):=by
 intro vs
 induction vs with
 |nil=>intro i;exact OK.pure _
 |cons v vs ih=>intro i;exact OK.bind (OK.store _ _ _) λ_=>ih _
theorem pK(t:TypeId)(a:Addr):OK P S (loadVar t a):=by
 unfold loadVar
 (with_reducible repeat' (first|assumption|exact OK.pure _|exact OK.load _ _|exact aN _|exact JA _|exact pJ _ _|(refine OK.bind ?_ λ_=>?_)|(refine OK.ite (λ_=>?_) λ_=>?_)|split|dsimp only))
theorem yN(t:TypeId)(a:Addr)(v:Value):OK P S (storeVar t a v):=by
 unfold storeVar
 (with_reducible repeat' (first|assumption|exact aZ _|exact aN _|exact nK _ _ _|(refine OK.bind ?_ λ_=>?_)|(refine OK.ite (λ_=>?_) λ_=>?_)|split|dsimp only))
theorem oH(e:TypeId)(c:Array Value):OK P S (newRow e c):=by
 unfold newRow
 (with_reducible repeat' (first|assumption|exact OK.pure _|exact OK.TQ _ _ _|(refine OK.bind ?_ λ_=>?_)|split|dsimp only))
theorem xK(e:TypeId)(c:Value):OK P S (newVar e c):=by
 unfold newVar
 (with_reducible repeat' (first|assumption|exact oH _ _|split|dsimp only))
theorem PZ(t:TypeId):OK P S (elemOf t):=by
 unfold elemOf
 (with_reducible repeat' (first|assumption|exact OK.pure _|exact aZ _|exact aU _|(refine OK.bind ?_ λ_=>?_)|split|dsimp only))
theorem pO(t:TypeId)(c:Array Value)(o:Nat):OK P S (part t c o):=by
 unfold part
 (with_reducible repeat' (first|assumption|exact OK.pure _|exact aZ _|exact aN _|exact JA _|(refine OK.bind ?_ λ_=>?_)|(refine OK.ite (λ_=>?_) λ_=>?_)|split|dsimp only))
theorem bH(e:RuntimeError):OK P S (runtimePanic e:Sem α):=by
 unfold runtimePanic;refine OK.bind OK.program λp=>?_;cases e<;>dsimp only
 all_goals (with_reducible repeat' (first|assumption|exact OK.program|exact MC _|exact xK _ _|exact PZ _|(refine OK.bind ?_ λ_=>?_)|split|dsimp only))
theorem lI(k:IntKind)(x y:Int)(c:BoundsCode):OK P S (boundsPanic k x y c:Sem α):=by
 unfold boundsPanic
 (with_reducible repeat' (first|assumption|exact OK.pure _|exact OK.choose _|exact bH _|(refine OK.bind ?_ λ_=>?_)|(refine OK.map _ ?_)|(refine OK.ite (λ_=>?_) λ_=>?_)|split|dsimp only))
theorem pI(v:Value):OK P S (asIntOf v):=by
 unfold asIntOf
 (with_reducible repeat' (first|assumption|exact OK.pure _|exact aZ _|exact aW _|split|dsimp only))
theorem oD(v:Value):OK P S (asInt v):=by
 unfold asInt
 (with_reducible repeat' (first|assumption|exact OK.pure _|exact pI _|(refine OK.bind ?_ λ_=>?_)|split|dsimp only))
theorem oC(v:Value):OK P S (asBool v):=by
 unfold asBool
 (with_reducible repeat' (first|assumption|exact OK.pure _|exact aZ _|split|dsimp only))
theorem TS(v:Value):OK P S (asAgg v):=by
 unfold asAgg
 (with_reducible repeat' (first|assumption|exact OK.pure _|exact aZ _|split|dsimp only))
theorem sD(v:Value):OK P S (asAddr v):=by
 unfold asAddr
 (with_reducible repeat' (first|assumption|exact OK.pure _|exact aZ _|exact bH _|split|dsimp only))
theorem sF(a:Addr):OK P S (byteOf a):=by
 unfold byteOf;split
 ·exact OK.pure _
 ·refine OK.bind OK.program λp=>OK.bind (xM a) λ_=>OK.shape _ (λs=>?_) λe n=>rfl
  (with_reducible repeat' (first|assumption|exact OK.pure _|exact OK.program|exact aZ _|exact xM _|(refine OK.bind ?_ λ_=>?_)|(refine OK.ite (λ_=>?_) λ_=>?_)|split|dsimp only))
theorem P8(a:Addr)(c b:Nat):OK P S (partAt a c b):=by
 unfold partAt
 (with_reducible repeat' (first|assumption|exact OK.pure _|exact sF _|(refine OK.bind ?_ λ_=>?_)|split|dsimp only))
theorem uj(a:Addr)(f:Field):OK P S (fieldPlace a f):=by
 unfold fieldPlace
 (with_reducible repeat' (first|assumption|exact OK.pure _|exact aN _|exact P8 _ _ _|(refine OK.bind ?_ λ_=>?_)|(refine OK.ite (λ_=>?_) λ_=>?_)|split|dsimp only))
def sR(w:World)(a:Addr):Bool:=w.frozen? a||(match w.shape? a.block with|some (_,n)=>w.frozen? { block:=a.block,off:=n }|none=>false)
def zR(w:World)(a:Addr):Bool:=match w.shape? a.block with|some (_,0)=>true|_=>false
theorem uF(a:Addr)(w:World):(stringish a).run P w=.ok (sR w a) w∧(stringish a).events P w #[]=#[]:=by
 unfold stringish sR;cases hf:w.frozen? a with
 |true=>constructor<;>simp[run_frozen,hf]
 |false=>
  cases hs:w.shape? a.block with
  |none=>constructor<;>simp[run_frozen,run_shape,hf,hs]
  |some x=>constructor<;>simp[run_frozen,run_shape,hf,hs]
theorem yx{wp w:World}(h:Poi P S wp w){b:Nat}(hb:S b)(o:Nat):wp.frozen? ⟨b,o,none⟩=false∧w.frozen? ⟨b,o,none⟩=false:=by
 obtain⟨c,e,h1,h2⟩:=h.iP b hb;unfold World.frozen?;simp only[h1,h2];constructor<;>simp
theorem wB{wp w:World}(h:Poi P S wp w){a:Addr}(hb:S a.block):wp.frozen? a=false∧w.frozen? a=false:=by
 obtain⟨c,e,h1,h2⟩:=h.iP a.block hb;unfold World.frozen?;simp only[h1,h2];constructor<;>simp
theorem MZ{wp w:World}(h:Poi P S wp w){b:Nat}(hb:¬S b):w.shape? b=wp.shape? b:=h.zJ hb
theorem yA{wp w:World}(h:Poi P S wp w){a:Addr}(hb:¬S a.block):w.frozen? a=wp.frozen? a:=h.Ap hb
theorem kJ(a b:Addr)(w:World):(mayBeOne a b).run P w=.ok ((sR w a&&sR w b)||(sR w a&&zR w a)||(sR w b&&zR w b)) w∧(mayBeOne a b).events P w #[]=#[]:=by
 obtain⟨ra,ea⟩:=uF (P:=P) a w;obtain⟨rb,eb⟩:=uF (P:=P) b w;have eb':∀es,(stringish b).events P w es=es:=λes=>by rw[Sem.events_acc,eb];simp
 have ea':∀es,(stringish a).events P w es=es:=λes=>by rw[Sem.events_acc,ea];simp
 unfold mayBeOne;constructor
 ·simp[ra,rb,run_shape];rfl
 ·simp[ra,rb,ea',eb',run_shape]
theorem JC(a b:Addr):OK P S (mayBeOne a b):=by
 intro wp w₀ hp hf;rw[(kJ a b wp).1,(kJ a b wp).2];refine⟨0,rfl,rfl,ak _,by simp,λw hw _=>?_⟩;rw[(kJ a b w).1,(kJ a b w).2];have key:∀x:Addr,(S x.block→sR wp x=false∧sR w x=false)∧(¬S x.block→sR wp x=sR w x∧zR wp x=zR w x):=λx=>by
  constructor
  ·intro hs;unfold sR;obtain⟨c,e,h1,h2⟩:=hw.iP _ hs;rw[(wB hw hs).1,(wB hw hs).2];unfold World.shape?;rw[h1,h2];simp only[Bool.false_or];exact⟨(yx hw hs _).1,(yx hw hs _).2⟩
  ·intro hs;unfold sR zR;rw[yA hw hs,MZ hw hs];refine⟨?_,rfl⟩
   congr 1
   split
   ·exact(yA hw (a:=⟨x.block,_,none⟩) hs).symm
   ·rfl
 refine⟨⟨?_,hw,rfl,rfl⟩,rfl⟩;by_cases ha:S a.block
 ·by_cases hb:S b.block
  ·rw[((key a).1 ha).1,((key a).1 ha).2,((key b).1 hb).1,((key b).1 hb).2];rfl
  ·rw[((key a).1 ha).1,((key a).1 ha).2,((key b).2 hb).1,((key b).2 hb).2];rfl
 ·by_cases hb:S b.block
  ·rw[((key a).2 ha).1,((key a).2 ha).2,((key b).1 hb).1,((key b).1 hb).2];simp
  ·rw[((key a).2 ha).1,((key a).2 ha).2,((key b).2 hb).1,((key b).2 hb).2]
theorem yM(a b:Addr):OK P S (sameAddr a b):=by
 unfold sameAddr
 (with_reducible repeat' (first|assumption|exact OK.pure _|exact OK.choose _|exact OK.frozen _|exact aW _|exact xM _|(refine OK.bind ?_ λ_=>?_)|(refine OK.ite (λ_=>?_) λ_=>?_)|exact JC _ _|split|dsimp only))
theorem Bz(a b:Option Addr):OK P S (samePointer a b):=by
 unfold samePointer
 (with_reducible repeat' (first|assumption|exact OK.pure _|exact yM _ _|split|dsimp only))
theorem jS(v:Value):OK P S (Instr.sureAddr v):=by
 unfold Instr.sureAddr
 (with_reducible repeat' (first|assumption|exact OK.pure _|exact aZ _|split|dsimp only))
theorem EK(t:TypeId)(v:Value):OK P S (Instr.loadAt t v):=by
 unfold Instr.loadAt
 (with_reducible repeat' (first|assumption|exact pK _ _|exact jS _|(refine OK.bind ?_ λ_=>?_)|split|dsimp only))
theorem BF(t:TypeId)(v x:Value):OK P S (Instr.storeAt t v x):=by
 unfold Instr.storeAt
 (with_reducible repeat' (first|assumption|exact yN _ _ _|exact jS _|(refine OK.bind ?_ λ_=>?_)|split|dsimp only))
theorem Bc(t:TypeId)(v:Value)(f:Nat):OK P S (Instr.fieldAt t v f):=by
 unfold Instr.fieldAt
 (with_reducible repeat' (first|assumption|exact OK.pure _|exact aZ _|exact aU _|exact uj _ _|exact jS _|(refine OK.bind ?_ λ_=>?_)|split|dsimp only))
theorem Bg(t:TypeId)(v x:Value):OK P S (Instr.indexAt t v x):=by
 unfold Instr.indexAt
 (with_reducible repeat' (first|assumption|exact OK.pure _|exact aZ _|exact aW _|exact aU _|exact aN _|exact lI _ _ _ _|exact pI _|exact jS _|(refine OK.bind ?_ λ_=>?_)|(refine OK.ite (λ_=>?_) λ_=>?_)|split|dsimp only))
theorem DL(x:Value)(y:Nat)(c:BoundsCode):OK P S (Instr.sliceBound x y c):=by
 unfold Instr.sliceBound
 (with_reducible repeat' (first|assumption|exact OK.pure _|exact lI _ _ _ _|exact pI _|(refine OK.bind ?_ λ_=>?_)|(refine OK.ite (λ_=>?_) λ_=>?_)|split|dsimp only))
theorem qP(b:Bool)(l c:Nat)(x y z:Option Value):OK P S (Instr.sliceBounds b l c x y z):=by
 unfold Instr.sliceBounds
 (with_reducible repeat' (first|assumption|exact OK.pure _|exact aZ _|exact DL _ _ _|(refine OK.bind ?_ λ_=>?_)|split|dsimp only))
theorem ok_slice(t:TypeId)(v:Value)(x y z:Option Value):OK P S (Instr.slice t v x y z):=by
 unfold Instr.slice
 (with_reducible repeat' (first|assumption|exact OK.pure _|exact aZ _|exact aU _|exact aN _|exact sD _|exact qP _ _ _ _ _ _|(refine OK.bind ?_ λ_=>?_)|(refine OK.ite (λ_=>?_) λ_=>?_)|split|dsimp only))
theorem BD(t:TypeId)(v:Value)(x y z:Option Value):OK P S (Instr.sliceAt t v x y z):=by
 unfold Instr.sliceAt
 (with_reducible repeat' (first|assumption|exact OK.pure _|exact aU _|exact aN _|exact jS _|exact qP _ _ _ _ _ _|exact ok_slice _ _ _ _ _|(refine OK.bind ?_ λ_=>?_)|split|dsimp only))
theorem Jq(t:TypeId)(b:Bool)(v:Value):OK P S (Instr.alloc t b v):=by
 unfold Instr.alloc
 (with_reducible repeat' (first|assumption|exact OK.pure _|exact gq _|exact yN _ _ _|exact xK _ _|(refine OK.bind ?_ λ_=>?_)|split|dsimp only))
theorem TT(t:TypeId)(v:Value):OK P S (Instr.box t v):=by
 unfold Instr.box
 (with_reducible repeat' (first|assumption|exact OK.pure _|exact xK _ _|(refine OK.bind ?_ λ_=>?_)|split|dsimp only))
theorem Jt(t:TypeId)(ps:Array (Nat×Value)):OK P S (Instr.build t ps):=by
 unfold Instr.build
 (with_reducible repeat' (first|assumption|exact OK.pure _|exact aZ _|exact aU _|exact gq _|exact aN _|exact(OK.aP _ _ λ_=>OK.bind (aN _) λ_=>OK.pure _)|(refine OK.bind ?_ λ_=>?_)|split|dsimp only))
theorem uh(t:TypeId)(n:Nat)(ps:Array (Nat×Value)):OK P S (Instr.buildSlice t n ps):=by
 unfold Instr.buildSlice
 (with_reducible repeat' (first|assumption|exact OK.pure _|exact aZ _|exact aW _|exact aU _|exact gq _|exact aN _|exact oH _ _|exact(OK.aP _ _ λ_=>OK.bind (aN _) λ_=>OK.pure _)|(refine OK.bind ?_ λ_=>?_)|(refine OK.ite (λ_=>?_) λ_=>?_)|split|dsimp only))
theorem yK(f:Fn)(x y:Array Value):OK P S (Instr.makeFunc f x y):=by
 unfold Instr.makeFunc
 (with_reducible repeat' (first|assumption|exact OK.pure _|exact(OK.aP _ _ λ_=>OK.bind (aN _) λ_=>OK.pure _)|split|dsimp only))
theorem Bj(t:TypeId)(x:Option Value):OK P S (Instr.makeMap t x):=by
 unfold Instr.makeMap
 (with_reducible repeat' (first|assumption|exact OK.pure _|exact OK.newMap _ _|exact aZ _|exact aU _|exact oD _|exact(OK.aP _ _ λ_=>OK.bind (aN _) λ_=>OK.pure _)|(refine OK.bind ?_ λ_=>?_)|split|dsimp only))
theorem wJ(t:TypeId)(x y:Value):OK P S (Instr.makeSlice t x y):=by
 unfold Instr.makeSlice
 (with_reducible repeat' (first|assumption|exact OK.pure _|exact OK.choose _|exact aZ _|exact AZ _|exact eF _|exact aU _|exact gq _|exact aN _|exact oH _ _|exact bH _|exact oD _|exact(OK.aP _ _ λ_=>OK.bind (aN _) λ_=>OK.pure _)|(refine OK.bind ?_ λ_=>?_)|(refine OK.ite (λ_=>?_) λ_=>?_)|split|dsimp only))
theorem Jw(t:TypeId)(x:Value)(n:Nat):OK P S (Instr.field t x n):=by
 unfold Instr.field
 (with_reducible repeat' (first|assumption|exact aZ _|exact aU _|exact pO _ _ _|exact TS _|exact(OK.aP _ _ λ_=>OK.bind (aN _) λ_=>OK.pure _)|(refine OK.bind ?_ λ_=>?_)|split|dsimp only))
theorem Jy(t:TypeId)(x y:Value):OK P S (Instr.index t x y):=by
 unfold Instr.index
 (with_reducible repeat' (first|assumption|exact OK.pure _|exact aZ _|exact aU _|exact aN _|exact pO _ _ _|exact lI _ _ _ _|exact pI _|exact(OK.aP _ _ λ_=>OK.bind (aN _) λ_=>OK.pure _)|(refine OK.bind ?_ λ_=>?_)|(refine OK.ite (λ_=>?_) λ_=>?_)|split|dsimp only))
theorem Ba(x:Value)(n:Nat):OK P S (Instr.extract x n):=by
 unfold Instr.extract
 (with_reducible repeat' (first|assumption|exact OK.pure _|exact aZ _|exact(OK.aP _ _ λ_=>OK.bind (aN _) λ_=>OK.pure _)|split|dsimp only))
theorem Me:∀(d:Nat) (t:TypeId) (x y:Value),OK P S (Op.equalIn d t x y):=by
 intro d
 induction d with
 |zero=>intro t x y;exact OK.halt _
 |succ d ih=>
  intro t x y;unfold Op.equalIn;refine OK.bind (aU _) λu=>?_
  (with_reducible repeat' (first|assumption|exact OK.pure _|exact OK.halt _|exact OK.program|exact OK.choose _|exact aZ _|exact aW _|exact jY _|exact eF _|exact aU _|exact BG _|exact aN _|exact pO _ _ _|exact bH _|exact sF _|exact yM _ _|exact Bz _ _|exact(OK.aP _ _ λ_=>OK.bind (aN _) λ_=>OK.pure _)|exact ih _ _ _|(refine OK.o9 _ _ _ λ_ _=>?_)|(refine OK.uU _ _ _ λ_ _=>?_)|(refine OK.bind ?_ λ_=>?_)|(refine OK.ite (λ_=>?_) λ_=>?_)|split|dsimp only))
theorem Jv(t:TypeId)(x y:Value):OK P S (Op.equal t x y):=Me _ _ _ _
theorem GK:∀(d:Nat) (t:TypeId) (x y:Value),OK P S (Op.eqGuardIn d t x y):=by
 intro d
 induction d with
 |zero=>intro t x y;exact OK.halt _
 |succ d ih=>
  intro t x y;unfold Op.eqGuardIn;refine OK.bind (aU _) λu=>?_
  (with_reducible repeat' (first|assumption|exact OK.pure _|exact OK.halt _|exact aU _|exact aN _|exact pO _ _ _|exact(OK.aP _ _ λ_=>OK.bind (aN _) λ_=>OK.pure _)|exact ih _ _ _|(refine OK.o9 _ _ _ λ_ _=>?_)|(refine OK.uU _ _ _ λ_ _=>?_)|(refine OK.bind ?_ λ_=>?_)|(refine OK.ite (λ_=>?_) λ_=>?_)|split|dsimp only))
theorem qN(emp:Bool):∀(d:Nat) (t:TypeId) (v:Value),OK P S (Instr.checkKey emp d t v):=by
 intro d
 induction d with
 |zero=>intro t x;exact OK.halt _
 |succ d ih=>
  intro t x;unfold Instr.checkKey;refine OK.bind (aU _) λu=>?_
  (with_reducible repeat' (first|assumption|exact OK.pure _|exact OK.halt _|exact aZ _|exact eF _|exact aU _|exact BG _|exact aN _|exact pO _ _ _|exact bH _|exact(OK.aP _ _ λ_=>OK.bind (aN _) λ_=>OK.pure _)|exact ih _ _|(refine OK.o9 _ _ _ λ_ _=>?_)|(refine OK.uU _ _ _ λ_ _=>?_)|(refine OK.bind ?_ λ_=>?_)|(refine OK.ite (λ_=>?_) λ_=>?_)|split|dsimp only))
theorem DF(t:TypeId)(k:Value):∀(es:List MapEntry) (i:Nat),OK P S (Instr.findAsking t k es i):=by
 intro es
 induction es with
 |nil=>intro i;exact OK.pure _
 |cons e es ih=>
  intro i;unfold Instr.findAsking
  (with_reducible repeat' (first|assumption|exact OK.pure _|exact(OK.aP _ _ λ_=>OK.bind (aN _) λ_=>OK.pure _)|exact Jv _ _ _|exact ih _|(refine OK.bind ?_ λ_=>?_)|(refine OK.ite (λ_=>?_) λ_=>?_)|split|dsimp only))
theorem vG(t:TypeId)(k:Value)(es:List MapEntry):OK P S (Instr.findKey t k es):=by
 unfold Instr.findKey
 (with_reducible repeat' (first|assumption|exact OK.pure _|exact aU _|exact(OK.aP _ _ λ_=>OK.bind (aN _) λ_=>OK.pure _)|exact DF _ _ _ _|(refine OK.bind ?_ λ_=>?_)|split|dsimp only))
theorem EL(t:TypeId)(x i:Value)(c:Bool):OK P S (Instr.lookup t x i c):=by
 unfold Instr.lookup
 (with_reducible repeat' (first|assumption|exact OK.pure _|exact aZ _|exact aU _|exact gq _|exact(OK.aP _ _ λ_=>OK.bind (aN _) λ_=>OK.pure _)|exact qN _ _ _ _|exact vG _ _ _|(refine OK.getObj _ (λ_=>?_) (by with_unfolding_all exact λ_ h=>h))|(refine OK.bind ?_ λ_=>?_)|split|dsimp only))
theorem qo(x y:Value):OK P S (Instr.keyThatStays x y):=by
 unfold Instr.keyThatStays
 (with_reducible repeat' (first|assumption|exact OK.pure _|exact OK.choose _|exact(OK.aP _ _ λ_=>OK.bind (aN _) λ_=>OK.pure _)|(refine OK.bind ?_ λ_=>?_)|(refine OK.ite (λ_=>?_) λ_=>?_)|split|dsimp only))
theorem wK(t:TypeId)(m k v:Value):OK P S (Instr.mapUpdate t m k v):=by
 unfold Instr.mapUpdate
 (with_reducible repeat' (first|assumption|exact OK.Hg _ _ _|exact aZ _|exact aU _|exact bH _|exact(OK.aP _ _ λ_=>OK.bind (aN _) λ_=>OK.pure _)|exact qN _ _ _ _|exact vG _ _ _|exact qo _ _|(refine OK.getObj _ (λ_=>?_) (by with_unfolding_all exact λ_ h=>h))|(refine OK.bind ?_ λ_=>?_)|split|dsimp only))
theorem yJ(op:BinOp)(k:IntKind)(x y:Int):OK P S (Op.intArith op k x y):=by
 unfold Op.intArith
 (with_reducible repeat' (first|assumption|exact OK.pure _|exact aZ _|exact(OK.aP _ _ λ_=>OK.bind (aN _) λ_=>OK.pure _)|split|dsimp only))
theorem P6(op:BinOp)(k:IntKind)(x y:Int):OK P S (Op.intDiv op k x y):=by
 unfold Op.intDiv
 (with_reducible repeat' (first|assumption|exact OK.pure _|exact aZ _|exact bH _|exact(OK.aP _ _ λ_=>OK.bind (aN _) λ_=>OK.pure _)|(refine OK.ite (λ_=>?_) λ_=>?_)|split|dsimp only))
theorem Bh(op:BinOp)(k:IntKind)(x y:Int):OK P S (Op.intBits op k x y):=by
 unfold Op.intBits
 (with_reducible repeat' (first|assumption|exact OK.pure _|exact aZ _|exact(OK.aP _ _ λ_=>OK.bind (aN _) λ_=>OK.pure _)|split|dsimp only))
theorem P5(op:BinOp)(x y:Int):OK P S (Op.intCmp op x y):=by
 unfold Op.intCmp
 (with_reducible repeat' (first|assumption|exact OK.pure _|exact aZ _|exact(OK.aP _ _ λ_=>OK.bind (aN _) λ_=>OK.pure _)|split|dsimp only))
theorem Uc(op:BinOp)(k:IntKind)(x:Int)(j:IntKind)(y:Int):OK P S (Op.shift op k x j y):=by
 unfold Op.shift
 (with_reducible repeat' (first|assumption|exact OK.pure _|exact aZ _|exact bH _|exact(OK.aP _ _ λ_=>OK.bind (aN _) λ_=>OK.pure _)|(refine OK.ite (λ_=>?_) λ_=>?_)|split|dsimp only))
theorem um(op:BinOp)(k:FloatKind)(x y:Nat):OK P S (Op.floatArith op k x y):=by
 unfold Op.floatArith
 (with_reducible repeat' (first|assumption|exact OK.pure _|exact OK.choose _|exact aZ _|exact(OK.aP _ _ λ_=>OK.bind (aN _) λ_=>OK.pure _)|(refine OK.bind ?_ λ_=>?_)|split|dsimp only))
theorem yI(op:BinOp)(k:FloatKind)(x y:Nat):OK P S (Op.floatCmp op k x y):=by
 unfold Op.floatCmp
 (with_reducible repeat' (first|assumption|exact OK.pure _|exact aZ _|exact(OK.aP _ _ λ_=>OK.bind (aN _) λ_=>OK.pure _)|split|dsimp only))
theorem qQ(op:BinOp)(x y:ByteArray):OK P S (Op.stringOp op x y):=by
 unfold Op.stringOp
 (with_reducible repeat' (first|assumption|exact OK.pure _|exact aZ _|exact aW _|exact(OK.aP _ _ λ_=>OK.bind (aN _) λ_=>OK.pure _)|(refine OK.ite (λ_=>?_) λ_=>?_)|split|dsimp only))
theorem JF(op:UnOp)(x:Value):OK P S (Op.unary op x):=by
 unfold Op.unary
 (with_reducible repeat' (first|assumption|exact OK.pure _|exact aZ _|exact aW _|exact(OK.aP _ _ λ_=>OK.bind (aN _) λ_=>OK.pure _)|exact yJ _ _ _ _|exact Bh _ _ _ _|split|dsimp only))
theorem wL(a b:Addr):OK P S (Op.twoPlaces a b):=by
 unfold Op.twoPlaces
 (with_reducible repeat' (first|assumption|exact OK.pure _|exact OK.program|exact aW _|exact sF _|exact(OK.aP _ _ λ_=>OK.bind (aN _) λ_=>OK.pure _)|(refine OK.bind ?_ λ_=>?_)|(refine OK.ite (λ_=>?_) λ_=>?_)|split|dsimp only))
theorem L9(k:IntKind)(a b:Addr):OK P S (Op.addrSub k a b):=by
 unfold Op.addrSub
 (with_reducible repeat' (first|assumption|exact OK.pure _|exact(OK.aP _ _ λ_=>OK.bind (aN _) λ_=>OK.pure _)|exact wL _ _|(refine OK.bind ?_ λ_=>?_)|split|dsimp only))
theorem L6(k:BinOp)(a b:Addr):OK P S (Op.addrCmp k a b):=by
 unfold Op.addrCmp
 (with_reducible repeat' (first|assumption|exact OK.pure _|exact aW _|exact(OK.aP _ _ λ_=>OK.bind (aN _) λ_=>OK.pure _)|exact wL _ _|(refine OK.bind ?_ λ_=>?_)|split|dsimp only))
theorem L8(k:IntKind)(a:Addr)(n:Int):OK P S (Op.addrMod k a n):=by
 unfold Op.addrMod;refine OK.shape _ (λs=>?_) λe n=>rfl
 (with_reducible repeat' (first|assumption|exact OK.pure _|exact aW _|exact eF _|exact sF _|exact(OK.aP _ _ λ_=>OK.bind (aN _) λ_=>OK.pure _)|(refine OK.bind ?_ λ_=>?_)|(refine OK.ite (λ_=>?_) λ_=>?_)|split|dsimp only))
theorem nX(p:Program)(d:Nat)(e:TypeId)(off:Nat)(b:Int):cellAtBytes p d e 0 off b=none:=by
 simp[cellAtBytes];intro _ _ a _ h1 h2;exact absurd h1 (Int.not_le.2 h2)
theorem OK.shape'{k:Option (TypeId×Nat)→Sem α}(r:Nat)(h:∀s,OK P S (k s))(h0:∀e n,Sim P S (k (some (e,0))) (k (some (e,n)))):OK P S (Go.shape r>>=k):=Sim.shape r h h0
theorem wM(ats:Array TypeId)(t:TypeId)(args:Array Value):OK P S (Builtin.unsafeAdd_ ats t args):=by
 obtain⟨l⟩:=args;rcases l with _|⟨v,_|⟨u,_|⟨z,l⟩⟩⟩
 ·exact OK.halt _
 ·exact OK.halt _
 ·cases v<;>first|exact OK.halt _|skip
  rename_i ptr;refine OK.bind (t:=asInt u) (oD u) λn=>?_
  (with_reducible repeat' (first|assumption|exact OK.pure _|exact OK.halt _|exact OK.program|exact aW _|exact oD _|exact(OK.aP _ _ λ_=>OK.bind (aN _) λ_=>OK.pure _)|(refine OK.view _ ?_ (by with_unfolding_all exact λ_ _ _ h=>h))|(refine OK.shape' _ (λ_=>?_) λ_ _=>?_)|(refine OK.bind ?_ λ_=>?_)|(refine OK.ite (λ_=>?_) λ_=>?_)|split|dsimp only))
  all_goals
   refine Sim.dead λw=>?_
   first
    |(rename_i heq
      cases heq;simp[Sem.run_bind,nX,unsupported,Sem.run,Fine,Go.program]
      done)
    |(simp[Sem.run_bind,nX,unsupported,Sem.run,Fine,Go.program];done)
 ·exact OK.halt _
theorem Bl(t:TypeId)(x y:Value):OK P S (movedNumber t x y):=by
 unfold movedNumber
 (with_reducible repeat' (first|assumption|exact OK.pure _|exact aW _|exact Jr _ _|exact jY _|exact aU _|exact(OK.aP _ _ λ_=>OK.bind (aN _) λ_=>OK.pure _)|exact wM _ _ _|(refine OK.bind ?_ λ_=>?_)|(refine OK.ite (λ_=>?_) λ_=>?_)|split|dsimp only))
theorem zh(t:TypeId)(x y:Value):OK P S (movedPointer t x y):=by
 unfold movedPointer
 (with_reducible repeat' (first|assumption|exact aW _|exact yL _|exact(OK.aP _ _ λ_=>OK.bind (aN _) λ_=>OK.pure _)|exact wM _ _ _|(refine OK.bind ?_ λ_=>?_)|(refine OK.ite (λ_=>?_) λ_=>?_)|split|dsimp only))
theorem zf(k:FloatKind)(n:Nat)(j:FloatKind):OK P S (Conv.floatToFloat k n j):=by
 unfold Conv.floatToFloat
 (with_reducible repeat' (first|assumption|exact OK.pure _|exact OK.choose _|exact(OK.aP _ _ λ_=>OK.bind (aN _) λ_=>OK.pure _)|(refine OK.bind ?_ λ_=>?_)|(refine OK.ite (λ_=>?_) λ_=>?_)|split|dsimp only))
theorem oG(op:BinOp)(k:FloatKind)(x y:Nat):OK P S (Op.Complex.arith op k x y):=by
 unfold Op.Complex.arith
 (with_reducible repeat' (first|assumption|exact OK.pure _|exact aZ _|exact(OK.aP _ _ λ_=>OK.bind (aN _) λ_=>OK.pure _)|exact um _ _ _ _|(refine OK.bind ?_ λ_=>?_)|split|dsimp only))
theorem Oc(op:BinOp)(k:FloatKind)(x y:Nat):OK P S (Op.Complex.cmp op k x y):=by
 unfold Op.Complex.cmp
 (with_reducible repeat' (first|assumption|exact oC _|exact(OK.aP _ _ λ_=>OK.bind (aN _) λ_=>OK.pure _)|exact yI _ _ _ _|(refine OK.bind ?_ λ_=>?_)|split|dsimp only))
theorem TU(k:FloatKind)(x:Nat)(j:FloatKind):OK P S (Op.Complex.conv k x j):=by
 unfold Op.Complex.conv
 (with_reducible repeat' (first|assumption|exact OK.pure _|exact aZ _|exact(OK.aP _ _ λ_=>OK.bind (aN _) λ_=>OK.pure _)|exact zf _ _ _|(refine OK.bind ?_ λ_=>?_)|(refine OK.ite (λ_=>?_) λ_=>?_)|split|dsimp only))
theorem Gw(x y:Nat):OK P S (Op.Complex.add x y):=oG _ _ _ _
theorem GH(x y:Nat):OK P S (Op.Complex.sub x y):=oG _ _ _ _
theorem Gx(x y:Nat):OK P S (Op.Complex.mul x y):=oG _ _ _ _
theorem ok_cquo(x y:Nat):OK P S (Op.Complex.quo x y):=oG _ _ _ _
theorem MH(a b c d:Nat):OK P S (Op.Complex.product a b c d):=by
 unfold Op.Complex.product
 (with_reducible repeat' (first|assumption|exact OK.pure _|exact(OK.aP _ _ λ_=>OK.bind (aN _) λ_=>OK.pure _)|exact Gw _ _|exact GH _ _|exact Gx _ _|(refine OK.bind ?_ λ_=>?_)|split|dsimp only))
theorem Gz(s a b c d:Nat):OK P S (Op.Complex.corrected s a b c d):=by
 unfold Op.Complex.corrected
 (with_reducible repeat' (first|assumption|exact OK.pure _|exact(OK.aP _ _ λ_=>OK.bind (aN _) λ_=>OK.pure _)|exact Gw _ _|exact GH _ _|exact Gx _ _|(refine OK.bind ?_ λ_=>?_)|split|dsimp only))
theorem JE(a b c d:Nat):OK P S (Op.Complex.quotient a b c d):=by
 unfold Op.Complex.quotient
 (with_reducible repeat' (first|assumption|exact OK.pure _|exact(OK.aP _ _ λ_=>OK.bind (aN _) λ_=>OK.pure _)|exact Oc _ _ _ _|exact Gw _ _|exact GH _ _|exact Gx _ _|exact ok_cquo _ _|exact Gz _ _ _ _ _|(refine OK.bind ?_ λ_=>?_)|(refine OK.ite (λ_=>?_) λ_=>?_)|split|dsimp only))
theorem Gy(op:BinOp)(k:FloatKind)(a b c d:Nat):OK P S (Op.complexOp op k a b c d):=by
 unfold Op.complexOp
 (with_reducible repeat' (first|assumption|exact OK.pure _|exact aZ _|exact(OK.aP _ _ λ_=>OK.bind (aN _) λ_=>OK.pure _)|exact oG _ _ _ _|exact Oc _ _ _ _|exact TU _ _ _|exact MH _ _ _ _|exact JE _ _ _ _|(refine OK.bind ?_ λ_=>?_)|(refine OK.ite (λ_=>?_) λ_=>?_)|split|dsimp only))
theorem A8(op:BinOp)(t:TypeId)(x y:Operand)(a b:Value):OK P S (eqGuard op t x y a b):=by
 unfold eqGuard
 (with_reducible repeat' (first|assumption|exact OK.pure _|exact OK.program|exact aW _|exact(OK.aP _ _ λ_=>OK.bind (aN _) λ_=>OK.pure _)|exact GK _ _ _ _|(refine OK.bind ?_ λ_=>?_)|(refine OK.ite (λ_=>?_) λ_=>?_)|split|dsimp only))
theorem Js(op:BinOp)(t:TypeId)(a b:Value):OK P S (binOp op t a b):=by
 unfold binOp
 (with_reducible repeat' (first|assumption|exact OK.pure _|exact aZ _|exact aW _|exact jY _|exact aU _|exact(OK.aP _ _ λ_=>OK.bind (aN _) λ_=>OK.pure _)|exact Jv _ _ _|exact yJ _ _ _ _|exact P6 _ _ _ _|exact Bh _ _ _ _|exact P5 _ _ _|exact Uc _ _ _ _ _|exact um _ _ _ _|exact yI _ _ _ _|exact qQ _ _ _|exact L9 _ _ _|exact L6 _ _ _|exact L8 _ _ _|exact Bl _ _ _|exact zh _ _ _|exact Gy _ _ _ _ _ _|(refine OK.bind ?_ λ_=>?_)|(refine OK.ite (λ_=>?_) λ_=>?_)|split|dsimp only))
theorem Jz(k:IntKind)(n:Int):OK P S (Conv.intToInt k n):=by
 unfold Conv.intToInt
 (with_reducible repeat' (first|assumption|exact OK.pure _|exact(OK.aP _ _ λ_=>OK.bind (aN _) λ_=>OK.pure _)|split|dsimp only))
theorem DJ(k:FloatKind)(n:Nat)(j:IntKind):OK P S (Conv.floatToInt k n j):=by
 unfold Conv.floatToInt
 (with_reducible repeat' (first|assumption|exact OK.pure _|exact OK.choose _|exact(OK.aP _ _ λ_=>OK.bind (aN _) λ_=>OK.pure _)|(refine OK.bind ?_ λ_=>?_)|(refine OK.ite (λ_=>?_) λ_=>?_)|split|dsimp only))
theorem ok_len(a:Array TypeId)(t:TypeId)(x:Array Value):OK P S (Builtin.len_ a t x):=by
 unfold Builtin.len_
 (with_reducible repeat' (first|assumption|exact OK.pure _|exact aZ _|exact aU _|exact(OK.aP _ _ λ_=>OK.bind (aN _) λ_=>OK.pure _)|(refine OK.getObj _ (λ_=>?_) (by with_unfolding_all exact λ_ h=>h))|(refine OK.bind ?_ λ_=>?_)|split|dsimp only))
theorem ok_max2(x y:Value):OK P S (Builtin.max2 x y):=by
 unfold Builtin.max2
 (with_reducible repeat' (first|assumption|exact OK.pure _|exact OK.choose _|exact aZ _|exact aW _|exact oC _|exact(OK.aP _ _ λ_=>OK.bind (aN _) λ_=>OK.pure _)|exact qQ _ _ _|(refine OK.bind ?_ λ_=>?_)|split|dsimp only))
theorem ok_min2(x y:Value):OK P S (Builtin.min2 x y):=by
 unfold Builtin.min2
 (with_reducible repeat' (first|assumption|exact OK.pure _|exact OK.choose _|exact aZ _|exact aW _|exact oC _|exact(OK.aP _ _ λ_=>OK.bind (aN _) λ_=>OK.pure _)|exact qQ _ _ _|(refine OK.bind ?_ λ_=>?_)|split|dsimp only))
theorem ok_max(a:Array TypeId)(t:TypeId)(x:Array Value):OK P S (Builtin.max_ a t x):=by
 unfold Builtin.max_;split
 ·exact OK.halt _
 ·exact OK.Am _ (λ_ _=>ok_max2 _ _) _ _
theorem ok_min(a:Array TypeId)(t:TypeId)(x:Array Value):OK P S (Builtin.min_ a t x):=by
 unfold Builtin.min_;split
 ·exact OK.halt _
 ·exact OK.Am _ (λ_ _=>ok_min2 _ _) _ _
theorem TV(a:Array TypeId)(t:TypeId)(x:Array Value):OK P S (Builtin.clear_ a t x):=by
 unfold Builtin.clear_
 (with_reducible repeat' (first|assumption|exact OK.pure _|exact OK.Hg _ _ _|exact aZ _|exact aU _|exact gq _|exact nK _ _ _|exact(OK.aP _ _ λ_=>OK.bind (aN _) λ_=>OK.pure _)|(refine OK.getObj _ (λ_=>?_) (by with_unfolding_all exact λ_ h=>h))|(refine OK.bind ?_ λ_=>?_)|split|dsimp only))
end
end Lift
end
section
namespace Lift
set_option maxHeartbeats 1000000
set_option maxRecDepth 10000
open Go Go.Conc
section
variable [Keep] {P:Program} {S:Nat→Prop} {α β:Type}
theorem Gq(size sLen n:Nat)(base:Option Addr)(x:Value)(w:World):∃b,(Builtin.mayShare size sLen n base x).run P w=.ok b w:=by
 have hc:∀(a:Addr) (k:Nat),∃b,(Builtin.holdsCells a k).run P w=.ok b w:=λa k=>by
  unfold Builtin.holdsCells;cases hs:w.shape? a.block with
  |none=>exact⟨false,by simp[run_shape,hs]⟩
  |some y=>exact⟨a.spot.isNone&&decide (a.off+k≤y.2),by simp[run_shape,hs]⟩
 unfold Builtin.mayShare;cases base with
 |none=>
  cases x<;>first|exact⟨_,by simp;rfl⟩|skip
  rename_i b _ _;cases b with
  |none=>exact⟨_,by simp;rfl⟩
  |some b=>
   obtain⟨r,hr⟩:=hc b (n * size);exact⟨!r,by simp[hr]⟩
 |some a=>
  obtain⟨r1,h1⟩:=hc a (sLen * size);cases r1<;>cases hf:w.frozen? (a.add (sLen / 2 * size))<;>simp only[Sem.run_bind,h1,Result.andThen_ok,run_frozen,hf,Sem.run_pure,Bool.and_true,Bool.and_false,Bool.not_true,Bool.not_false,if_true,Bool.false_eq_true,if_false,pure_bind]
  all_goals first|exact⟨_,rfl⟩|skip
  cases x<;>first|exact⟨_,rfl⟩|skip
  rename_i b _ _;cases b with
  |none=>exact⟨_,rfl⟩
  |some b=>
   obtain⟨r,hr⟩:=hc b (n * size);exact⟨_,by simp[hr];rfl⟩
theorem Ub(size sLen n:Nat)(base:Option Addr)(x:Value)(k:Bool→Sem α)(hk:∀b w,¬Fine ((k b).run P w)):OK P S (Builtin.mayShare size sLen n base x>>=k):=OK.dead (OM (λw y w' h=>by
 obtain⟨b,hb⟩:=Gq (P:=P) size sLen n base x w;rw[hb]at h;cases h) hk)
theorem TY(x:Value):OK P S (Builtin.lenOf x):=by
 unfold Builtin.lenOf
 (with_reducible repeat' (first|assumption|exact OK.pure _|exact aZ _|exact(OK.aP _ _ λ_=>OK.bind (aN _) λ_=>OK.pure _)|split|dsimp only))
theorem DI(a b:Nat)(x:Value):OK P S (Builtin.firstCells a b x):=by
 unfold Builtin.firstCells
 (with_reducible repeat' (first|assumption|exact OK.pure _|exact aZ _|exact pJ _ _|exact(OK.aP _ _ λ_=>OK.bind (aN _) λ_=>OK.pure _)|split|dsimp only))
set_option maxHeartbeats 16000000 in
theorem PY(a:Array TypeId)(t:TypeId)(x:Array Value):OK P S (Builtin.append_ a t x):=by
 unfold Builtin.append_
 (with_reducible repeat' (first|assumption|exact OK.pure _|exact OK.choose _|exact aZ _|exact AZ _|exact eF _|exact aU _|exact gq _|exact aN _|exact nK _ _ _|exact oH _ _|exact bH _|exact oD _|exact(OK.aP _ _ λ_=>OK.bind (aN _) λ_=>OK.pure _)|exact TY _|exact DI _ _ _|(refine Ub _ _ _ _ _ _ (λb w=>by cases b<;>simp[Fine,unsupported,Sem.run_bind,Sem.run,Go.mark]))|(refine OK.bind ?_ λ_=>?_)|(refine OK.ite (λ_=>?_) λ_=>?_)|split|dsimp only))
theorem ok_cap(a:Array TypeId)(t:TypeId)(x:Array Value):OK P S (Builtin.cap_ a t x):=by
 unfold Builtin.cap_
 (with_reducible repeat' (first|assumption|exact OK.pure _|exact aZ _|exact aU _|exact(OK.aP _ _ λ_=>OK.bind (aN _) λ_=>OK.pure _)|(refine OK.getObj _ (λ_=>?_) (by with_unfolding_all exact λ_ h=>h))|(refine OK.bind ?_ λ_=>?_)|split|dsimp only))
end
end Lift
end
section
namespace Lift
set_option maxHeartbeats 1000000
set_option maxRecDepth 10000
open Go Go.Conc
section
variable [Keep] {P:Program} {S:Nat→Prop} {α β:Type}
theorem OK.setIter(r:Nat)(m:Option Nat)(a:Nat)(s:Array Nat)(c:Nat):OK P S (Go.setObj r (.mapIter m a s c)):=Sim.setObj _ _ True.intro
theorem OK.MX(r:Nat)(s:ByteArray)(c:Nat):OK P S (Go.setObj r (.stringIter s c)):=Sim.setObj _ _ True.intro
theorem TW(x:Value):OK P S (Instr.entry x):=by
 unfold Instr.entry
 (with_reducible repeat' (first
  |assumption
  |exact OK.pure _
  |exact OK.halt _|exact aZ _|exact aW _
  |(refine OK.getObj _ (λ_=>?_) (by with_unfolding_all exact λ_ h=>h))
  |(refine OK.bind ?_ λ_=>?_)
  |(refine OK.ite (λ_=>?_) λ_=>?_)
  |split
  |dsimp only))
theorem ok_next(x:Value)(b:Bool)(t:TypeId):OK P S (Instr.next x b t):=by
 unfold Instr.next
 (with_reducible repeat' (first
  |assumption
  |exact OK.pure _
  |exact OK.halt _|exact aZ _|exact aW _
  |exact OK.choose _
  |exact OK.setIter _ _ _ _ _|exact OK.MX _ _ _
  |(refine OK.getObj _ (λ_=>?_) (by with_unfolding_all exact λ_ h=>h))
  |(refine OK.bind ?_ λ_=>?_)
  |(refine OK.ite (λ_=>?_) λ_=>?_)
  |split
  |dsimp only))
theorem JB(t:TypeId)(m k:Value):OK P S (Instr.mapEntry t m k):=by
 unfold Instr.mapEntry
 (with_reducible repeat' (first
  |assumption
  |exact OK.pure _
  |exact OK.halt _|exact aZ _|exact aW _
  |exact aU _|exact qN _ _ _ _|exact vG _ _ _|exact qo _ _|exact gq _|exact bH _
  |exact OK.Hg _ _ _
  |(refine OK.getObj _ (λ_=>?_) (by with_unfolding_all exact λ_ h=>h))
  |(refine OK.bind ?_ λ_=>?_)
  |(refine OK.ite (λ_=>?_) λ_=>?_)
  |split
  |dsimp only))
theorem DC(t:TypeId)(m k v:Value):OK P S (Instr.entryStore t m k v):=by
 unfold Instr.entryStore
 (with_reducible repeat' (first
  |assumption
  |exact OK.pure _
  |exact OK.halt _|exact aZ _|exact aW _
  |exact oD _
  |exact OK.Hg _ _ _
  |(refine OK.getObj _ (λ_=>?_) (by with_unfolding_all exact λ_ h=>h))
  |(refine OK.bind ?_ λ_=>?_)
  |(refine OK.ite (λ_=>?_) λ_=>?_)
  |split
  |dsimp only))
theorem DK(s:ByteArray):OK P S (Go.newObj (.stringIter s 0)>>=λr=>(Pure.pure (Value.pointer (some ⟨r,0,none⟩)):Sem Value)):=OK.bind (OK.newObj _ (show Good P (.stringIter s 0)from True.intro)) λ_=>OK.pure _
theorem Bq(m:Option Nat)(c:Nat):OK P S (Go.newObj (.mapIter m c #[] c)>>=λr=>(Pure.pure (Value.pointer (some ⟨r,0,none⟩)):Sem Value)):=OK.bind (OK.newObj _ (show Good P (.mapIter m c #[] c)from True.intro)) λ_=>OK.pure _
theorem Ua(t:TypeId)(x:Value):OK P S (Instr.range t x):=by
 unfold Instr.range;refine OK.bind (aU _) λu=>?_;split
 ·exact DK _
 ·exact Bq _ _
 ·show OK P S (getObj _>>=_)
  refine OK.getObj _ (λo=>?_) (by with_unfolding_all exact λ_ h=>h);cases o<;>first|exact OK.halt _|exact Bq _ _
 ·exact OK.halt _
end
end Lift
end
