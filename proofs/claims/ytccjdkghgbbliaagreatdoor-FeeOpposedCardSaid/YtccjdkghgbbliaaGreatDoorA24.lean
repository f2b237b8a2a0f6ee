/- Workers and their starter beside old leavers: where each stands; what holds of the machine at every moment. Nothing of the program stands here. -/
import Derived.Conc.CrowdRun
import Derived.Test.YtccjdkghgbbliaaGreatDoorA23
set_option linter.all false
namespace Go.Proofs.YtccjdkghgbbliaaGreatDoor
section
namespace Crew
set_option maxHeartbeats 1000000
set_option maxRecDepth 10000
open Go Go.Conc Go.ConcN
open Go.ConcR (KK wgBlock WgAt stA smA rd wr mk Payload DC0 Bk again_blocked)
open Go.Proofs.YtccjdkghgbbliaaGreatDoor.Lift (blk Good Shn)
variable [Payload]
abbrev Own:=Nat→Prop
section
variable (X:Cf) (val:Nat→Value)
def Ih(c:Nat):Goroutine→World→Own→Prop:=λg w _=>AtR0 X.P X.ty X.Wg X.C X.n 0 (c+1) (val c) g w
inductive WS (c:Nat):Nat→Nat→Nat→Goroutine→World→Own→Prop
 |work {m:Nat} {g:Goroutine} {w:World} {O:Own}:GO X false c (Ih X val c) m g w O→WS c 7 m 0 g w O
 |lib {s m d:Nat} {g:Goroutine} {w:World} {O:Own}:s≤6→WSit X.P X.ty X.Wg X.C X.n (λ_ _=>False) (λ_ _=>False) 0 (c+1) (val c) s m d g w→WS c s m d g w O
section
variable (Fin:Goroutine→World→Own→Prop)
def AtAcq(g:Goroutine)(w:World)(O:Own):Prop:=g.status=.running∧∃g',stepG X.P true g w=.go g' w #[mk (.acquire (stA X.Wg))]∧Fin g' w O
def AtKe(g:Goroutine)(w:World)(O:Own):Prop:=g.status=.running∧∃g',stepG X.P true g w=.go g' w #[mk .enable]∧∃m,(GO X true X.n) (AtAcq X Fin) m g' w O
def AtW4(g:Goroutine)(w:World)(O:Own):Prop:=g.status=.running∧(WgAt X.ty X.Wg w 0 0→∃g',stepG X.P true g w=.go g' w #[rd (stA X.Wg)]∧∃m,(GO X true X.n) (AtKe X Fin) m g' w O)
def AtW3(g:Goroutine)(w:World)(O:Own):Prop:=g.status=.running∧g.offers=none∧
 ((∃st,WgAt X.ty X.Wg w st 0)→stepG X.P true g w=.go { g with status:=.blocked } w #[])∧
 (WgAt X.ty X.Wg w 0 1→∃g',stepG X.P true g w=.go g' (w.setCell (smA X.Wg) (.int .u32 0)) (semEvents (smA X.Wg))∧∃m,(GO X true X.n) (AtW4 X Fin) m g' (w.setCell (smA X.Wg) (.int .u32 0)) O)
variable (Anch:Goroutine→World→Own→Prop)
def AtW2(vs:Nat)(g:Goroutine)(w:World)(O:Own):Prop:=g.status=.running∧∀v:Nat,v<2147483648→WgAt X.ty X.Wg w (v * KK) 0→
 (v=vs→∃g',stepG X.P true g w=.go g' (w.setCell (stA X.Wg) (.int .u64 (v * KK+1))) #[rd (stA X.Wg),wr (stA X.Wg)]∧∃m,(GO X true X.n) (AtW3 X Fin) m g' (w.setCell (stA X.Wg) (.int .u64 (v * KK+1))) O)∧
 (v≠vs→∃g',stepG X.P true g w=.go g' w #[rd (stA X.Wg)]∧∃m,(GO X true X.n) Anch m g' w O)
def AtW1(g:Goroutine)(w:World)(O:Own):Prop:=g.status=.running∧∀v:Nat,v<2147483648→WgAt X.ty X.Wg w (v * KK) 0→∃g',stepG X.P true g w=.go g' w #[rd (stA X.Wg)]∧
 (v=0→∃m,(GO X true X.n) (AtKe X Fin) m g' w O)∧(v≠0→∃m,(GO X true X.n) (AtW2 X Fin Anch v) m g' w O)
def AtKd(g:Goroutine)(w:World)(O:Own):Prop:=g.status=.running∧∃g',stepG X.P true g w=.go g' w #[mk .disable]∧∃m,(GO X true X.n) Anch m g' w O
end
section
variable (j:Nat) (Next:Goroutine→World→Prop)
def AtGo(g:Goroutine)(w:World)(O:Own):Prop:=g.status=.running∧∃g' child,stepG X.P true g w=.spawn g' child w #[]∧child.status=.running∧(w.cell? ⟨X.C,j,none⟩=X.ini j→∃m,GO X false j (Ih X val j) m child w O)∧Next g' w
def AtKeS(g:Goroutine)(w:World)(O:Own):Prop:=g.status=.running∧∃g',stepG X.P true g w=.go g' w #[mk .enable]∧∃m,(GO X true X.n) (AtGo X val j Next) m g' w O
def AtA1(g:Goroutine)(w:World)(O:Own):Prop:=g.status=.running∧∀v:Nat,v<2147483647→WgAt X.ty X.Wg w (v * KK) 0→
 ∃g',stepG X.P true g w=.go g' (w.setCell (stA X.Wg) (.int .u64 ((v+1) * KK))) #[rd (stA X.Wg),wr (stA X.Wg)]∧∃m,(GO X true X.n) (AtKeS X val j Next) m g' (w.setCell (stA X.Wg) (.int .u64 ((v+1) * KK))) O
def AtKdS(g:Goroutine)(w:World)(O:Own):Prop:=g.status=.running∧∃g',stepG X.P true g w=.go g' w #[mk .disable]∧∃m,(GO X true X.n) (AtA1 X val j Next) m g' w O
end
def Nobody:Own:=λ_=>False
def Spawns(nw:Nat)(Anch:Goroutine→World→Own→Prop):Nat→Goroutine→World→Own→Prop
 |0,g,w,O=>∃m,(GO X true X.n) (AtKd X Anch) m g w O
 |r+1,g,w,O=>∃m,(GO X true X.n) (AtKdS X val (nw-(r+1)) (λg w=>Spawns nw Anch r g w Nobody)) m g w O
section
variable (nw:Nat) (Fin Anch:Goroutine→World→Own→Prop)
inductive CS:CTag→Nat→Nat→Nat→Goroutine→World→Own→Prop
 |skd {r m:Nat} {g:Goroutine} {w:World} {O:Own}:r<nw→(GO X true X.n) (AtKdS X val (nw-(r+1)) ((λg w=>Spawns X val nw Anch r g w Nobody))) m g w O→CS (.sp r 5) (nw-(r+1)) m 0 g w O
 |sa1 {r m:Nat} {g:Goroutine} {w:World} {O:Own}:r<nw→(GO X true X.n) (AtA1 X val (nw-(r+1)) ((λg w=>Spawns X val nw Anch r g w Nobody))) m g w O→CS (.sp r 4) (nw-(r+1)) m 1 g w O
 |ske {r m:Nat} {g:Goroutine} {w:World} {O:Own}:r<nw→(GO X true X.n) (AtKeS X val (nw-(r+1)) ((λg w=>Spawns X val nw Anch r g w Nobody))) m g w O→CS (.sp r 3) (nw-(r+1)) m 1 g w O
 |sgo {r m:Nat} {g:Goroutine} {w:World} {O:Own}:r<nw→(GO X true X.n) (AtGo X val (nw-(r+1)) ((λg w=>Spawns X val nw Anch r g w Nobody))) m g w O→CS (.sp r 2) (nw-(r+1)) m 0 g w O
 |kd {m:Nat} {g:Goroutine} {w:World} {O:Own}:(GO X true X.n) (AtKd X Anch) m g w O→CS .kd nw m 0 g w O
 |anch {m:Nat} {g:Goroutine} {w:World} {O:Own}:(GO X true X.n) Anch m g w O→CS .anch nw m 1 g w O
 |w1 {m:Nat} {g:Goroutine} {w:World} {O:Own}:(GO X true X.n) (AtW1 X Fin Anch) m g w O→CS .w1 nw m 1 g w O
 |w2 {vs m:Nat} {g:Goroutine} {w:World} {O:Own}:(GO X true X.n) (AtW2 X Fin Anch vs) m g w O→CS (.w2 vs) nw m 1 g w O
 |w3 {m:Nat} {g:Goroutine} {w:World} {O:Own}:(GO X true X.n) (AtW3 X Fin) m g w O→CS .w3 nw (m+1) 1 g w O
 |blk {g:Goroutine} {w:World} {O:Own}:(∀w₁,dh X X.n O w w₁→AtW3 X Fin g w₁ O)→CS .blk nw 0 1 { g with status:=.blocked } w O
 |w4 {m:Nat} {g:Goroutine} {w:World} {O:Own}:(GO X true X.n) (AtW4 X Fin) m g w O→CS .w4 nw m 1 g w O
 |ke {m:Nat} {g:Goroutine} {w:World} {O:Own}:(GO X true X.n) (AtKe X Fin) m g w O→CS .ke nw m 1 g w O
 |acq {m:Nat} {g:Goroutine} {w:World} {O:Own}:(GO X true X.n) (AtAcq X Fin) m g w O→CS .acq nw m 0 g w O
end
end
section
variable {X:Cf} {val:Nat→Value} {c s m d j f nw:Nat} {g a:Goroutine} {w w₁ w':World} {O:Own} {tag:CTag} {Fin Anch:Goroutine→World→Own→Prop}
theorem dh.rw(h:dh X c O w w₁):RW X.ty X.Wg X.C X.n 0 (c+1-1) w w₁:=⟨λb hb=>by omega,h.live,h.pay,by simpa using h.cell⟩
theorem WS.rely(h:WS X val c s m d g w O)(hr:dh X c O w w₁):WS X val c s m d g w₁ O:=by
 cases h with
 |work h=>exact .work (h.rely hr)
 |lib hs h=>exact .lib hs (h.rely hr.rw)
theorem WS.status(h:WS X val c s m d g w O):g.status=.running∨g.status=.finished:=by
 cases h with
 |work h=>exact .inl (GO.running (λ_ _ _ x=>x.1) h)
 |lib _ h=>exact h.status
theorem WS.woken(h:WS X val c s m d g w O)(a a':Goroutine)(w':World):woken X.P a a' w' g=g:=by
 unfold Go.Conc.woken;split
 ·exact again_running _ h.status
 ·rfl
theorem WS.running_of(h:WS X val c s m d g w O)(hs:s≠1):g.status=.running:=by
 cases h with
 |work h=>exact GO.running (λ_ _ _ x=>x.1) h
 |lib _ h=>exact h.running_of hs
theorem WS.quits(h:WS X val c s m d g w O)(hs:s=1):QuitsD X.P m d g:=by
 cases h with
 |work h=>cases hs
 |lib _ h=>exact h.quits hs
theorem CS.rely(h:CS X val nw Fin Anch tag j f d a w O)(hr:dh X X.n O w w₁):CS X val nw Fin Anch tag j f d a w₁ O:=by
 cases h with
 |skd hr' h=>exact .skd hr' (h.rely hr)
 |sa1 hr' h=>exact .sa1 hr' (h.rely hr)
 |ske hr' h=>exact .ske hr' (h.rely hr)
 |sgo hr' h=>exact .sgo hr' (h.rely hr)
 |kd h=>exact .kd (h.rely hr)
 |anch h=>exact .anch (h.rely hr)
 |w1 h=>exact .w1 (h.rely hr)
 |w2 h=>exact .w2 (h.rely hr)
 |w3 h=>exact .w3 (h.rely hr)
 |blk h=>exact .blk λw₂ h₂=>h w₂ (hr.trans h₂)
 |w4 h=>exact .w4 (h.rely hr)
 |ke h=>exact .ke (h.rely hr)
 |acq h=>exact .acq (h.rely hr)
theorem CS.status(hAr:∀g w O,Anch g w O→g.status=.running)(h:CS X val nw Fin Anch tag j f d a w O):(a.status=.running∧tag≠.blk)∨(a.status=.blocked∧tag=.blk):=by
 cases h with
 |blk _=>exact .inr ⟨rfl,rfl⟩
 |skd _ h=>exact .inl ⟨GO.running (λ_ _ _ x=>x.1) h,by simp⟩
 |sa1 _ h=>exact .inl ⟨GO.running (λ_ _ _ x=>x.1) h,by simp⟩
 |ske _ h=>exact .inl ⟨GO.running (λ_ _ _ x=>x.1) h,by simp⟩
 |sgo _ h=>exact .inl ⟨GO.running (λ_ _ _ x=>x.1) h,by simp⟩
 |kd h=>exact .inl ⟨GO.running (λ_ _ _ x=>x.1) h,by simp⟩
 |anch h=>exact .inl ⟨GO.running hAr h,by simp⟩
 |w1 h=>exact .inl ⟨GO.running (λ_ _ _ x=>x.1) h,by simp⟩
 |w2 h=>exact .inl ⟨GO.running (λ_ _ _ x=>x.1) h,by simp⟩
 |w3 h=>exact .inl ⟨GO.running (λ_ _ _ x=>x.1) h,by simp⟩
 |w4 h=>exact .inl ⟨GO.running (λ_ _ _ x=>x.1) h,by simp⟩
 |ke h=>exact .inl ⟨GO.running (λ_ _ _ x=>x.1) h,by simp⟩
 |acq h=>exact .inl ⟨GO.running (λ_ _ _ x=>x.1) h,by simp⟩
theorem CS.wokenBy(hAr:∀g w O,Anch g w O→g.status=.running)(h:CS X val nw Fin Anch tag j f d a w O)(hr:dh X X.n O w w')(g g':Goroutine) :
  ∃tag' f',CS X val nw Fin Anch tag' j f' d (woken X.P g g' w' a) w' O∧f'≤f+1∧(tag'=tag∨(tag=.blk∧tag'=.w3))∧(mayWake X.P g=true→g'.status=.running→tag'≠.blk):=by
 have h':=h.rely hr;unfold Go.Conc.woken;split
 ·rcases h'.status hAr with⟨hs,hne⟩|⟨_,rfl⟩
  ·exact⟨tag,f,by rw[again_running _ (.inl hs)];exact h',by omega,.inl rfl,λ_ _=>hne⟩
  ·cases h' with
   |blk hb=>
    rename_i g0;have h3:=hb w' (dh.refl w');exact⟨.w3,0+1,by rw[again_blocked h3.1 h3.2.1];exact .w3 (GO.stop hb),by omega,.inr ⟨rfl,rfl⟩,λ_ _=>by simp⟩
 ·rename_i hc;exact⟨tag,f,h',by omega,.inl rfl,λh1 h2=>absurd (by simp[h1,h2]) hc⟩
theorem CS.bound(h:CS X val nw Fin Anch tag j f d a w O):j+pend tag≤nw:=by
 cases h<;>simp only[pend]<;>(try simp)<;>omega
end
structure PA (X:Cf) (val:Nat→Value) (nw m0 T0:Nat) (w0:World) (Fin Anch:Goroutine→World→Own→Prop) (tag:CTag) (j f0 d0:Nat) (a:Goroutine) (gs:Array Goroutine) (w:World) (t:Trace) (D:Nat→WD) (Ow:Nat→Own) (st sm:Int):Prop where
 m0p:0<m0
 ha:gs[0]?=some a
 cs:CS X val nw Fin Anch tag j f0 d0 a w (Ow 0)
 size:gs.size=m0+j
 ws:∀i g,gs[i+1]?=some g→WS X val (i+1-m0) (D i).stage (D i).fuel (D i).deaf g w (Ow (i+1))
 old:∀i,i+1<m0→(D i).stage=1
 dw:∀i,i+1<m0+j→Deaf t (i+1)=(D i).deaf
 dd:Deaf t 0=d0
 above:∀i,m0+j≤i→Deaf t i=0
 rel:∀i,Wk m0 (m0+j) (i+1)→(D i).stage≤6→(∃r,T0≤r∧RelBy (stA X.Wg) t (i+1) r)∧Has X.C (i+1-m0) (val (i+1-m0)) w
 nr:NR X T0 t
 len:T0≤t.size
 dom:Dom X w.heap.size Ow
 ow:∀g b,Ow g b→g=0∨Wk m0 (m0+j) g
 ti:TI X m0 (m0+j) w.heap.size Ow t
 B:X.B≤w.heap.size
 pay:PayAt X.C X.n w
 good:Gd X.P w
 low:∀b,b<X.B→b≠X.C→b≠X.Wg→w.heap[b]?=w0.heap[b]?
 rest:∀i,j≤i→w.cell? ⟨X.C,i,none⟩=X.ini i
 env:w.os=w0.os∧w.output=w0.output
 UG:WgAt X.ty X.Wg w st sm
 mode:ConcN.Mode (m0+j-1) D tag st sm
structure Turn (X:Cf) (c:Nat) (O:Own) (w w':World):Prop where
 size:w.heap.size≤w'.heap.size
 other:∀b,b<w.heap.size→¬O b→b≠X.C→b≠X.Wg→w'.heap[b]?=w.heap[b]?
 pay:PayAt X.C X.n w→PayAt X.C X.n w'
 cells:∀i,i≠c→w'.cell? ⟨X.C,i,none⟩=w.cell? ⟨X.C,i,none⟩
 good:PayAt X.C X.n w→Gd X.P w→Gd X.P w'
 env:w'.os=w.os∧w'.output=w.output
section
variable {X:Cf} {c c':Nat} {O O₂:Own} {w w':World} {st sm:Int} {main:Bool} {es:Array Event}
theorem Turn.of_do(h:DO X main c O w w' es):Turn X c O w w':=⟨h.size,λb h1 h2 h3 _=>h.other b h1 h2 h3,h.pay,h.cells,h.good,h.env⟩
theorem Turn.of_wg(h:Aside X.Wg w w')(hw:WgAt X.ty X.Wg w' st sm):Turn X c O w w':=
 ⟨Nat.le_of_eq h.size.symm,λb _ _ _ hb=>h.block b hb,λ⟨cs,h1,h2⟩=>⟨cs,(h.block X.C X.ne).trans h1,h2⟩,λi _=>cell_of_block (h.block X.C X.ne) i,λ_ hg b o hb=>by
  by_cases e:b=X.Wg
  ·subst e;rw[hw]at hb;cases hb;trivial
  ·exact hg b o ((h.block b e).symm.trans hb),⟨h.os,h.output⟩⟩
theorem Turn.rely(h:Turn X c O w w')(hl:WgLive X.ty X.Wg w')(hc:c'≠c)(hB:X.B≤w.heap.size)(hO:∀b,O b→X.B≤b)(hO₂:∀b,O₂ b→b<w.heap.size∧¬O b∧X.B≤b):dh X c' O₂ w w':=by
 have hW:=X.hW;have hC:=X.hC;refine⟨h.size,λb h1 h2 h3=>h.other b (by omega) (λhx=>by have:=hO b hx;omega) h2 h3,λb hb=>?_,h.pay,h.cells c' hc,λ_=>hl⟩;obtain⟨h1,h2,h3⟩:=hO₂ b hb;exact h.other b h1 h2 (by omega) (by omega)
end
end Crew
end
section
namespace Crew
set_option maxHeartbeats 1000000
set_option maxRecDepth 10000
open Go Go.Conc Go.ConcN
open Go.ConcR (KK wgBlock WgAt stA smA rd wr mk Payload DC0 Bk again_blocked bk_of_mute ofEvent_loc_mark ofEvent_cell)
open Go.Proofs.YtccjdkghgbbliaaGreatDoor.Lift (blk Good Shn map_set_get map_set_at map_set_other ofEvents_by mute_quiet set_get set_at set_other)
variable [Payload]
def mu(nw m0:Nat)(tag:CTag)(j:Nat)(D:Nat→WD)(f0:Nat):Nat×Nat:=(phi nw (Vc (m0+j-1) D) tag+Ssum (m0+j-1) D,f0+2 * Fsum (m0+j-1) D)
def mY(X:Cf)(val:Nat→Value)(nw m0 T0:Nat)(w0:World)(Fin Anch:Goroutine→World→Own→Prop)(μ:Nat×Nat)(r:Stepped×Array MemOp)(t:Trace):Prop:=
 ∃(gs':Array Goroutine) (w':World) (sl':Option (Nat×Nat)) (ops:Array MemOp) (tag':CTag) (j' f' d':Nat) (a':Goroutine) (D':Nat→WD) (Ow':Nat→Own) (st' sm':Int),
  r=(.next (crowd gs' w' sl'),ops)∧Lt2 (mu nw m0 tag' j' D' f') μ∧PA X val nw m0 T0 w0 Fin Anch tag' j' f' d' a' gs' w' (t++ops) D' Ow' st' sm'
section
variable {X:Cf} {val:Nat→Value} {nw m0 T0 j f0 d0:Nat} {w0 w w':World} {Fin Anch:Goroutine→World→Own→Prop} {tag:CTag} {a:Goroutine} {gs:Array Goroutine} {t:Trace} {D:Nat→WD} {Ow:Nat→Own} {st sm:Int} {sl:Option (Nat×Nat)}
theorem PA.at(H:PA X val nw m0 T0 w0 Fin Anch tag j f0 d0 a gs w t D Ow st sm)(d:Nat):PA X val nw m0 T0 w0 Fin Anch tag j f0 d0 a gs (w.at d) t D Ow st sm:=
 { H with cs:=H.cs.rely (dh.at w d),ws:=λi g hg=>(H.ws i g hg).rely (dh.at w d) }
omit [Payload]in
theorem J6{m0:Nat}{D:Nat→WD}(hm:0<m0)(hold:∀i,i+1<m0→(D i).stage=1):∀j,Vc (m0+j-1) D≤j:=by
 have base:Vc (m0-1) D=0:=by
  have:∀k,k≤m0-1→Vc k D=0:=by
   intro k
   induction k with
   |zero=>intro _;rfl
   |succ k ih=>
    intro hk;have h1:=ih (by omega);simp only[Vc,sumTo]at h1 ⊢;rw[h1];simp[cnt,hold k (by omega)]
  exact this _ (ak _)
 intro j
 induction j with
 |zero=>simpa using Nat.le_of_eq base
 |succ j ih=>
  have e:m0+(j+1)-1=(m0+j-1)+1:=by omega
  rw[e];simp only[Vc,sumTo]at ih ⊢;have:cnt (D (m0+j-1))≤1:=by simp only[cnt];split<;>omega
  omega
theorem PA.domWk(H:PA X val nw m0 T0 w0 Fin Anch tag j f0 d0 a gs w t D Ow st sm){g h:Nat}(hne:h≠g):∀b,Ow h b→b<w.heap.size∧¬Ow g b∧X.B≤b:=
 λb hb=>⟨H.dom.lt h b hb,λhg=>hne (H.dom.one h g b hb hg),H.dom.low h b hb⟩
theorem PA.kQ(H:PA X val nw m0 T0 w0 Fin Anch tag j f0 d0 a gs w t D Ow st sm){i:Nat}{g:Goroutine}(h:gs[i]?=some g):i<m0+j:=by
 have:=(Array.getElem?_eq_some_iff.1 h).1;rw[H.size]at this;exact this
theorem JJ{C n:Nat}{w:World}(h:PayAt C n w):w.cell? ⟨C,n,none⟩=none:=by
 obtain⟨cs,h1,h2⟩:=h;simp[World.cell?,h1,h2]
theorem workerStep(hnw:nw≤X.n)(hAr:∀g w O,Anch g w O→g.status=.running)(H:PA X val nw m0 T0 w0 Fin Anch tag j f0 d0 a gs w t D Ow st sm)
  {i:Nat} (hwk:Wk m0 (m0+j) (i+1)) {g g':Goroutine} {es:Array Event} {s' m' dd':Nat} {O':Own} {st' sm':Int} (hg:gs[i+1]?=some g) (hgo:stepG X.P false g w=.go g' w' es)
  (hT:Turn X (i+1-m0) (Ow (i+1)) w w') (hO:∀b,O' b→Ow (i+1) b∨(w.heap.size≤b∧b<w'.heap.size)) (hs':WS X val (i+1-m0) s' m' dd' g' w' O')
  (hlow:∀e∈es,(MemAct.ofEvent e).low w'.heap.size) (Ti:∀e∈es,∀x,(MemAct.ofEvent e).touch?=some x→Tch X false (i+1-m0) (Ow (i+1)) w.heap.size x) (hnr:∀e∈es,e.loc≠.mark (.release (stA X.Wg)))
  (hdeaf:deafBehind (D i).deaf es=dd') (hrel:s'≤6→∃r,T0≤r∧RelBy (stA X.Wg) (t++MemOp.ofEvents (i+1) g.frame.fn g.frame.place es) (i+1) r) (hhas:s'≤6→Has X.C (i+1-m0) (val (i+1-m0)) w')
  (hwg:WgAt X.ty X.Wg w' st' sm') (hmode:∀tag',(tag'=tag∨(tag=.blk∧tag'=.w3))→(mayWake X.P g=true→g'.status=.running→tag'≠.blk)→ConcN.Mode (m0+j-1) (upd D i ⟨s',m',dd'⟩) tag' st' sm')
  (hlt:(s'<(D i).stage∧cnt ⟨s',m',dd'⟩≤cnt (D i))∨(s'=(D i).stage∧m'+1=(D i).fuel)) :
  mY X val nw m0 T0 w0 Fin Anch (mu nw m0 tag j D f0) (runT X.P (crowd gs w sl) (i+1)) t:=by
 have hb:=H.cs.bound;have hm0:=H.m0p;obtain⟨hw1,hw2⟩:=hwk;have hrun:=runT_crowd_go (P:=X.P) (sl:=sl) (i:=i+1) hg (by simpa using hgo);have hty:∀op∈MemOp.ofEvents (i+1) g.frame.fn g.frame.place es,op.g=i+1:=ofEvents_by;have hre:∀{c' h:Nat},c'≠i+1-m0→h≠i+1→dh X c' (Ow h) w w':=λhc hh=>hT.rely ⟨_,_,hwg⟩ hc H.B (H.dom.low (i+1)) (H.domWk hh);obtain⟨tag',f',hcs',hf',htag,hwake⟩:=H.cs.wokenBy hAr (hre (h:=0) (by omega) (by omega)) g g';have e1:=sumTo_upd D (⟨s',m',dd'⟩:WD) cnt (show i<m0+j-1 by omega);have e2:=sumTo_upd D (⟨s',m',dd'⟩:WD) WD.stage (show i<m0+j-1 by omega);have e3:=sumTo_upd D (⟨s',m',dd'⟩:WD) WD.fuel (show i<m0+j-1 by omega);have hOb:∀b,O' b→X.B≤b:=λb hb=>by
  rcases hO b hb with h|h
  ·exact H.dom.low _ _ h
  ·have:=H.B;omega
 refine⟨_,w',sl,_,tag',j,f',d0,woken X.P g g' w' a,upd D i ⟨s',m',dd'⟩,upd Ow (i+1) O',st',sm',hrun,?_,?_⟩
 ·simp only[mu];rw[phi_retag nw _ htag];simp only[Vc,Ssum,Fsum]at *;rcases hlt with⟨h1,h2⟩|⟨h1,h2⟩
  ·refine Prod.Lex.left _ _ ?_;have:=phi_mono nw (v':=sumTo (m0+j-1) λa=>cnt (upd D i ⟨s',m',dd'⟩ a)) (v:=sumTo (m0+j-1) λa=>cnt (D a)) (by omega) tag;omega
  ·have ec:cnt (⟨s',m',dd'⟩:WD)=cnt (D i):=by simp only[cnt,h1]
   have ev:(sumTo (m0+j-1) λa=>cnt (upd D i ⟨s',m',dd'⟩ a))=sumTo (m0+j-1) λa=>cnt (D a):=by omega
   have es':(sumTo (m0+j-1) λa=>(upd D i ⟨s',m',dd'⟩ a).stage)=sumTo (m0+j-1) λa=>(D a).stage:=by omega
   rw[ev,es'];refine Prod.Lex.right _ ?_;omega
 ·refine⟨hm0,map_set_other H.ha (by omega),by rw[upd_ne Ow _ (by omega:(0:Nat)≠i+1)];exact hcs',by simpa using H.size,λx y hy=>?_,λx hx=>?_,λx hx=>?_,by rw[Deaf_other t (g':=i+1) (by omega) _ hty];exact H.dd,
   λx hx=>by rw[Deaf_other t (g':=i+1) (by omega) _ hty];exact H.above x hx,λx hx hst=>?_,H.nr.app λop hop e=>?_,by have:=H.len;simp;omega,
   H.dom.step H.B hT.size hO,λh b hb=>?_,H.ti.step H.dom hm0 H.B hT.size (.inr ⟨hw1,hw2⟩) (main:=false) (by simp) (λ_=>rfl) (by omega) hO hlow Ti,Nat.le_trans H.B hT.size,hT.pay H.pay,hT.good H.pay H.good,
   λb h1 h2 h3=>(hT.other b (by have:=H.B;omega) (λhx=>by have:=H.dom.low _ _ hx;omega) h2 h3).trans (H.low b h1 h2 h3),λx hx=>(hT.cells x (by omega)).trans (H.rest x hx),⟨hT.env.1.trans H.env.1,hT.env.2.trans H.env.2⟩,hwg,hmode tag' htag hwake⟩
  ·rcases map_set_get hy with⟨e,rfl⟩|⟨e,y0,hy0,rfl⟩
   ·obtain rfl:x=i:=by omega
    rw[upd_same,upd_same];exact hs'
   ·have hxi:x≠i:=by omega
    rw[upd_ne D _ hxi,upd_ne Ow _ e];have hx0:=H.ws x y0 hy0;rw[hx0.woken];have hlt:=H.kQ hy0;rcases Nat.lt_or_ge (x+1) m0 with h|h
    ·have hs1:(D x).stage=1:=H.old x h;rw[hs1]at hx0 ⊢;exact .lib (by omega) (.quit (hx0.quits rfl))
    ·exact hx0.rely (hre (by omega) e)
  ·rw[upd_ne D _ (by omega)];exact H.old x hx
  ·by_cases e:x=i
   ·subst e;rw[upd_same,Deaf_own,H.dw x hx];exact hdeaf
   ·rw[upd_ne D _ e,Deaf_other t (g':=i+1) (by omega) _ hty];exact H.dw x hx
  ·by_cases e:x=i
   ·subst e;rw[upd_same]at hst;exact⟨hrel hst,hhas hst⟩
   ·rw[upd_ne D _ e]at hst;obtain⟨⟨r,h1,h2⟩,h3⟩:=H.rel x hx hst;exact⟨⟨r,h1,h2.appOther hty (by omega)⟩,(hT.cells _ (by have:=hx.1;omega)).trans h3⟩
  ·obtain⟨e',he',rfl⟩:=Go.Conc.mem_ofEvents hop;exact hnr e' he' (Go.ConcR.loc_of_ofEvent e)
  ·by_cases e:h=i+1
   ·exact .inr (by rw[e];exact⟨hw1,hw2⟩)
   ·rw[upd_ne Ow _ e]at hb;exact H.ow h b hb
theorem Uj(hAr:∀g w O,Anch g w O→g.status=.running)(H:PA X val nw m0 T0 w0 Fin Anch tag j f0 d0 a gs w t D Ow st sm)
  {i:Nat} {g:Goroutine} (hg:gs[i+1]?=some g) (hrun:g.status=.running) (h1:(D i).stage=1) :
  mY X val nw m0 T0 w0 Fin Anch (mu nw m0 tag j D f0) (runT X.P (crowd gs w sl) (i+1)) t:=by
 have hm0:=H.m0p;have hlt:=H.kQ hg;have hq:=(H.ws i g hg).quits h1;cases hfu:(D i).fuel with
 |zero=>rw[hfu]at hq;rw[hq.1]at hrun;cases hrun
 |succ q=>
  rw[hfu]at hq;rcases hq with⟨hf,_⟩|⟨_,g',es,hmute,hstep,hq⟩
  ·rw[hf]at hrun;cases hrun
  have hr:=runT_crowd_go (P:=X.P) (sl:=sl) (i:=i+1) hg (by simpa using hstep w);have hty:∀op∈MemOp.ofEvents (i+1) g.frame.fn g.frame.place es,op.g=i+1:=ofEvents_by;obtain⟨tag',f',hcs',hf',htag,hwake⟩:=H.cs.wokenBy hAr (dh.refl w) g g';have e1:=sumTo_upd D (⟨1,q,deafBehind (D i).deaf es⟩:WD) cnt (show i<m0+j-1 by omega);have e2:=sumTo_upd D (⟨1,q,deafBehind (D i).deaf es⟩:WD) WD.stage (show i<m0+j-1 by omega);have e3:=sumTo_upd D (⟨1,q,deafBehind (D i).deaf es⟩:WD) WD.fuel (show i<m0+j-1 by omega);have hmu:=mute_quiet (i:=i+1) (fn:=g.frame.fn) (pos:=g.frame.place) hmute;refine⟨_,w,sl,_,tag',j,f',d0,woken X.P g g' w a,upd D i ⟨1,q,deafBehind (D i).deaf es⟩,Ow,st,sm,hr,?_,?_⟩
  ·simp only[mu];rw[phi_retag nw _ htag];simp only[Vc,Ssum,Fsum]at *;have ec:cnt (⟨1,q,deafBehind (D i).deaf es⟩:WD)=cnt (D i):=by simp only[cnt,h1]
   have ev:(sumTo (m0+j-1) λa=>cnt (upd D i ⟨1,q,deafBehind (D i).deaf es⟩ a))=sumTo (m0+j-1) λa=>cnt (D a):=by omega
   have es':(sumTo (m0+j-1) λa=>(upd D i ⟨1,q,deafBehind (D i).deaf es⟩ a).stage)=sumTo (m0+j-1) λa=>(D a).stage:=by omega
   rw[ev,es'];refine Prod.Lex.right _ ?_;omega
  ·refine⟨hm0,map_set_other H.ha (by omega),hcs',by simpa using H.size,λx y hy=>?_,λx hx=>?_,λx hx=>?_,by rw[Deaf_other t (g':=i+1) (by omega) _ hty];exact H.dd,
    λx hx=>by rw[Deaf_other t (g':=i+1) (by omega) _ hty];exact H.above x hx,λx hx hst=>?_,H.nr.app λop hop e=>?_,by have:=H.len;simp;omega,
    H.dom,H.ow,H.ti.mute hmu.1 (hmu.2 _),H.B,H.pay,H.good,H.low,H.rest,H.env,H.UG,Mode.retag (by have:=H.mode.same (i:=i) q (deafBehind (D i).deaf es);rwa[h1]at this) htag⟩
   ·rcases map_set_get hy with⟨e,rfl⟩|⟨e,y0,hy0,rfl⟩
    ·obtain rfl:x=i:=by omega
     rw[upd_same];exact .lib (by show 1≤6;omega) (.quit hq)
    ·rw[upd_ne D _ (by omega),(H.ws x y0 hy0).woken];exact H.ws x y0 hy0
   ·by_cases e:x=i
    ·subst e;rw[upd_same]
    ·rw[upd_ne D _ e];exact H.old x hx
   ·by_cases e:x=i
    ·subst e;rw[upd_same,Deaf_own,H.dw x hx]
    ·rw[upd_ne D _ e,Deaf_other t (g':=i+1) (by omega) _ hty];exact H.dw x hx
   ·have hst':(D x).stage≤6:=by
     by_cases e:x=i
     ·subst e;omega
     ·rw[upd_ne D _ e]at hst;exact hst
    obtain⟨⟨r,k1,k2⟩,k3⟩:=H.rel x hx hst';refine⟨⟨r,k1,k2.app λp hp hgp hct=>?_⟩,k3⟩;obtain⟨y,hy,_⟩:=hct;obtain⟨op,hop,hopy⟩:=touch_of hy;rcases getElem?_append_cases hop with⟨hi,_⟩|⟨_,hopu⟩
    ·omega
    ·rw[hmu.1 op hopu]at hopy;cases hopy
   ·obtain⟨e',he',rfl⟩:=Go.Conc.mem_ofEvents hop;have h2:=Go.ConcR.loc_of_ofEvent e;rcases bk_of_mute (Wg:=X.Wg) (hmute e' he')with h|h|⟨ad,wr,rfl,_⟩
    ·rw[h]at h2;cases h2
    ·rw[h]at h2;cases h2
    ·cases h2
theorem callerStep(hnw:nw≤X.n)(H:PA X val nw m0 T0 w0 Fin Anch tag j f0 d0 a gs w t D Ow st sm)
  {a':Goroutine} {es:Array Event} {tag':CTag} {f':Nat} {O':Own} {st' sm':Int} (hgo:stepG X.P true a w=.go a' w' es)
  (hT:Turn X X.n (Ow 0) w w') (hO:∀b,O' b→Ow 0 b∨(w.heap.size≤b∧b<w'.heap.size))
  (hlow:∀e∈es,(MemAct.ofEvent e).low w'.heap.size) (Ti:∀e∈es,∀x,(MemAct.ofEvent e).touch?=some x→Tch X true X.n (Ow 0) w.heap.size x) (hnr:∀e∈es,e.loc≠.mark (.release (stA X.Wg)))
  (hcs':CS X val nw Fin Anch tag' j f' (deafBehind d0 es) a' w' O') (hwg:WgAt X.ty X.Wg w' st' sm') (hmode':ConcN.Mode (m0+j-1) D tag' st' sm')
  (hlt:phi nw (Vc (m0+j-1) D) tag'<phi nw (Vc (m0+j-1) D) tag∨(phi nw (Vc (m0+j-1) D) tag'=phi nw (Vc (m0+j-1) D) tag∧f'<f0)) :
  mY X val nw m0 T0 w0 Fin Anch (mu nw m0 tag j D f0) (runT X.P (crowd gs w sl) 0) t:=by
 have hb:=H.cs.bound;have hm0:=H.m0p;have hrun:=runT_crowd_go (P:=X.P) (sl:=sl) (i:=0) H.ha (by simpa using hgo);have hty:∀op∈MemOp.ofEvents 0 a.frame.fn a.frame.place es,op.g=0:=ofEvents_by;have hre:∀{c' h:Nat},c'≠X.n→h≠0→dh X c' (Ow h) w w':=λhc hh=>hT.rely ⟨_,_,hwg⟩ hc H.B (H.dom.low 0) (H.domWk hh);refine⟨_,w',sl,_,tag',j,f',deafBehind d0 es,a',D,upd Ow 0 O',st',sm',hrun,?_,?_⟩
 ·simp only[mu];rcases hlt with h|⟨h1,h2⟩
  ·exact Prod.Lex.left _ _ (by omega)
  ·rw[h1];exact Prod.Lex.right _ (by omega)
 ·refine⟨hm0,map_set_at H.ha,by rw[upd_same];exact hcs',by simpa using H.size,λx y hy=>?_,H.old,λx hx=>by rw[Deaf_other t (g':=0) (by omega) _ hty];exact H.dw x hx,by rw[Deaf_own,H.dd],
   λx hx=>by rw[Deaf_other t (g':=0) (by omega) _ hty];exact H.above x hx,λx hx hst=>?_,H.nr.app λop hop e=>?_,by have:=H.len;simp;omega,
   H.dom.step H.B hT.size hO,λh b hb=>?_,H.ti.step H.dom hm0 H.B hT.size (.inl rfl) (main:=true) (λ_=>rfl) (c:=X.n) (λh=>by have:=h.1;omega) (λ_ h hh=>by have:=hh.1;have:=hh.2;omega) hO hlow Ti,Nat.le_trans H.B hT.size,hT.pay H.pay,hT.good H.pay H.good,
   λb h1 h2 h3=>(hT.other b (by have:=H.B;omega) (λhx=>by have:=H.dom.low _ _ hx;omega) h2 h3).trans (H.low b h1 h2 h3),λx hx=>?_,⟨hT.env.1.trans H.env.1,hT.env.2.trans H.env.2⟩,hwg,hmode'⟩
  ·rcases map_set_get hy with⟨e,_⟩|⟨e,y0,hy0,rfl⟩
   ·omega
   ·rw[upd_ne Ow _ e];have hx0:=H.ws x y0 hy0;rw[hx0.woken];have hlt:=H.kQ hy0;rcases Nat.lt_or_ge (x+1) m0 with h|h
    ·have hs1:(D x).stage=1:=H.old x h;rw[hs1]at hx0 ⊢;exact .lib (by omega) (.quit (hx0.quits rfl))
    ·exact hx0.rely (hre (by omega) e)
  ·obtain⟨⟨r,h1,h2⟩,h3⟩:=H.rel x hx hst;exact⟨⟨r,h1,h2.appOther hty (by omega)⟩,(hT.cells _ (by have:=hx.1;have:=hx.2;omega)).trans h3⟩
  ·obtain⟨e',he',rfl⟩:=Go.Conc.mem_ofEvents hop;exact hnr e' he' (Go.ConcR.loc_of_ofEvent e)
  ·by_cases e:h=0
   ·exact .inl e
   ·rw[upd_ne Ow _ e]at hb;exact H.ow h b hb
  ·by_cases e:x=X.n
   ·subst e;exact(JJ (hT.pay H.pay)).trans ((JJ H.pay).symm.trans (H.rest _ hx))
   ·exact(hT.cells x e).trans (H.rest x hx)
end
end Crew
end
section
namespace Crew
set_option maxHeartbeats 1000000
set_option maxRecDepth 10000
open Go Go.Conc Go.ConcN
open Go.ConcR (KK wgBlock WgAt stA smA rd wr mk Payload DC0 Bk again_blocked bk_of_mute ofEvent_loc_mark ofEvent_cell)
open Go.Proofs.YtccjdkghgbbliaaGreatDoor.Lift (blk Good Shn map_set_get map_set_at map_set_other ofEvents_by mute_quiet set_get set_at set_other)
variable [Payload]
section
variable {X:Cf} {main:Bool} {c N:Nat} {O:Own} {es:Array Event}
omit [Payload]in
theorem E8(h:∀e∈es,Bk X.Wg e):∀e∈es,∀x,(MemAct.ofEvent e).touch?=some x→Tch X main c O N x:=by
 intro e he x hx;rcases h e he with h1|h1|⟨a,wr,rfl,ha⟩
 ·rw[ofEvent_loc_mark h1]at hx;cases hx
 ·rw[ofEvent_loc_mark h1]at hx;cases hx
 ·rw[ofEvent_cell]at hx;simp only[MemAct.touch?,Option.some.injEq]at hx;subst hx;intro b hb;simp only[blk,Option.some.injEq]at hb;subst hb;exact⟨λ_=>ha,.inr (.inr (.inr (.inr ⟨ha,by simp,by simp⟩)))⟩
omit [Payload]in
theorem EF(hN:X.Wg<N)(h:∀e∈es,Bk X.Wg e):∀e∈es,(MemAct.ofEvent e).low N:=by
 intro e he;rcases h e he with h1|h1|⟨a,wr,rfl,ha⟩
 ·rw[ofEvent_loc_mark h1];trivial
 ·rw[ofEvent_loc_mark h1];trivial
 ·rw[ofEvent_cell]
  show a.block<N
  rw[ha];exact hN
end
section
variable {X:Cf} {val:Nat→Value} {nw m0 T0 j f0 d0:Nat} {w0 w w':World} {Fin Anch:Goroutine→World→Own→Prop} {tag:CTag} {a:Goroutine} {gs:Array Goroutine} {t:Trace} {D:Nat→WD} {Ow:Nat→Own} {st sm:Int} {sl:Option (Nat×Nat)}
theorem stepWorker(hnw:nw≤X.n)(hn:nw<2147483648)(hAr:∀g w O,Anch g w O→g.status=.running)(H:PA X val nw m0 T0 w0 Fin Anch tag j f0 d0 a gs w t D Ow st sm)
  {i:Nat} {g:Goroutine} (hg:gs[i+1]?=some g) (hrun:g.status=.running):mY X val nw m0 T0 w0 Fin Anch (mu nw m0 tag j D f0) (runT X.P (crowd gs w sl) (i+1)) t:=by
 have hm0:=H.m0p;have hlt0:=H.kQ hg;by_cases h1:(D i).stage=1
 ·exact Uj hAr H hg hrun h1
 have hwk:Wk m0 (m0+j) (i+1):=⟨by
  rcases Nat.lt_or_ge (i+1) m0 with h|h
  ·exact absurd (H.old i h) h1
  ·exact h,hlt0⟩
 have hi:i<m0+j-1:=by omega
 have hs:=H.ws i g hg;have hb:=H.cs.bound;have hVj:=J6 (D:=D) hm0 H.old j;have hdk:=H.dw i hlt0;have hWN:X.Wg<w.heap.size:=aB X.hW H.B;generalize hst:(D i).stage=s at hs;generalize hfu:(D i).fuel=m at hs;generalize hde:(D i).deaf=dd at hs;rw[hde]at hdk
 have bookG:∀{g':Goroutine} {w':World} {es:Array Event} {s' m' dd':Nat} {st' sm':Int},stepG X.P false g w=.go g' w' es→Aside X.Wg w w'→WgAt X.ty X.Wg w' st' sm'→(∀e∈es,Bk X.Wg e)→
   (∀jx e,es[jx]?=some e→(MemAct.ofEvent e).touch?=none∨0<deafBehind dd (es.extract 0 jx))→s'≤6→WSit X.P X.ty X.Wg X.C X.n (λ_ _=>False) (λ_ _=>False) 0 (i+1-m0+1) (val (i+1-m0)) s' m' dd' g' w'→deafBehind dd es=dd'→s≤6→
   (∀tag',(tag'=tag∨(tag=.blk∧tag'=.w3))→(mayWake X.P g=true→g'.status=.running→tag'≠.blk)→ConcN.Mode (m0+j-1) (upd D i ⟨s',m',dd'⟩) tag' st' sm')→((s'<s∧cnt ⟨s',m',dd'⟩≤cnt (D i))∨(s'=s∧m'+1=m))→
   mY X val nw m0 T0 w0 Fin Anch (mu nw m0 tag j D f0) (runT X.P (crowd gs w sl) (i+1)) t:=by
  intro g' w' es s' m' dd' st' sm' hgo hAs hwg' hbk hd hs6 hs' hdd h6 hmode' hlt;obtain⟨⟨r,hr0,hr⟩,hhas⟩:=H.rel i hwk (by omega)
  exact workerStep hnw hAr H hwk hg hgo (Turn.of_wg hAs hwg') (λb hb=>.inl hb) (.lib hs6 hs') (EF (by rw[hAs.size];exact hWN) hbk) (E8 hbk) (norel_of_Bk hbk) (by rw[hde];exact hdd)
   (λ_=>⟨r,hr0,hr.book hdk _ _ hbk hd⟩) (λ_=>(cell_of_block (hAs.block X.C X.ne) _).trans hhas) hwg' hmode' (by rw[hst,hfu];exact hlt)
 have book:∀{g':Goroutine} {w':World} {es:Array Event} {s' m' dd':Nat} {st' sm':Int},stepG X.P false g w=.go g' w' es→Aside X.Wg w w'→WgAt X.ty X.Wg w' st' sm'→(∀e∈es,Bk X.Wg e)→
   (∀jx e,es[jx]?=some e→(MemAct.ofEvent e).touch?=none∨0<deafBehind dd (es.extract 0 jx))→s'≤6→WSit X.P X.ty X.Wg X.C X.n (λ_ _=>False) (λ_ _=>False) 0 (i+1-m0+1) (val (i+1-m0)) s' m' dd' g' w'→deafBehind dd es=dd'→s≤6→
   ConcN.Mode (m0+j-1) (upd D i ⟨s',m',dd'⟩) tag st' sm'→((s'<s∧cnt ⟨s',m',dd'⟩≤cnt (D i))∨(s'=s∧m'+1=m))→
   mY X val nw m0 T0 w0 Fin Anch (mu nw m0 tag j D f0) (runT X.P (crowd gs w sl) (i+1)) t:=
  λhgo hAs hwg' hbk hd hs6 hs' hdd h6 hmode' hlt=>bookG hgo hAs hwg' hbk hd hs6 hs' hdd h6 (λ_ ht _=>hmode'.retag ht) hlt
 have idle:∀{g':Goroutine} {m':Nat},stepG X.P false g w=.go g' w #[]→WSit X.P X.ty X.Wg X.C X.n (λ_ _=>False) (λ_ _=>False) 0 (i+1-m0+1) (val (i+1-m0)) s m' dd g' w→m'+1=m→s≤6→
   mY X val nw m0 T0 w0 Fin Anch (mu nw m0 tag j D f0) (runT X.P (crowd gs w sl) (i+1)) t:=by
  intro g' m' hgo hs' hm h6;exact book hgo (.refl X.Wg w) H.UG (by simp) (by simp) h6 hs' rfl h6 (by have:=H.mode.same (i:=i) m' dd;rwa[hst]at this) (.inr ⟨rfl,hm⟩)
 have hwg:=H.UG;have hmode:=H.mode;cases hs with
 |work h=>
  rcases GO.cases h with hstop|⟨m',g',w',es,O',rfl,hgo,hD,hO,hg'⟩
  ·obtain⟨_,hhas,g',hgo,m₂,hk⟩:=hstop
   refine workerStep hnw hAr H hwk hg hgo (Turn.of_wg (.refl X.Wg w) hwg) (λb hb=>.inl hb) (.lib (ak _) (.k1 hk)) (by intro e he;simp at he;subst he;exact hWN) (by intro e he x hx;simp at he;subst he;cases hx) (by intro e he;simp at he;subst he;simp[mk]) (by rw[hde];rfl)
    (λ_=>⟨t.size,H.len,RelBy.new hdk _ _⟩) (λ_=>by simpa using hhas) hwg (λ_ ht _=>(hmode.counted hi (by omega) (.inl rfl) _ _).retag ht) (.inl ⟨by omega,by simp[cnt,hst]⟩)
  ·have hWg:WgAt X.ty X.Wg w' st sm:=hwg.of_block (hD.other X.Wg hWN (λhx=>by have:=H.dom.low _ _ hx;have:=X.hW;omega) (Ne.symm X.ne))
   exact workerStep hnw hAr H hwk hg hgo (Turn.of_do hD) hO (.work hg') (λe he=>(hD.evs e he).low) (λe he=>(hD.evs e he).tch) (λe he=>(hD.evs e he).rel)
    (by rw[hde];exact deafBehind_idle (λe he=>⟨(hD.evs e he).dis,(hD.evs e he).ena⟩) 0) (λh=>by omega) (λh=>by omega) hWg
    (λ_ ht _=>Mode.retag (by have:=hmode.same (i:=i) m' 0;rwa[hst]at this) ht) (.inr ⟨hst.symm,by omega⟩)
 |lib hs6 hs=>
 cases hs with
 |r0 h=>omega
 |k1 h=>
  rcases Goes.cases h with hstop|⟨m',rfl,hstep⟩
  ·obtain⟨_,g',hgo,m₂,hk⟩:=hstop w (RW.refl w)
   exact book hgo (.refl X.Wg w) hwg (by intro e he;simp at he;subst he;exact .inl rfl) (by intro jx e he;exact .inl (by have:=Array.mem_of_getElem? he;simp at this;subst this;rfl)) (by omega) (.d1 hk) rfl (by omega)
    (hmode.counted hi (by omega) (.inr rfl) _ _) (.inl ⟨by omega,by simp[cnt,hst]⟩)
  ·obtain⟨g',w',es,hgo,⟨rfl,rfl⟩,hg'⟩:=hstep w (RW.refl w);exact idle hgo (.k1 hg') rfl (by omega)
 |d1 h=>
  rcases Goes.cases h with hstop|⟨m',rfl,hstep⟩
  ·obtain⟨_,hall⟩:=hstop w (RW.refl w);have hc1:cnt (D i)=1:=by simp[cnt,hst]
   have hV1:1≤Vc (m0+j-1) D:=by have:=le_sumTo (f:=λx=>cnt (D x)) hi;simp only[Vc];omega
   have bk2:∀e∈#[rd (stA X.Wg),wr (stA X.Wg)],Bk X.Wg e:=by intro e he;simp at he;rcases he with rfl|rfl<;>exact bk_cell _ _ rfl
   have df2:∀jx e,(#[rd (stA X.Wg),wr (stA X.Wg)]:Array Event)[jx]?=some e→(MemAct.ofEvent e).touch?=none∨0<deafBehind 1 ((#[rd (stA X.Wg),wr (stA X.Wg)]:Array Event).extract 0 jx):=by
    intro jx e he
    match jx,he with
    |0,_=>exact .inr (by simp[deafBehind])
    |1,_=>exact .inr (by simp[deafBehind,rd])
    |jx+2,he=>simp at he
   have hq0:∀q,cnt (⟨1,q,1⟩:WD)=0:=λ_=>rfl;have opq:∀q,OpenSt (m0+j-1) D→OpenSt (m0+j-1) (upd D i ⟨1,q,1⟩):=λq h a ha=>by
    by_cases e:a=i
    ·subst e;rw[upd_same];simp
    ·rw[upd_ne D _ e];exact h a ha
   cases hmode with
   |opn h1 h2 h3=>
    obtain⟨v,hv⟩:∃v,Vc (m0+j - 1) D+pend tag=v+1:=⟨Vc (m0+j - 1) D+pend tag - 1,by omega⟩
    rw[hv]at hwg;have hw1:WgAt X.ty X.Wg w (((v:Nat)+1) * KK+((0:Nat):Int)) 0:=by simpa using hwg
    obtain⟨g',hgo,_,hq⟩:=hall v 0 (by omega) (by omega) hw1;obtain⟨q,hq⟩:=hq (by omega);have hv':Vc (m0+j-1) (upd D i ⟨1,q,1⟩)+pend tag=v:=by have:=Vc_upd D (⟨1,q,1⟩:WD) hi;have:=hq0 q;omega
    refine book hgo (aside_setCell w (stA X.Wg) _) (hwg.setSt _) bk2 df2 (by omega) (.quit hq) rfl (by omega) ?_ (.inl ⟨by omega,by simp[cnt]⟩);have e:((v:Nat):Int) * KK+((0:Nat):Int)=((Vc (m0+j-1) (upd D i ⟨1,q,1⟩)+pend tag:Nat):Int) * KK:=by rw[hv'];simp
    rw[e];exact .opn h1 (opq q h2) (λvs ev=>by have:=h3 vs ev;omega)
   |reg h1 h2 h3=>
    obtain⟨v,hv⟩:∃v,Vc (m0+j - 1) D=v+1:=⟨Vc (m0+j - 1) D - 1,by omega⟩
    rw[hv]at hwg;have hp:pend tag=0:=by cases tag<;>first|rfl|exact h1.elim
    have hw1:WgAt X.ty X.Wg w (((v:Nat)+1) * KK+((1:Nat):Int)) 0:=by simpa using hwg
    obtain⟨g',hgo,hl,hq⟩:=hall v 1 (by omega) (by omega) hw1;by_cases hv0:v=0
    ·subst hv0;obtain⟨m₂,hk⟩:=hl ⟨rfl,rfl⟩;refine book hgo (aside_setCell w (stA X.Wg) _) (hwg.setSt _) bk2 df2 (by omega) (.d2 hk) rfl (by omega) ?_ (.inl ⟨by omega,by simp[cnt]⟩);have hoth:∀a,a<m0+j-1→a≠i→(D a).stage=1:=λa ha e=>by
      have c0:=others_uncounted hi hv hc1 a ha e;have:=h2 a ha;simp only[cnt]at c0;split at c0<;>omega
     have:=Mode.last (j:=m0+j-1) (D:=upd D i ⟨4,m₂,1⟩) (tag:=tag) i h1 hi (by rw[upd_same];simp) (λa ha e=>by rw[upd_ne D _ e];exact hoth a ha e);rw[upd_same]at this;simpa using this
    ·obtain⟨q,hq⟩:=hq (by omega);have hv':Vc (m0+j-1) (upd D i ⟨1,q,1⟩)=v:=by have:=Vc_upd D (⟨1,q,1⟩:WD) hi;have:=hq0 q;omega
     refine book hgo (aside_setCell w (stA X.Wg) _) (hwg.setSt _) bk2 df2 (by omega) (.quit hq) rfl (by omega) ?_ (.inl ⟨by omega,by simp[cnt]⟩);have e:((v:Nat):Int) * KK+((1:Nat):Int)=((Vc (m0+j-1) (upd D i ⟨1,q,1⟩):Nat):Int) * KK+1:=by rw[hv'];simp
     rw[e];exact .reg h1 (opq q h2) (by omega)
   |last L _ h2 h3 h4=>
    by_cases e:i=L
    ·subst e;omega
    ·have:=h4 i hi e;omega
   |sema h2=>have:=h2 i hi;omega
   |fin _ h2=>have:=h2 i hi;omega
  ·obtain⟨g',w',es,hgo,⟨rfl,rfl⟩,hg'⟩:=hstep w (RW.refl w);exact idle hgo (.d1 hg') rfl (by omega)
 |d2 h=>
  rcases Goes.cases h with hstop|⟨m',rfl,hstep⟩
  ·obtain⟨_,hx⟩:=hstop w (RW.refl w);obtain⟨hW3,hoth,rfl,rfl⟩:=hmode.isLast hi (by omega);simp only[hst]at hwg;obtain⟨g',hgo,m₂,hk⟩:=hx (by simpa using hwg);refine book hgo (.refl X.Wg w) hwg (by intro e he;simp at he;subst he;exact bk_cell _ _ rfl) (by intro jx e he;match jx,he with|0,_=>exact .inr (by simp[deafBehind])|jx+1,he=>simp at he) (by omega) (.d3 hk) rfl (by omega) ?_ (.inl ⟨by omega,by simp[cnt]⟩)
   have:=Mode.last (j:=m0+j-1) (D:=upd D i ⟨3,m₂,1⟩) (tag:=tag) i hW3 hi (by rw[upd_same];simp) (λa ha e=>by rw[upd_ne D _ e];exact hoth a ha e);rw[upd_same]at this;simpa using this
  ·obtain⟨g',w',es,hgo,⟨rfl,rfl⟩,hg'⟩:=hstep w (RW.refl w);exact idle hgo (.d2 hg') rfl (by omega)
 |d3 h=>
  rcases Goes.cases h with hstop|⟨m',rfl,hstep⟩
  ·obtain⟨_,hx⟩:=hstop w (RW.refl w);obtain⟨hW3,hoth,rfl,rfl⟩:=hmode.isLast hi (by omega);simp only[hst]at hwg;obtain⟨g',hgo,m₂,hk⟩:=hx (by simpa using hwg);refine book hgo (aside_setCell w (stA X.Wg) _) (hwg.setSt 0) (by intro e he;simp at he;subst he;exact bk_cell _ _ rfl) (by intro jx e he;match jx,he with|0,_=>exact .inr (by simp[deafBehind])|jx+1,he=>simp at he) (by omega) (.d4 hk) rfl (by omega) ?_ (.inl ⟨by omega,by simp[cnt]⟩)
   have:=Mode.last (j:=m0+j-1) (D:=upd D i ⟨2,m₂,1⟩) (tag:=tag) i hW3 hi (by rw[upd_same];simp) (λa ha e=>by rw[upd_ne D _ e];exact hoth a ha e);rw[upd_same]at this;simpa using this
  ·obtain⟨g',w',es,hgo,⟨rfl,rfl⟩,hg'⟩:=hstep w (RW.refl w);exact idle hgo (.d3 hg') rfl (by omega)
 |d4 h=>
  rcases Goes.cases h with hstop|⟨m',rfl,hstep⟩
  ·obtain⟨_,hmw,hx⟩:=hstop w (RW.refl w);obtain⟨hW3,hoth,rfl,rfl⟩:=hmode.isLast hi (by omega);simp only[hst]at hwg;obtain⟨g',hgo,q,hq⟩:=hx (by simpa using hwg);have hrun':g'.status=.running:=by
    cases q with
    |zero=>exact absurd hq.2 (by decide)
    |succ q=>exact hq.elim (λx=>absurd x.2 (by decide)) (λx=>x.1)
   refine bookG hgo (aside_setCell w (smA X.Wg) _) (hwg.setSm 1) (es:=semEvents (smA X.Wg)) bk_sem ?_ (by omega) (.quit hq) (by simp[deafBehind,semEvents]) (by omega) ?_ (.inl ⟨by omega,by simp[cnt]⟩)
   ·intro jx e he
    match jx,he with
    |0,he=>simp[semEvents]at he;subst he;exact .inl rfl
    |1,_=>exact .inr (by simp[deafBehind,semEvents])
    |2,_=>exact .inr (by simp[deafBehind,semEvents])
    |3,he=>simp[semEvents]at he;subst he;exact .inl rfl
    |jx+4,he=>simp[semEvents]at he
   ·intro tag' ht hw;have hnb:=hw hmw hrun';have e3:tag'=.w3:=by
     rcases ht with rfl|⟨_,rfl⟩
     ·cases tag'<;>first|rfl|exact hW3.elim|exact absurd rfl hnb
     ·rfl
    subst e3;simp only[if_true];exact .sema λa ha=>by
     by_cases e:a=i
     ·subst e;rw[upd_same]
     ·rw[upd_ne D _ e];exact hoth a ha e
  ·obtain⟨g',w',es,hgo,⟨rfl,rfl⟩,hg'⟩:=hstep w (RW.refl w);exact idle hgo (.d4 hg') rfl (by omega)
 |quit h=>exact absurd hst h1
end
end Crew
end
