/- What lies in a till; the coin of a case, in company: printed by x14.py. -/
import Derived.Conc.BesideWords
import Derived.Test.YtccjdkghgbbliaaGreatDoorA26
set_option linter.all false
namespace Go.Proofs.YtccjdkghgbbliaaGreatDoor
section
namespace Crew
set_option maxHeartbeats 1000000
set_option maxRecDepth 10000
open Go Go.Conc Go.ConcN Go.RowKit
open Go.ConcR (Payload DC0 WgAt)
noncomputable abbrev cf (S:Nat→Prop) (Wg C B:Nat) (ne:C≠Wg) (hW:Wg<B) (hC:C<B):Cf:={ S,P:=Tryz.prog,ty:=268,Wg,C,n:=3,B,ne,hW,hC,ini:=λi=>if i<3 then some (.int .i64 0)else none }
def Still(X:Cf)(b:Nat):Prop:=b<X.B∧b≠X.C∧b≠X.Wg∧¬X.S b
theorem dh.still{X:Cf}{c b:Nat}{O:Own}{w w₁:World}(r:dh X c O w w₁)(h:Still X b)(o:Nat):w₁.cell? ⟨b,o,none⟩=w.cell? ⟨b,o,none⟩:=by
 simp only[World.cell?,r.low b h.1 h.2.1 h.2.2.1]
structure Til where
 b1:Nat
 T:Nat
 n:Nat
 nT:Nat
 qY:Option Addr
 EC:Option Addr
 E5:Option Addr
 scap:Nat
 kcap:Nat
 tcap:Nat
 vc:Value
 vp:Value
 state:Nat→Int
 held:Nat→Int
 day:Nat→Int
 fee:Nat→Int
 tar:Nat→Nat
 bg:Nat→Int
def Til.book(t:Til):List Value:=[t.vc,.slice t.E5 t.nT t.tcap,.slice t.EC t.n t.kcap,t.vp]
def Til.row(t:Til)(c:Nat):List Value:=[.int .i64 (t.state c),.int .i64 (t.held c),.int .i64 (t.day c),.int .i64 (t.fee c)]
structure jP (X:Cf) (t:Til) (w:World):Prop where
 s1:Still X t.b1
 sT:Still X t.T
 p:w.cell? ⟨t.b1,0,none⟩=some (.pointer (some ⟨t.T,0,none⟩))
 book:w.rangeAt t.T 0 t.book
 zY:w.cell? ⟨t.T,4,none⟩=some (.slice t.qY t.n t.scap)
 st:∀c,c<t.n→∃b o,t.qY=some ⟨b,o,none⟩∧Still X b∧w.rangeAt b (o+c * 4) (t.row c)
 ks:∀c,c<t.n→t.tar c<t.nT∧∃b o,t.EC=some ⟨b,o,none⟩∧Still X b∧w.cell? ⟨b,o+c * 6+1,none⟩=some (.int .i64 (t.tar c))
 ts:∀j,j<t.nT→∃b o,t.E5=some ⟨b,o,none⟩∧Still X b∧w.cell? ⟨b,o+j * 5+1,none⟩=some (.int .i64 (t.bg j))
theorem jP.of{X:Cf}{t:Til}{w w₁:World}(h:jP X t w)(r:∀b,Still X b→∀o,w₁.cell? ⟨b,o,none⟩=w.cell? ⟨b,o,none⟩):jP X t w₁:=by
 refine⟨h.s1,h.sT,(r _ h.s1 _).trans h.p,λj v hv=>(r _ h.sT _).trans (h.book j v hv),(r _ h.sT _).trans h.zY,λc hc=>?_,λc hc=>?_,λj hj=>?_⟩
 ·obtain⟨b,o,h1,h2,h3⟩:=h.st c hc;exact⟨b,o,h1,h2,λj v hv=>(r _ h2 _).trans (h3 j v hv)⟩
 ·obtain⟨h0,b,o,h1,h2,h3⟩:=h.ks c hc;exact⟨h0,b,o,h1,h2,(r _ h2 _).trans h3⟩
 ·obtain⟨b,o,h1,h2,h3⟩:=h.ts j hj;exact⟨b,o,h1,h2,(r _ h2 _).trans h3⟩
theorem jP.rely{X:Cf}{t:Til}{c:Nat}{O:Own}{w w₁:World}(h:jP X t w)(r:dh X c O w w₁):jP X t w₁:=h.of λ_ hb o=>r.still hb o
theorem info77:(Tryz.prog.info? 123).map (·.size)=some 4:=by kernel_rfl
theorem Tt:(Tryz.prog.info? 128).map (·.size)=some 4:=by kernel_rfl
section
variable {S:Nat→Prop} {Wg C B:Nat} {ne:C≠Wg} {hW:Wg<B} {hC:C<B} {c:Nat} {O:Own} {w w₁:World}
structure Base (c:Nat) (t:Til) (w:World) (O:Own):Prop where
 sZ:jP (cf S Wg C B ne hW hC) t w
 hB:B≤w.heap.size
 th:There O w
 lo:∀b,O b→B≤b
 pay:PayAt C 3 w
 live:WgLive 268 Wg w
theorem Base.rely{t:Til}(h:Base (ne:=ne) (hW:=hW) (hC:=hC) (S:=S) c t w O)(r:dh (cf S Wg C B ne hW hC) c O w w₁):Base (ne:=ne) (hW:=hW) (hC:=hC) (S:=S) c t w₁ O:=
 ⟨h.sZ.rely r,Nat.le_trans h.hB r.size,h.th.rely r,h.lo,r.pay h.pay,r.live h.live⟩
theorem Base.new{t:Til}(h:Base (ne:=ne) (hW:=hW) (hC:=hC) (S:=S) c t w O)(o:Obj):Base (ne:=ne) (hW:=hW) (hC:=hC) (S:=S) c t (w.alloc o) (λb=>O b∨b=w.heap.size):=by
 have hsz:(w.alloc o).heap.size=w.heap.size+1:=by show(w.heap.push o).size=_;simp
 refine⟨h.sZ.of λb hb p=>World.cell?_alloc_lt _ _ _ (aB hb.1 h.hB),by have:=h.hB;omega,λb hb=>?_,λb hb=>?_,?_,?_⟩
 ·rcases hb with hb|hb
  ·have:=h.th b hb;omega
  ·omega
 ·rcases hb with hb|hb
  ·exact h.lo b hb
  ·rw[hb];exact h.hB
 ·obtain⟨cs,h1,h2⟩:=h.pay;refine⟨cs,?_,h2⟩;have hlt:C<w.heap.size:=by have:=h.hB;omega
  show(w.heap.push o)[C]?=_
  rw[Array.getElem?_push];rw[if_neg (by omega)];exact h1
 ·obtain⟨st,sm,hl⟩:=h.live;refine⟨st,sm,hl.of_block ?_⟩;have hlt:Wg<w.heap.size:=by have:=h.hB;omega
  show(w.heap.push o)[Wg]?=_
  rw[Array.getElem?_push,if_neg (by omega)]
structure Kept (C c:Nat) (O:Own) (w:World) (O':Own) (w':World):Prop where
 own:∀b,O b→O' b
 same:∀b,O b→w'.heap[b]?=w.heap[b]?
 cell:w'.cell? ⟨C,c,none⟩=w.cell? ⟨C,c,none⟩
theorem Kept.refl(O:Own)(w:World):Kept C c O w O w:=⟨λ_ h=>h,λ_ _=>rfl,rfl⟩
theorem Kept.rely{O':Own}{w':World}(h:Kept C c O w O' w')(r:dh (cf S Wg C B ne hW hC) c O' w' w₁):Kept C c O w O' w₁:=⟨h.own,λb hb=>(r.own b (h.own b hb)).trans (h.same b hb),r.cell.trans h.cell⟩
theorem Kept.new{O':Own}{w':World}(h:Kept C c O w O' w')(th:There O' w')(hB:B≤w'.heap.size)(hC:C<B)(o:Obj):Kept C c O w (λb=>O' b∨b=w'.heap.size) (w'.alloc o):=by
 have hold:∀b,b<w'.heap.size→(w'.alloc o).heap[b]?=w'.heap[b]?:=λb hb=>by
  show(w'.heap.push o)[b]?=_
  rw[Array.getElem?_push,if_neg (by omega)]
 exact⟨λb hb=>.inl (h.own b hb),λb hb=>(hold b (th b (h.own b hb))).trans (h.same b hb),(show(w'.alloc o).cell? ⟨C,c,none⟩=w'.cell? ⟨C,c,none⟩ by simp only[World.cell?,hold C (by omega)]).trans h.cell⟩
theorem jP.kcell{t:Til}{cc kb ko:Nat}(h:jP (cf S Wg C B ne hW hC) t w)(hcc:cc<t.n)(hk:t.EC=some ⟨kb,ko,none⟩):w.cell? ⟨kb,ko+cc * 6+1,none⟩=some (.int .i64 (t.tar cc)):=by
 obtain⟨_,b,o,h1,_,h3⟩:=h.ks cc hcc;rw[hk]at h1;cases h1;exact h3
theorem jP.tcell{t:Til}{j tb to:Nat}(h:jP (cf S Wg C B ne hW hC) t w)(hj:j<t.nT)(hk:t.E5=some ⟨tb,to,none⟩):w.cell? ⟨tb,to+j * 5+1,none⟩=some (.int .i64 (t.bg j)):=by
 obtain⟨b,o,h1,_,h3⟩:=h.ts j hj;rw[hk]at h1;cases h1;exact h3
theorem terms{main:Bool}:Terms (dh (cf S Wg C B ne hW hC) c O) (DO (cf S Wg C B ne hW hC) main c O):=⟨λ_ _ _ h k=>h.trans k,DO.idle⟩
theorem lets{main:Bool}:LetsDraw (DO (cf S Wg C B ne hW hC) main c O):=λ_=>⟨ak _,λ_ _ _ _=>rfl,λh=>h,λ_ _=>rfl,λ_ h=>h,λe he=>by simp at he,⟨rfl,rfl⟩⟩
theorem GN(w:World):dh (cf S Wg C B ne hW hC) c O w { w with drawn:=w.drawn+1 }:=⟨ak _,λ_ _ _ _=>rfl,λ_ _=>rfl,λh=>h,rfl,λh=>h⟩
structure nO (c:Nat) (t:Til) (y:Nat) (O₀:Own) (w₀:World) (O:Own) (w:World):Prop where
 base:Base (ne:=ne) (hW:=hW) (hC:=hC) (S:=S) c t w O
 kept:Kept C c O₀ w₀ O w
 oy:O y
 box:w.rangeAt y 0 t.book
theorem nO.rely{t:Til}{y:Nat}{O₀:Own}{w₀:World}(h:nO (ne:=ne) (hW:=hW) (hC:=hC) (S:=S) c t y O₀ w₀ O w)(r:dh (cf S Wg C B ne hW hC) c O w w₁):nO (ne:=ne) (hW:=hW) (hC:=hC) (S:=S) c t y O₀ w₀ O w₁:=
 ⟨h.base.rely r,h.kept.rely r,h.oy,λj v hv=>by
  have:=h.box j v hv;simp only[World.cell?,r.own y h.oy]at this ⊢;exact this⟩
set_option maxRecDepth 100000 in
theorem coin88{t:Til}{cc:Nat}(hcc:cc<t.n):∃n,∀(w:World) (O:Own),Base (ne:=ne) (hW:=hW) (hC:=hC) (S:=S) c t w O→
  Kw (cf S Wg C B ne hW hC) false c 144 #[.agg t.book.toArray,.int .i64 cc] n w O λv w' O'=>v=.int .i64 (t.bg (t.tar cc))∧Base (ne:=ne) (hW:=hW) (hC:=hC) (S:=S) c t w' O'∧Kept C c O w O' w':=by
 co_apply ah
 intro w O hF;refine⟨_,_,Tryz.func144,by kernel_rfl,rfl,?_⟩;simp only[Tryz.ntmps144,aG,aC,aF,Nat.reduceAdd,Nat.reduceSub,Array.replicate_succ,Array.replicate_zero,List.push_toArray,List.append_toArray,List.nil_append,List.cons_append]
 co_apply nC
 co_apply iH
 simp only[aG,aC,aF,Nat.reduceAdd,Nat.zero_add,List.range,List.range.loop]
 co_apply BJ (cells:=t.book.toArray) (ty:=123) rfl (by rfl) hF.hB
 ·intro w₁ h₁;constructor
  ·simp[execOp,Instr.box,newVar,newRow,go_sem,Act.eval]
  ·simp[execOp,Instr.box,newVar,newRow,go_sem,Act.eval]
 intro w₁ h₁;replace hF:=hF.rely h₁
 have hA:nO (ne:=ne) (hW:=hW) (hC:=hC) (S:=S) c t w₁.heap.size O w (λb=>O b∨b=w₁.heap.size) (w₁.alloc (.cells t.book.toArray 123)):=
  ⟨hF.new _,((Kept.refl O w).rely h₁).new hF.th hF.hB hC _,.inr rfl,λj v hv=>by rw[World.cell?_alloc_new];simpa using hv⟩
 clear hF;generalize w₁.alloc (.cells t.book.toArray 123)=w₂ at hA ⊢;generalize (λb=>O b∨b=w₁.heap.size)=O₂ at hA ⊢;generalize w₁.heap.size=y at hA ⊢
 co_apply bC (v:=.int .i64 0) rfl (by rfl) hA.base.hB hA.base.th
 ·intro w₃ h₃;exact⟨by simp[execOp,go_sem,Act.eval],λe he=>by simp[execOp,go_sem]at he⟩
 intro w₃ h₃;replace hA:=hA.rely h₃;clear h₃
 co_apply je
 walk_nrm
 co_apply nC
 co_apply oP (Q:=λe a w' O'=>O'=O₂∧(e=.normal∧nO (ne:=ne) (hW:=hW) (hC:=hC) (S:=S) c t y O w O₂ w'∧a.defers=[]∧a.tmps.getD 4 undef=.int .i64 (t.bg (t.tar cc)))) ?walk ?rest
 case rest=>
  rintro e a w' O' ⟨rfl,rfl,h1,h2,h3⟩;refine wpO_ret ⟨h2,_,resultsC_tmp (by rfl) _,h3,h1.base,h1.kept⟩
 case walk=>
 co_apply Ns (λ_ _ _ h=>h)
 co_apply wpC_region_held terms lets (S:=λw'=>nO (ne:=ne) (hW:=hW) (hC:=hC) (S:=S) c t y O w O₂ w') (by kernel_rfl)
 intro w₄ h₄;replace hA:=(hA.rely h₄).rely (GN _);clear h₄;simp only[aG,aC,aF,Nat.reduceAdd,Nat.zero_add];obtain⟨htar,kb,ko,hk,skb,_⟩:=hA.base.sZ.ks cc hcc;obtain⟨tb,to,ht,stb,_⟩:=hA.base.sZ.ts _ htar;have hccI:(cc:Int)<(t.n:Int):=by omega
 have htarI:(t.tar cc:Int)<(t.nT:Int):=by omega
 co_applyP anyCH_take terms (λ_ _ h r=>nO.rely h r) (λ_ _ _ h r=>⟨h.1,h.2.1.rely r,h.2.2⟩) (i:=0) (v:=.pointer (some ⟨y,0,none⟩)) rfl (by first|kernel_rfl|decide +kernel) (by first|kernel_rfl|decide +kernel) (by first|kernel_rfl|decide +kernel) (.inl ⟨by rfl,λw' hw=>⟨?run0,?guar0⟩⟩) hA ?rest0
 case run0=>
  skip;simp[execOp,go_sem,Act.eval, *]
 case guar0=>
  refine fD hw.base.hB hw.base.th λe he=>?_;skip;replace he:=mem_listed he;simp[execOp,go_sem,Act.eval, *]at he;skip
 try walk_nrm
 co_applyP anyCH_take terms (λ_ _ h r=>nO.rely h r) (λ_ _ _ h r=>⟨h.1,h.2.1.rely r,h.2.2⟩) (i:=1) (v:=.pointer (some ⟨y,1,none⟩)) rfl (by first|kernel_rfl|decide +kernel) (by first|kernel_rfl|decide +kernel) (by first|kernel_rfl|decide +kernel) (.inl ⟨by rfl,λw' hw=>⟨?run1,?guar1⟩⟩) hA ?rest1
 case run1=>
  skip;simp[execOp,go_sem,Act.eval, *]
 case guar1=>
  refine fD hw.base.hB hw.base.th λe he=>?_;skip;replace he:=mem_listed he;simp[execOp,go_sem,Act.eval, *]at he;skip
 try walk_nrm
 co_applyP anyCH_take terms (λ_ _ h r=>nO.rely h r) (λ_ _ _ h r=>⟨h.1,h.2.1.rely r,h.2.2⟩) (i:=2) (v:=.slice t.E5 t.nT t.tcap) rfl (by first|kernel_rfl|decide +kernel) (by first|kernel_rfl|decide +kernel) (by first|kernel_rfl|decide +kernel) (.inl ⟨by rfl,λw' hw=>⟨?run2,?guar2⟩⟩) hA ?rest2
 case run2=>
  have hy1:=hw.box 1 _ rfl;have hy2:=hw.box 2 _ rfl;simp only[Til.book,Nat.zero_add]at hy1 hy2;simp[execOp,go_sem,Act.eval, *]
 case guar2=>
  refine fD hw.base.hB hw.base.th λe he=>?_;have hy1:=hw.box 1 _ rfl;have hy2:=hw.box 2 _ rfl;simp only[Til.book,Nat.zero_add]at hy1 hy2;replace he:=mem_listed he;simp[execOp,go_sem,Act.eval, *]at he;subst he;exact⟨_,rfl,.inr (.inl hw.oy)⟩
 try walk_nrm
 co_applyP anyCH_take terms (λ_ _ h r=>nO.rely h r) (λ_ _ _ h r=>⟨h.1,h.2.1.rely r,h.2.2⟩) (i:=3) (v:=.pointer (some ⟨y,0,none⟩)) rfl (by first|kernel_rfl|decide +kernel) (by first|kernel_rfl|decide +kernel) (by first|kernel_rfl|decide +kernel) (.inl ⟨by rfl,λw' hw=>⟨?run3,?guar3⟩⟩) hA ?rest3
 case run3=>
  skip;simp[execOp,go_sem,Act.eval, *]
 case guar3=>
  refine fD hw.base.hB hw.base.th λe he=>?_;skip;replace he:=mem_listed he;simp[execOp,go_sem,Act.eval, *]at he;skip
 try walk_nrm
 co_applyP anyCH_take terms (λ_ _ h r=>nO.rely h r) (λ_ _ _ h r=>⟨h.1,h.2.1.rely r,h.2.2⟩) (i:=4) (v:=.pointer (some ⟨y,2,none⟩)) rfl (by first|kernel_rfl|decide +kernel) (by first|kernel_rfl|decide +kernel) (by first|kernel_rfl|decide +kernel) (.inl ⟨by rfl,λw' hw=>⟨?run4,?guar4⟩⟩) hA ?rest4
 case run4=>
  skip;simp[execOp,go_sem,Act.eval, *]
 case guar4=>
  refine fD hw.base.hB hw.base.th λe he=>?_;skip;replace he:=mem_listed he;simp[execOp,go_sem,Act.eval, *]at he;skip
 try walk_nrm
 co_applyP anyCH_take terms (λ_ _ h r=>nO.rely h r) (λ_ _ _ h r=>⟨h.1,h.2.1.rely r,h.2.2⟩) (i:=5) (v:=.slice t.EC t.n t.kcap) rfl (by first|kernel_rfl|decide +kernel) (by first|kernel_rfl|decide +kernel) (by first|kernel_rfl|decide +kernel) (.inl ⟨by rfl,λw' hw=>⟨?run5,?guar5⟩⟩) hA ?rest5
 case run5=>
  have hy1:=hw.box 1 _ rfl;have hy2:=hw.box 2 _ rfl;simp only[Til.book,Nat.zero_add]at hy1 hy2;simp[execOp,go_sem,Act.eval, *]
 case guar5=>
  refine fD hw.base.hB hw.base.th λe he=>?_;have hy1:=hw.box 1 _ rfl;have hy2:=hw.box 2 _ rfl;simp only[Til.book,Nat.zero_add]at hy1 hy2;replace he:=mem_listed he;simp[execOp,go_sem,Act.eval, *]at he;subst he;exact⟨_,rfl,.inr (.inl hw.oy)⟩
 try walk_nrm
 co_applyP anyCH_take terms (λ_ _ h r=>nO.rely h r) (λ_ _ _ h r=>⟨h.1,h.2.1.rely r,h.2.2⟩) (i:=6) (v:=.int .i64 cc) rfl (by first|kernel_rfl|decide +kernel) (by first|kernel_rfl|decide +kernel) (by first|kernel_rfl|decide +kernel) (.inl ⟨by rfl,λw' hw=>⟨?run6,?guar6⟩⟩) hA ?rest6
 case run6=>
  skip;simp[execOp,go_sem,Act.eval, *]
 case guar6=>
  refine fD hw.base.hB hw.base.th λe he=>?_;skip;replace he:=mem_listed he;simp[execOp,go_sem,Act.eval, *]at he;skip
 try walk_nrm
 co_applyP anyCH_take terms (λ_ _ h r=>nO.rely h r) (λ_ _ _ h r=>⟨h.1,h.2.1.rely r,h.2.2⟩) (i:=7) (v:=.pointer (some ⟨kb,ko+cc * 6,none⟩)) rfl (by first|kernel_rfl|decide +kernel) (by first|kernel_rfl|decide +kernel) (by first|kernel_rfl|decide +kernel) (.inl ⟨by rfl,λw' hw=>⟨?run7,?guar7⟩⟩) hA ?rest7
 case run7=>
  skip;simp[execOp,go_sem,Act.eval, *]
 case guar7=>
  refine fD hw.base.hB hw.base.th λe he=>?_;skip;replace he:=mem_listed he;simp[execOp,go_sem,Act.eval, *]at he;skip
 try walk_nrm
 co_applyP anyCH_take terms (λ_ _ h r=>nO.rely h r) (λ_ _ _ h r=>⟨h.1,h.2.1.rely r,h.2.2⟩) (i:=8) (v:=.pointer (some ⟨kb,ko+cc * 6+1,none⟩)) rfl (by first|kernel_rfl|decide +kernel) (by first|kernel_rfl|decide +kernel) (by first|kernel_rfl|decide +kernel) (.inl ⟨by rfl,λw' hw=>⟨?run8,?guar8⟩⟩) hA ?rest8
 case run8=>
  skip;simp[execOp,go_sem,Act.eval, *]
 case guar8=>
  refine fD hw.base.hB hw.base.th λe he=>?_;skip;replace he:=mem_listed he;simp[execOp,go_sem,Act.eval, *]at he;skip
 try walk_nrm
 co_applyP anyCH_take terms (λ_ _ h r=>nO.rely h r) (λ_ _ _ h r=>⟨h.1,h.2.1.rely r,h.2.2⟩) (i:=9) (v:=.int .i64 (t.tar cc)) rfl (by first|kernel_rfl|decide +kernel) (by first|kernel_rfl|decide +kernel) (by first|kernel_rfl|decide +kernel) (.inl ⟨by rfl,λw' hw=>⟨?run9,?guar9⟩⟩) hA ?rest9
 case run9=>
  have hkc:=hw.base.sZ.kcell hcc hk;simp[execOp,go_sem,Act.eval, *]
 case guar9=>
  refine fD hw.base.hB hw.base.th λe he=>?_;have hkc:=hw.base.sZ.kcell hcc hk;replace he:=mem_listed he;simp[execOp,go_sem,Act.eval, *]at he;subst he;exact⟨_,rfl,.inl skb⟩
 try walk_nrm
 co_applyP anyCH_take terms (λ_ _ h r=>nO.rely h r) (λ_ _ _ h r=>⟨h.1,h.2.1.rely r,h.2.2⟩) (i:=10) (v:=.pointer (some ⟨tb,to+t.tar cc * 5,none⟩)) rfl (by first|kernel_rfl|decide +kernel) (by first|kernel_rfl|decide +kernel) (by first|kernel_rfl|decide +kernel) (.inl ⟨by rfl,λw' hw=>⟨?run10,?guar10⟩⟩) hA ?rest10
 case run10=>
  skip;simp[execOp,go_sem,Act.eval, *]
 case guar10=>
  refine fD hw.base.hB hw.base.th λe he=>?_;skip;replace he:=mem_listed he;simp[execOp,go_sem,Act.eval, *]at he;skip
 try walk_nrm
 co_applyP anyCH_take terms (λ_ _ h r=>nO.rely h r) (λ_ _ _ h r=>⟨h.1,h.2.1.rely r,h.2.2⟩) (i:=11) (v:=.pointer (some ⟨tb,to+t.tar cc * 5+1,none⟩)) rfl (by first|kernel_rfl|decide +kernel) (by first|kernel_rfl|decide +kernel) (by first|kernel_rfl|decide +kernel) (.inl ⟨by rfl,λw' hw=>⟨?run11,?guar11⟩⟩) hA ?rest11
 case run11=>
  skip;simp[execOp,go_sem,Act.eval, *]
 case guar11=>
  refine fD hw.base.hB hw.base.th λe he=>?_;skip;replace he:=mem_listed he;simp[execOp,go_sem,Act.eval, *]at he;skip
 try walk_nrm
 co_applyP anyCH_take terms (λ_ _ h r=>nO.rely h r) (λ_ _ _ h r=>⟨h.1,h.2.1.rely r,h.2.2⟩) (i:=12) (v:=.int .i64 (t.bg (t.tar cc))) rfl (by first|kernel_rfl|decide +kernel) (by first|kernel_rfl|decide +kernel) (by first|kernel_rfl|decide +kernel) (.inl ⟨by rfl,λw' hw=>⟨?run12,?guar12⟩⟩) hA ?rest12
 case run12=>
  have htc:=hw.base.sZ.tcell htar ht;simp[execOp,go_sem,Act.eval, *]
 case guar12=>
  refine fD hw.base.hB hw.base.th λe he=>?_;have htc:=hw.base.sZ.tcell htar ht;replace he:=mem_listed he;simp[execOp,go_sem,Act.eval, *]at he;subst he;exact⟨_,rfl,.inl stb⟩
 try walk_nrm
 co_applyP anyCH_take terms (λ_ _ h r=>nO.rely h r) (λ_ _ _ h r=>⟨h.1,h.2.1.rely r,h.2.2⟩) (i:=13) (v:=.int .i64 (t.bg (t.tar cc))) rfl (by first|kernel_rfl|decide +kernel) (by first|kernel_rfl|decide +kernel) (by first|kernel_rfl|decide +kernel) (.inl ⟨by rfl,λw' hw=>⟨?run13,?guar13⟩⟩) hA ?rest13
 case run13=>
  skip;simp[execOp,go_sem,Act.eval, *]
 case guar13=>
  refine fD hw.base.hB hw.base.th λe he=>?_;skip;replace he:=mem_listed he;simp[execOp,go_sem,Act.eval, *]at he;skip
 try walk_nrm
 refine anyCH_done (by first|kernel_rfl|decide +kernel) ?_ _;exact⟨rfl,hA,rfl,by simp⟩
end
end Crew
end
section
namespace Crew
set_option maxHeartbeats 1000000
set_option maxRecDepth 10000
open Go Go.Conc Go.ConcN Go.RowKit
open Go.ConcR (Payload DC0 WgAt)
section
variable {S:Nat→Prop} {Wg C B:Nat} {ne:C≠Wg} {hW:Wg<B} {hC:C<B} {c:Nat} {O:Own} {w w₁:World}
def Til.acc(t:Til)(c:Nat):Nat→Int
 |0=>0
 |j+1=>if t.bg (t.tar j)=c then IntKind.wrap .i64 (t.acc c j+t.held j)else t.acc c j
structure AtW (c:Nat) (t:Til) (x:Nat) (acc:Int) (O:Own) (w:World):Prop where
 base:Base (ne:=ne) (hW:=hW) (hC:=hC) (S:=S) c t w O
 ox:O x
 cx:w.cell? ⟨x,0,none⟩=some (.int .i64 c)
 own:w.cell? ⟨C,c,none⟩=some (.int .i64 acc)
theorem AtW.rely{t:Til}{x:Nat}{acc:Int}(h:AtW (ne:=ne) (hW:=hW) (hC:=hC) (S:=S) c t x acc O w)(r:dh (cf S Wg C B ne hW hC) c O w w₁):AtW (ne:=ne) (hW:=hW) (hC:=hC) (S:=S) c t x acc O w₁:=
 ⟨h.base.rely r,h.ox,by have:=h.cx;simp only[World.cell?,r.own x h.ox]at this ⊢;exact this,r.cell.trans h.own⟩
theorem AtW.kept{t:Til}{x:Nat}{acc:Int}{O':Own}{w':World}(h:AtW (ne:=ne) (hW:=hW) (hC:=hC) (S:=S) c t x acc O w)(b:Base (ne:=ne) (hW:=hW) (hC:=hC) (S:=S) c t w' O')(k:Kept C c O w O' w'):AtW (ne:=ne) (hW:=hW) (hC:=hC) (S:=S) c t x acc O' w':=
 ⟨b,k.own _ h.ox,by have:=h.cx;simp only[World.cell?,k.same x h.ox]at this ⊢;exact this,k.cell.trans h.own⟩
structure AtY (c:Nat) (t:Til) (x:Nat) (acc:Int) (y cc:Nat) (O:Own) (w:World):Prop extends AtW (ne:=ne) (hW:=hW) (hC:=hC) (S:=S) c t x acc O w where
 oy:O y
 row:w.rangeAt y 0 (t.row cc)
theorem AtY.rely{t:Til}{x y cc:Nat}{acc:Int}(h:AtY (ne:=ne) (hW:=hW) (hC:=hC) (S:=S) c t x acc y cc O w)(r:dh (cf S Wg C B ne hW hC) c O w w₁):AtY (ne:=ne) (hW:=hW) (hC:=hC) (S:=S) c t x acc y cc O w₁:=
 ⟨h.toAtW.rely r,h.oy,λj v hv=>by have:=h.row j v hv;simp only[World.cell?,r.own y h.oy]at this ⊢;exact this⟩
theorem AtY.kept{t:Til}{x y cc:Nat}{acc:Int}{O':Own}{w':World}(h:AtY (ne:=ne) (hW:=hW) (hC:=hC) (S:=S) c t x acc y cc O w)(b:Base (ne:=ne) (hW:=hW) (hC:=hC) (S:=S) c t w' O')(k:Kept C c O w O' w'):AtY (ne:=ne) (hW:=hW) (hC:=hC) (S:=S) c t x acc y cc O' w':=
 ⟨h.toAtW.kept b k,k.own _ h.oy,λj v hv=>by have:=h.row j v hv;simp only[World.cell?,k.same y h.oy]at this ⊢;exact this⟩
def vs4(t:Til)(c cc:Nat):Nat→Value
 |0=>.pointer (some ⟨t.T,0,none⟩)
 |1=>.pointer (some ⟨t.T,0,none⟩)
 |2=>.pointer (some ⟨t.T,0,none⟩)
 |3=>.agg t.book.toArray
 |4=>.int .i64 cc
 |5=>.int .i64 (t.bg (t.tar cc))
 |6=>.int .i64 c
 |_=>.bool (t.bg (t.tar cc)==(c:Int))
noncomputable def Iu:Code:=match Tryz.f142.body with
 |some (.seq _ (.seq _ (.block _ (.loop (.seq _ (.seq _ (.seq (.block _ (.seq _ (.seq r _))) _)))))))=>r
 |_=>.skip
noncomputable def ops4:Array Oper:=match Iu with
 |.region _ ops _=>ops
 |_=>#[]
theorem Uo{l:Array Bool}{i:Nat}{xs vs:Nat→Value}(h:∀k,l.getD k false=true→xs k=vs k):∀k,(l.setIfInBounds i true).getD k false=true→upd xs i (vs i) k=vs k:=by
 intro k hk;by_cases e:k=i
 ·subst e;rw[upd_same]
 ·rw[upd_ne xs _ e];rw[getD_set_ne false (λh=>e h.symm)]at hk;exact h k hk
theorem Jh{Y:Cf}{a:Act}{o:Oper}{b p:Nat}{ty:TypeId}{cs:List Value}{d:TypeDesc}{x:Operand}(hop:o.op=.load ty x)(hx:a.eval x=.pointer (some ⟨b,p,none⟩))(hc:w.rangeAt b p cs)(hu:Y.P.underlying ty=some d)(hd:d.isRow=true)
  (hi:(Y.P.info? ty).map (·.size)=some cs.length) (hcan:∀p,Can Y c O ⟨b,p,none⟩):(execOp a.eval o).run Y.P w=.ok (.value (.agg cs.toArray)) w∧∀e∈(execOp a.eval o).events Y.P w #[],FC Y c O e:=by
 obtain⟨h1,h2⟩:=Ji (X:=Y) hop hx hc hu hd hi;refine⟨h1,λe he=>?_⟩;obtain⟨j,rfl⟩:=h2 e he;exact⟨_,rfl,hcan _⟩
theorem zV{ops:Array Oper}{l:Array Bool}(hsz:l.size=ops.size)(hr:Region.ready .any ops l=[])(hd:((List.range ops.size).all λi=>((ops[i]?).map λo=>o.after.all λe=>decide (e.on<i)).getD true)=true):∀k,k<ops.size→l.getD k false=true:=by
 intro k
 induction k using Nat.strongRecOn with
 |_ k ih=>
 intro hk;cases h:l.getD k false with
 |true=>rfl
 |false=>
  exfalso;have hmem:k∈Region.ready .any ops l:=by
   refine mem_ready.2 ⟨?_,ops[k],Array.getElem?_eq_getElem hk,λe he _=>?_⟩
   ·have hlt:k<l.size:=by omega
    simp[hlt]at h ⊢;exact h
   ·have h1:=List.all_eq_true.1 hd k (List.mem_range.2 hk);rw[Array.getElem?_eq_getElem hk]at h1;simp only[Option.map_some,Option.getD_some]at h1;have h2:=Array.all_eq_true_iff_forall_mem.1 h1 e he;have h3:e.on<k:=by simpa using h2
    exact ih e.on h3 (by omega)
  rw[hr]at hmem;cases hmem
set_option maxRecDepth 100000 in
theorem reg4{t:Til}{cc:Nat}(hcc:cc<t.n):∃n,∀(w:World) (O:Own) (x y:Nat) (acc:Int) (ds:List Deferred) (t6 t7 t8 t9 t10 t11 t12 t13 t14 t15 t24 t25 t26 t27 t28 t29 t30 t31:Value) (xs:Nat→Value),AtY (ne:=ne) (hW:=hW) (hC:=hC) (S:=S) c t x acc y cc O w→
  wpO (cf S Wg C B ne hW hC) false c 142 Iu n (λe a w' O'=>e=.normal∧AtY (ne:=ne) (hW:=hW) (hC:=hC) (S:=S) c t x acc y cc O' w'∧∃xs:Nat→Value,xs 7=.bool (t.bg (t.tar cc)==(c:Int))∧a=⟨#[.pointer (some ⟨Wg,0,none⟩),.pointer (some ⟨t.b1,0,none⟩),.pointer (some ⟨x,0,none⟩),.pointer (some ⟨C,0,none⟩),.int .i64 cc,.pointer (some ⟨y,0,none⟩),t6,t7,t8,t9,t10,t11,t12,t13,t14,t15,xs 0,xs 1,xs 2,xs 3,xs 4,xs 5,xs 6,xs 7,t24,t25,t26,t27,t28,t29,t30,t31],ds⟩)
   ⟨#[.pointer (some ⟨Wg,0,none⟩),.pointer (some ⟨t.b1,0,none⟩),.pointer (some ⟨x,0,none⟩),.pointer (some ⟨C,0,none⟩),.int .i64 cc,.pointer (some ⟨y,0,none⟩),t6,t7,t8,t9,t10,t11,t12,t13,t14,t15,xs 0,xs 1,xs 2,xs 3,xs 4,xs 5,xs 6,xs 7,t24,t25,t26,t27,t28,t29,t30,t31],ds⟩ w O:=by
 obtain⟨n88,h88⟩:=coin88 (ne:=ne) (hW:=hW) (hC:=hC) (S:=S) (c:=c) hcc;refine⟨8 * (n88+3)+2,λw O x y acc ds t6 t7 t8 t9 t10 t11 t12 t13 t14 t15 t24 t25 t26 t27 t28 t29 t30 t31 xs hA=>?_⟩;simp only[Iu,Tryz.f142];refine rE (K:=n88+3) (by kernel_rfl) (λl a w O=>l.size=8∧∃xs:Nat→Value,a=⟨#[.pointer (some ⟨Wg,0,none⟩),.pointer (some ⟨t.b1,0,none⟩),.pointer (some ⟨x,0,none⟩),.pointer (some ⟨C,0,none⟩),.int .i64 cc,.pointer (some ⟨y,0,none⟩),t6,t7,t8,t9,t10,t11,t12,t13,t14,t15,xs 0,xs 1,xs 2,xs 3,xs 4,xs 5,xs 6,xs 7,t24,t25,t26,t27,t28,t29,t30,t31],ds⟩∧(∀k,l.getD k false=true→xs k=vs4 t c cc k)∧AtY (ne:=ne) (hW:=hW) (hC:=hC) (S:=S) c t x acc y cc O w) (λw₁ h₁=>?_) ?_ ?_
 ·refine⟨by simp,xs,rfl,λk hk=>?_,(hA.rely h₁).rely (GN _)⟩;exfalso;rw[aH,Array.getElem?_replicate]at hk;split at hk<;>simp at hk
 ·rintro i l a w O hi ⟨hsz,xs,rfl,hxs,hA⟩ rest n hn;have hsz':∀i,(l.setIfInBounds i true).size=8:=λi=>by simpa using hsz
  have hset:=λi=>Uo (i:=i) hxs;obtain⟨_,o,ho,SY⟩:=mem_ready.1 hi;have hi8:i<8:=(Array.getElem?_eq_some_iff.1 ho).1;have hB:=hA.base.hB;have sT:=hA.base.sZ.sT;have s1:=hA.base.sZ.s1;have dep:∀o',ops4[i]?=some o'→∀e∈o'.after,Region.binds .any e=true→xs e.on=vs4 t c cc e.on:=λo' h2 e h1 hb=>by
   rw[show ops4[i]?=some o from ho]at h2;cases h2;exact hxs e.on (SY e h1 hb)
  match i,hi8,ho,hn,dep with
  |0,_,ho,hn,dep=>
   refine iM (n:=n+1) (bC (v:=vs4 t c cc 0) rfl (by rfl) hB hA.base.th (λw₁ h₁=>?_) λw₁ h₁=>hn _ _ _ ⟨hsz' _,upd xs 0 (vs4 t c cc 0),rfl,hset 0,hA.rely h₁⟩) (by omega);have hA:=hA.rely h₁;have hc:=hA.base.sZ.p;exact⟨by simp[execOp,go_sem,Act.eval,vs4, *],λe he=>by
    simp[execOp,go_sem,Act.eval, *]at he;subst he;exact⟨_,rfl,.inl s1⟩⟩
  |1,_,ho,hn,dep=>
   have e0:xs 0=vs4 t c cc 0:=dep _ rfl _ (Array.mem_of_getElem? (i:=0) rfl) rfl;simp only[vs4]at e0;refine iM (n:=n+1) (bC (v:=vs4 t c cc 1) rfl (by rfl) hB hA.base.th (λw₁ h₁=>?_) λw₁ h₁=>hn _ _ _ ⟨hsz' _,upd xs 1 (vs4 t c cc 1),rfl,hset 1,hA.rely h₁⟩) (by omega);have hA:=hA.rely h₁;skip;exact⟨by simp[execOp,go_sem,Act.eval,vs4, *],λe he=>by
    simp[execOp,go_sem,Act.eval, *]at he;skip⟩
  |2,_,ho,hn,dep=>
   have e1:xs 1=vs4 t c cc 1:=dep _ rfl _ (Array.mem_of_getElem? (i:=0) rfl) rfl;simp only[vs4]at e1;refine iM (n:=n+1) (bC (v:=vs4 t c cc 2) rfl (by rfl) hB hA.base.th (λw₁ h₁=>?_) λw₁ h₁=>hn _ _ _ ⟨hsz' _,upd xs 2 (vs4 t c cc 2),rfl,hset 2,hA.rely h₁⟩) (by omega);have hA:=hA.rely h₁;skip;exact⟨by simp[execOp,go_sem,Act.eval,vs4, *],λe he=>by
    simp[execOp,go_sem,Act.eval, *]at he;skip⟩
  |3,_,ho,hn,dep=>
   have e2:xs 2=vs4 t c cc 2:=dep _ rfl _ (Array.mem_of_getElem? (i:=0) rfl) rfl;simp only[vs4]at e2;refine iM (n:=n+1) (bC (v:=vs4 t c cc 3) rfl (by rfl) hB hA.base.th (λw₁ h₁=>?_) λw₁ h₁=>hn _ _ _ ⟨hsz' _,upd xs 3 (vs4 t c cc 3),rfl,hset 3,hA.rely h₁⟩) (by omega);exact Jh (x:=.tmp 18) (cs:=t.book) (b:=t.T) (p:=0) rfl e2 (hA.rely h₁).base.sZ.book Tryz.underlying123 rfl info77 (λp=>.inl sT)
  |4,_,ho,hn,dep=>
   refine iM (n:=n+1) (bC (v:=vs4 t c cc 4) rfl (by rfl) hB hA.base.th (λw₁ h₁=>?_) λw₁ h₁=>hn _ _ _ ⟨hsz' _,upd xs 4 (vs4 t c cc 4),rfl,hset 4,hA.rely h₁⟩) (by omega);have hA:=hA.rely h₁;skip;exact⟨by simp[execOp,go_sem,Act.eval,vs4, *],λe he=>by
    simp[execOp,go_sem,Act.eval, *]at he;skip⟩
  |5,_,ho,hn,dep=>
   have e3:xs 3=vs4 t c cc 3:=dep _ rfl _ (Array.mem_of_getElem? (i:=0) rfl) rfl;have e4:xs 4=vs4 t c cc 4:=dep _ rfl _ (Array.mem_of_getElem? (i:=1) rfl) rfl;simp only[vs4]at e3 e4;refine iM (n:=n+n88+3) (Qb (Post:=λv w' O'=>v=.int .i64 (t.bg (t.tar cc))∧Base (ne:=ne) (hW:=hW) (hC:=hC) (S:=S) c t w' O'∧Kept C c O w O' w') rfl (by rfl) rfl ?_ λv w' O' hp=>?_) (by omega)
   ·have:=h88 w O hA.base;simpa[Act.eval,e3,e4]using this
   ·obtain⟨rfl,hb,hk⟩:=hp;exact hn _ _ _ ⟨hsz' _,upd xs 5 (vs4 t c cc 5),rfl,hset 5,hA.kept hb hk⟩
  |6,_,ho,hn,dep=>
   refine iM (n:=n+1) (bC (v:=vs4 t c cc 6) rfl (by rfl) hB hA.base.th (λw₁ h₁=>?_) λw₁ h₁=>hn _ _ _ ⟨hsz' _,upd xs 6 (vs4 t c cc 6),rfl,hset 6,hA.rely h₁⟩) (by omega);have hA:=hA.rely h₁;have hc:=hA.cx;exact⟨by simp[execOp,go_sem,Act.eval,vs4, *],λe he=>by
    simp[execOp,go_sem,Act.eval, *]at he;subst he;exact⟨_,rfl,.inr (.inl hA.ox)⟩⟩
  |7,_,ho,hn,dep=>
   have e5:xs 5=vs4 t c cc 5:=dep _ rfl _ (Array.mem_of_getElem? (i:=0) rfl) rfl;simp only[vs4]at e5;have e6:xs 6=vs4 t c cc 6:=dep _ rfl _ (Array.mem_of_getElem? (i:=1) rfl) rfl;simp only[vs4]at e6;refine iM (n:=n+1) (bC (v:=vs4 t c cc 7) rfl (by rfl) hB hA.base.th (λw₁ h₁=>?_) λw₁ h₁=>hn _ _ _ ⟨hsz' _,upd xs 7 (vs4 t c cc 7),rfl,hset 7,hA.rely h₁⟩) (by omega);have hA:=hA.rely h₁;skip;exact⟨by simp[execOp,go_sem,Act.eval,vs4, *],λe he=>by
    simp[execOp,go_sem,Act.eval, *]at he;skip⟩
 ·rintro l a w O hr ⟨hsz,xs,rfl,hxs,hA⟩;exact⟨rfl,hA,xs,hxs 7 (zV hsz hr (by kernel_rfl) 7 (by decide)),rfl⟩
end
end Crew
end
