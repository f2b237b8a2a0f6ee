/- The starter's loop, in company: printed by x19.py. -/
import Derived.Test.YtccjdkghgbbliaaGreatDoorA28
import Derived.Test.YtccjdkghgbbliaaGreatDoorA29
set_option linter.all false
namespace Go.Proofs.YtccjdkghgbbliaaGreatDoor
section
namespace Crew
set_option maxHeartbeats 1000000
set_option maxRecDepth 10000
open Go Go.Conc Go.ConcN Go.RowKit Go.Conc.Lib Go.ConcR.Gen Go.ConcN.Gen
open Go.ConcR (Payload DC0 WgAt KK wgBlock stA smA rd wr mk)
section
variable {S:Nat→Prop} {Wg C B:Nat} {ne:C≠Wg} {hW:Wg<B} {hC:C<B} {c:Nat} {O:Own} {w w₁:World}
structure FSt (t:Til) (O:Own) (w:World):Prop where
 sZ:jP (cf S Wg C B ne hW hC) t w
 hB:B≤w.heap.size
 th:There O w
 lo:∀b,O b→B≤b
 pay:PayAt C 3 w
 live:WgLive 268 Wg w
theorem FSt.rely{t:Til}(h:FSt (ne:=ne) (hW:=hW) (hC:=hC) (S:=S) t O w)(r:dh (cf S Wg C B ne hW hC) 3 O w w₁):FSt (ne:=ne) (hW:=hW) (hC:=hC) (S:=S) t O w₁:=⟨h.sZ.rely r,Nat.le_trans h.hB r.size,h.th.rely r,h.lo,r.pay h.pay,r.live h.live⟩
theorem FSt.base{t:Til}(h:FSt (ne:=ne) (hW:=hW) (hC:=hC) (S:=S) t O w):Base (ne:=ne) (hW:=hW) (hC:=hC) (S:=S) c t w O:=⟨h.sZ,h.hB,h.th,h.lo,h.pay,h.live⟩
theorem Base.fs{t:Til}(h:Base (ne:=ne) (hW:=hW) (hC:=hC) (S:=S) c t w O):FSt (ne:=ne) (hW:=hW) (hC:=hC) (S:=S) t O w:=⟨h.sZ,h.hB,h.th,h.lo,h.pay,h.live⟩
structure FX (t:Til) (x j:Nat) (O:Own) (w:World):Prop extends FSt (ne:=ne) (hW:=hW) (hC:=hC) (S:=S) t O w where
 ox:O x
 cx:w.cell? ⟨x,0,none⟩=some (.int .i64 j)
theorem FX.rely{t:Til}{x j:Nat}(h:FX (ne:=ne) (hW:=hW) (hC:=hC) (S:=S) t x j O w)(r:dh (cf S Wg C B ne hW hC) 3 O w w₁):FX (ne:=ne) (hW:=hW) (hC:=hC) (S:=S) t x j O w₁:=
 ⟨h.toFSt.rely r,h.ox,by have:=h.cx;simp only[World.cell?,r.own x h.ox]at this ⊢;exact this⟩
theorem FX.wg{t:Til}{x j:Nat}{v:Value}(h:FX (ne:=ne) (hW:=hW) (hC:=hC) (S:=S) t x j O w){st sm:Int}(hl:WgAt 268 Wg (w.setCell ⟨Wg,0,none⟩ v) st sm):FX (ne:=ne) (hW:=hW) (hC:=hC) (S:=S) t x j O (w.setCell ⟨Wg,0,none⟩ v):=by
 have hA:=aside_setCell w ⟨Wg,0,none⟩ v;have hx:=h.lo x h.ox;refine⟨⟨h.sZ.of λb hb o=>by simp only[World.cell?,hA.block b hb.2.2.1],by rw[hA.size];exact h.hB,λb hb=>by rw[hA.size];exact h.th b hb,h.lo,?_,⟨_,_,hl⟩⟩,h.ox,by have:=h.cx;simp only[World.cell?,hA.block x (show x≠Wg by omega)]at this ⊢;exact this⟩;obtain⟨cs,h1,h2⟩:=h.pay;exact⟨cs,(hA.block C ne).trans h1,h2⟩
noncomputable def ny:Code:=match Tryz.f80.body with
 |some (.seq _ (.seq _ (.seq _ (.seq (.seq _ (.block _ (.loop r))) _))))=>r
 |_=>.skip
noncomputable def xP:Code:=match Tryz.f80.body with
 |some (.seq _ (.seq _ (.seq _ (.seq _ r))))=>r
 |_=>.skip
noncomputable def c4:Code:=match ny with
 |.seq r _=>r
 |_=>.skip
noncomputable def c5:Code:=match ny with
 |.seq _ (.seq _ (.seq (.block _ (.seq r _)) _))=>r
 |_=>.skip
noncomputable def c8:Code:=match ny with
 |.seq _ (.seq _ (.seq _ r))=>r
 |_=>.skip
set_option maxRecDepth 100000 in
theorem c4_co(t:Til)(nw j:Nat):∃n,∀(w:World) (O:Own) (R:Nat) (ds:List Deferred) (t5 t6 t7 t8 t9 t10 t11 t14 t15 t16 t17 t18 t19 t20:Value),FSt (ne:=ne) (hW:=hW) (hC:=hC) (S:=S) t O w→
  wpO (cf S Wg C B ne hW hC) true 3 80 c4 n (λe a w' O'=>e=.normal∧O'=O∧FSt (ne:=ne) (hW:=hW) (hC:=hC) (S:=S) t O w'∧a=⟨#[.pointer (some ⟨t.T,0,none⟩),.pointer (some ⟨t.b1,0,none⟩),.pointer (some ⟨R,0,none⟩),.pointer (some ⟨C,0,none⟩),.pointer (some ⟨Wg,0,none⟩),t5,t6,t7,t8,t9,t10,t11,.int .i64 nw,.int .i64 j,.bool (decide ((j:Int)<nw)),t15,t16,t17,t18,t19,t20],ds⟩) ⟨#[.pointer (some ⟨t.T,0,none⟩),.pointer (some ⟨t.b1,0,none⟩),.pointer (some ⟨R,0,none⟩),.pointer (some ⟨C,0,none⟩),.pointer (some ⟨Wg,0,none⟩),t5,t6,t7,t8,t9,t10,t11,.int .i64 nw,.int .i64 j,t14,t15,t16,t17,t18,t19,t20],ds⟩ w O:=by
 co_apply ah
 intro w O R ds t5 t6 t7 t8 t9 t10 t11 t14 t15 t16 t17 t18 t19 t20 hF;simp only[c4,ny,Tryz.f80]
 co_apply iH
 simp only[aG,aC,aF,Nat.reduceAdd,Nat.zero_add,List.range,List.range.loop]
 co_apply bC (v:=.bool (decide ((j:Int)<nw))) rfl (by rfl) hF.hB hF.th
 ·intro w₁ h₁;have hG:=hF.rely h₁;skip;exact⟨by simp[execOp,go_sem,Act.eval, *],λe he=>by
   simp[execOp,go_sem,Act.eval, *]at he;skip⟩
 intro w₁ h₁;replace hF:=hF.rely h₁;clear h₁
 try walk_nrm
 co_apply je
 exact⟨rfl,rfl,hF,rfl⟩
set_option maxRecDepth 100000 in
theorem c8_co(t:Til)(nw j:Nat)(hj:(j:Int)<9223372036854775807):∃n,∀(w:World) (O:Own) (R:Nat) (ds:List Deferred) (t5 t6 t7 t8 t9 t10 t11 t14 t15 t16 t17 t18 t19 t20:Value),FSt (ne:=ne) (hW:=hW) (hC:=hC) (S:=S) t O w→
  wpO (cf S Wg C B ne hW hC) true 3 80 c8 n (λe a w' O'=>e=.normal∧O'=O∧FSt (ne:=ne) (hW:=hW) (hC:=hC) (S:=S) t O w'∧a=⟨#[.pointer (some ⟨t.T,0,none⟩),.pointer (some ⟨t.b1,0,none⟩),.pointer (some ⟨R,0,none⟩),.pointer (some ⟨C,0,none⟩),.pointer (some ⟨Wg,0,none⟩),t5,t6,t7,t8,t9,t10,t11,.int .i64 nw,.int .i64 ((j+1:Nat):Int),t14,t15,t16,t17,.int .i64 ((j+1:Nat):Int),t19,t20],ds⟩) ⟨#[.pointer (some ⟨t.T,0,none⟩),.pointer (some ⟨t.b1,0,none⟩),.pointer (some ⟨R,0,none⟩),.pointer (some ⟨C,0,none⟩),.pointer (some ⟨Wg,0,none⟩),t5,t6,t7,t8,t9,t10,t11,.int .i64 nw,.int .i64 j,t14,t15,t16,t17,t18,t19,t20],ds⟩ w O:=by
 have hwrap:IntKind.wrap .i64 ((j:Int)+1)=((j+1:Nat):Int):=by rw[IntKind.wrap_i64];omega
 co_apply ah
 intro w O R ds t5 t6 t7 t8 t9 t10 t11 t14 t15 t16 t17 t18 t19 t20 hF;simp only[c8,ny,Tryz.f80]
 co_apply iH
 simp only[aG,aC,aF,Nat.reduceAdd,Nat.zero_add,List.range,List.range.loop]
 co_apply bC (v:=.int .i64 ((j+1:Nat):Int)) rfl (by rfl) hF.hB hF.th
 ·intro w₁ h₁;have hG:=hF.rely h₁;skip;exact⟨by simp[execOp,go_sem,Act.eval, *],λe he=>by
   simp[execOp,go_sem,Act.eval, *]at he;skip⟩
 intro w₁ h₁;replace hF:=hF.rely h₁;clear h₁
 try walk_nrm
 co_apply bC (v:=.int .i64 ((j+1:Nat):Int)) rfl (by rfl) hF.hB hF.th
 ·intro w₁ h₁;have hG:=hF.rely h₁;skip;exact⟨by simp[execOp,go_sem,Act.eval, *],λe he=>by
   simp[execOp,go_sem,Act.eval, *]at he;skip⟩
 intro w₁ h₁;replace hF:=hF.rely h₁;clear h₁
 try walk_nrm
 co_apply je
 exact⟨rfl,rfl,hF,rfl⟩
set_option maxRecDepth 100000 in
theorem c5_co(t:Til)(nw j:Nat):∃n,∀(w:World) (O:Own) (R:Nat) (ds:List Deferred) (t5 t6 t7 t8 t9 t10 t11 t14 t15 t16 t17 t18 t19 t20:Value),FSt (ne:=ne) (hW:=hW) (hC:=hC) (S:=S) t O w→
  wpO (cf S Wg C B ne hW hC) true 3 80 c5 n (λe a w' O'=>e=.normal∧∃x,FX (ne:=ne) (hW:=hW) (hC:=hC) (S:=S) t x j O' w'∧a=⟨#[.pointer (some ⟨t.T,0,none⟩),.pointer (some ⟨t.b1,0,none⟩),.pointer (some ⟨R,0,none⟩),.pointer (some ⟨C,0,none⟩),.pointer (some ⟨Wg,0,none⟩),.pointer (some ⟨x,0,none⟩),t6,t7,t8,t9,t10,t11,.int .i64 nw,.int .i64 j,t14,.int .i64 j,t16,t17,t18,t19,t20],ds⟩) ⟨#[.pointer (some ⟨t.T,0,none⟩),.pointer (some ⟨t.b1,0,none⟩),.pointer (some ⟨R,0,none⟩),.pointer (some ⟨C,0,none⟩),.pointer (some ⟨Wg,0,none⟩),t5,t6,t7,t8,t9,t10,t11,.int .i64 nw,.int .i64 j,t14,t15,t16,t17,t18,t19,t20],ds⟩ w O:=by
 co_apply ah
 intro w O R ds t5 t6 t7 t8 t9 t10 t11 t14 t15 t16 t17 t18 t19 t20 hF;simp only[c5,ny,Tryz.f80]
 co_apply iH
 simp only[aG,aC,aF,Nat.reduceAdd,Nat.zero_add,List.range,List.range.loop]
 co_apply bC (v:=.int .i64 j) rfl (by rfl) hF.hB hF.th
 ·intro w₁ h₁;have hG:=hF.rely h₁;skip;exact⟨by simp[execOp,go_sem,Act.eval, *],λe he=>by
   simp[execOp,go_sem,Act.eval, *]at he;skip⟩
 intro w₁ h₁;replace hF:=hF.rely h₁;clear h₁
 try walk_nrm
 co_apply BJ (cells:=#[.int .i64 0]) (ty:=3) rfl (by rfl) hF.hB
 ·intro w₁ h₁;exact⟨by simp[execOp,Instr.alloc,newVar,newRow,go_sem,Act.eval],by simp[execOp,Instr.alloc,newVar,newRow,go_sem,Act.eval]⟩
 intro w₂ h₂;replace hF:=hF.rely h₂;have hzero:(w₂.alloc (.cells #[.int .i64 0] 3)).heap[w₂.heap.size]?=some (.cells #[.int .i64 0] 3 (0,0)):=Array.getElem?_push_size;have hF':=((hF.base (c:=3)).new (.cells #[.int .i64 0] 3)).fs;clear hF;obtain⟨O₂,hO₂⟩:∃O₂:Own,O₂=λb=>O b∨b=w₂.heap.size:=⟨_,rfl⟩
 rw[← hO₂]at hF' ⊢;have hy:O₂ w₂.heap.size:=by rw[hO₂];exact .inr rfl
 clear h₂ hO₂;generalize w₂.alloc (.cells #[.int .i64 0] 3)=w₃ at hF' hzero ⊢;generalize w₂.heap.size=x at hF' hzero hy ⊢
 try walk_nrm
 co_apply BK (g:=x) (wf:=λw=>w.setCell ⟨x,0,none⟩ (.int .i64 j)) rfl (by rfl) hF'.hB hF'.th hy (hF'.lo x hy)
 ·intro w₁ h₁;have hz:=(h₁.own x hy).trans hzero;have hc:w₁.cell? ⟨x,0,none⟩=some (.int .i64 0):=by simp[World.cell?,hz]
  have hf:w₁.frozen? ⟨x,0,none⟩=false:=by simp[World.frozen?,hz]
  have hA:=aside_setCell w₁ ⟨x,0,none⟩ (.int .i64 j);refine⟨by simp[execOp,go_sem,Act.eval,stored, *],λe he=>?_,hA.size,λb hb=>hA.block b hb,_,_,_,by rw[setCell_eq_setRow w₁ x 0 _ _ _ _ hz];exact setRow_heap _ _ _ _ _ _ hz⟩;simp[execOp,go_sem,Act.eval,storedEv, *]at he;exact⟨0,by rw[he];rfl⟩
 intro w₅ h₅;have hz:=(h₅.own x hy).trans hzero;replace hF':=hF'.rely h₅;have hxB:=hF'.lo x hy;have hA:=aside_setCell w₅ ⟨x,0,none⟩ (.int .i64 j);have hc:w₅.cell? ⟨x,0,none⟩=some (.int .i64 0):=by simp[World.cell?,hz]
 have hX:FX (ne:=ne) (hW:=hW) (hC:=hC) (S:=S) t x j O₂ (w₅.setCell ⟨x,0,none⟩ (.int .i64 j)):=by
  refine⟨⟨hF'.sZ.of λb hb o=>?_,by rw[hA.size];exact hF'.hB,λb hb=>by rw[hA.size];exact hF'.th b hb,hF'.lo,?_,?_⟩,hy,World.cell?_setCell_same _ _ _ hc⟩
  ·have:b≠x:=by have:=hb.1;show b≠x;intro e;subst e;exact absurd hb.1 (by show¬_<B;omega)
   simp only[World.cell?,hA.block b this]
  ·obtain⟨cs,h1,h2⟩:=hF'.pay;exact⟨cs,(hA.block C (by show C≠x;omega)).trans h1,h2⟩
  ·obtain⟨st,sm,hl⟩:=hF'.live;exact⟨st,sm,hl.of_block (hA.block Wg (by show Wg≠x;omega))⟩
 clear hF' hzero hz h₅ hA hc;generalize w₅.setCell ⟨x,0,none⟩ (.int .i64 j)=w₆ at hX ⊢
 try walk_nrm
 co_apply je
 exact⟨rfl,x,hX,rfl⟩
end
end Crew
end
section
namespace Crew
set_option maxHeartbeats 1000000
set_option maxRecDepth 10000
open Go Go.Conc Go.ConcN Go.RowKit Go.Conc.Lib Go.ConcR.Gen Go.ConcN.Gen
open Go.ConcR (Payload DC0 WgAt KK wgBlock stA smA rd wr mk)
section mono
variable {X:Cf} {Fin Fin' Anch D6:Goroutine→World→Own→Prop} {g:Goroutine} {w:World} {O:Own}
theorem AtAcq.mono(hF:∀g w O,Fin g w O→Fin' g w O)(h:AtAcq X Fin g w O):AtAcq X Fin' g w O:=⟨h.1,let ⟨g',e,k⟩:=h.2;⟨g',e,hF _ _ _ k⟩⟩
theorem AtKe.mono(hF:∀g w O,Fin g w O→Fin' g w O)(h:AtKe X Fin g w O):AtKe X Fin' g w O:=⟨h.1,let ⟨g',e,m,k⟩:=h.2;⟨g',e,m,k.weak λ_ _ _=>AtAcq.mono hF⟩⟩
theorem AtW4.mono(hF:∀g w O,Fin g w O→Fin' g w O)(h:AtW4 X Fin g w O):AtW4 X Fin' g w O:=⟨h.1,λx=>let ⟨g',e,m,k⟩:=h.2 x;⟨g',e,m,k.weak λ_ _ _=>AtKe.mono hF⟩⟩
theorem AtW3.mono(hF:∀g w O,Fin g w O→Fin' g w O)(h:AtW3 X Fin g w O):AtW3 X Fin' g w O:=⟨h.1,h.2.1,h.2.2.1,λx=>let ⟨g',e,m,k⟩:=h.2.2.2 x;⟨g',e,m,k.weak λ_ _ _=>AtW4.mono hF⟩⟩
theorem AtW2.mono(hF:∀g w O,Fin g w O→Fin' g w O)(hA:∀g w O,Anch g w O→D6 g w O){vs:Nat}(h:AtW2 X Fin Anch vs g w O):AtW2 X Fin' D6 vs g w O:=
 ⟨h.1,λv hv hw=>⟨λe=>let ⟨g',e,m,k⟩:=(h.2 v hv hw).1 e;⟨g',e,m,k.weak λ_ _ _=>AtW3.mono hF⟩,λe=>let ⟨g',e,m,k⟩:=(h.2 v hv hw).2 e;⟨g',e,m,k.weak hA⟩⟩⟩
theorem AtW1.mono(hF:∀g w O,Fin g w O→Fin' g w O)(hA:∀g w O,Anch g w O→D6 g w O)(h:AtW1 X Fin Anch g w O):AtW1 X Fin' D6 g w O:=
 ⟨h.1,λv hv hw=>let ⟨g',e,k1,k2⟩:=h.2 v hv hw;⟨g',e,λx=>let ⟨m,k⟩:=k1 x;⟨m,k.weak λ_ _ _=>AtKe.mono hF⟩,λx=>let ⟨m,k⟩:=k2 x;⟨m,k.weak λ_ _ _=>AtW2.mono hF hA⟩⟩⟩
theorem AtKd.mono(hA:∀g w O,Anch g w O→D6 g w O)(h:AtKd X Anch g w O):AtKd X D6 g w O:=⟨h.1,let ⟨g',e,m,k⟩:=h.2;⟨g',e,m,k.weak hA⟩⟩
end mono
section
variable {S:Nat→Prop} {Wg C B:Nat} {ne:C≠Wg} {hW:Wg<B} {hC:C<B} {c:Nat} {O:Own} {w w₁:World}
structure FN (t:Til) (x j:Nat) (O:Own) (w:World):Prop where
 sZ:jP (cf S Wg C B ne hW hC) t w
 hB:B≤w.heap.size
 th:There O w
 lo:∀b,O b→B≤b
 pay:PayAt C 3 w
 ox:O x
 cx:w.cell? ⟨x,0,none⟩=some (.int .i64 j)
theorem FX.fn{t:Til}{x j:Nat}(h:FX (ne:=ne) (hW:=hW) (hC:=hC) (S:=S) t x j O w):FN (ne:=ne) (hW:=hW) (hC:=hC) (S:=S) t x j O w:=⟨h.sZ,h.hB,h.th,h.lo,h.pay,h.ox,h.cx⟩
theorem FN.fx{t:Til}{x j:Nat}(h:FN (ne:=ne) (hW:=hW) (hC:=hC) (S:=S) t x j O w)(l:WgLive 268 Wg w):FX (ne:=ne) (hW:=hW) (hC:=hC) (S:=S) t x j O w:=⟨⟨h.sZ,h.hB,h.th,h.lo,h.pay,l⟩,h.ox,h.cx⟩
theorem FN.rely{t:Til}{x j:Nat}(h:FN (ne:=ne) (hW:=hW) (hC:=hC) (S:=S) t x j O w)(r:dh (cf S Wg C B ne hW hC) 3 O w w₁):FN (ne:=ne) (hW:=hW) (hC:=hC) (S:=S) t x j O w₁:=
 ⟨h.sZ.rely r,Nat.le_trans h.hB r.size,h.th.rely r,h.lo,r.pay h.pay,h.ox,by have:=h.cx;simp only[World.cell?,r.own x h.ox]at this ⊢;exact this⟩
theorem FN.wg{t:Til}{x j:Nat}{v:Value}(h:FN (ne:=ne) (hW:=hW) (hC:=hC) (S:=S) t x j O w):FN (ne:=ne) (hW:=hW) (hC:=hC) (S:=S) t x j O (w.setCell ⟨Wg,0,none⟩ v):=by
 have hA:=aside_setCell w ⟨Wg,0,none⟩ v;have hx:=h.lo x h.ox;refine⟨h.sZ.of λb hb o=>by simp only[World.cell?,hA.block b hb.2.2.1],by rw[hA.size];exact h.hB,λb hb=>by rw[hA.size];exact h.th b hb,h.lo,?_,h.ox,by have:=h.cx;simp only[World.cell?,hA.block x (show x≠Wg by omega)]at this ⊢;exact this⟩;obtain⟨cs,h1,h2⟩:=h.pay;exact⟨cs,(hA.block C ne).trans h1,h2⟩
def Sh(t:Til)(Wg C R:Nat)(a:Act):Prop:=∃t5 t6 t7 t8 t9 t10 t11 t12 t13 t14 t15 t16 t17 t18 t19 t20:Value,a=⟨#[.pointer (some ⟨t.T,0,none⟩),.pointer (some ⟨t.b1,0,none⟩),.pointer (some ⟨R,0,none⟩),.pointer (some ⟨C,0,none⟩),.pointer (some ⟨Wg,0,none⟩),t5,t6,t7,t8,t9,t10,t11,t12,t13,t14,t15,t16,t17,t18,t19,t20],[]⟩
def ShJ(t:Til)(Wg C R nw j:Nat)(a:Act):Prop:=∃t5 t6 t7 t8 t9 t10 t11 t14 t15 t16 t17 t18 t19 t20:Value,a=⟨#[.pointer (some ⟨t.T,0,none⟩),.pointer (some ⟨t.b1,0,none⟩),.pointer (some ⟨R,0,none⟩),.pointer (some ⟨C,0,none⟩),.pointer (some ⟨Wg,0,none⟩),t5,t6,t7,t8,t9,t10,t11,.int .i64 nw,.int .i64 j,t14,t15,t16,t17,t18,t19,t20],[]⟩
noncomputable def b60:Frame:=base 80
noncomputable def ops9:Array Oper:=match xP with
 |.seq (.region _ ops _) _=>ops
 |_=>#[]
noncomputable def r10:Code:=match xP with
 |.seq _ r=>r
 |_=>.skip
noncomputable def Hd (a:Act) (cs:List Frame):Goroutine:=G (b60.at a [.code ny,.inLoop ny,.inBlock 0,.code xP]) cs
def F9(t:Til)(w:World):Prop:=jP (cf S Wg C B ne hW hC) t w∧B≤w.heap.size
def zN(t:Til)(R:Nat)(cs:List Frame):Goroutine→World→Own→Prop:=λg w O=>∃a,Sh t Wg C R a∧Nu (cf S Wg C B ne hW hC) Tryz.link (F9 (ne:=ne) (hW:=hW) (hC:=hC) (S:=S) t) (b60.at a (.inRegion ops9 [0]::[.code r10])) cs g w O
def FinE(t:Til)(Wg C R:Nat)(cs:List Frame):Goroutine→World→Own→Prop:=λg w O=>∃a,Sh t Wg C R a∧FinO Tryz.prog (G (b60.at a (.inRegion ops9 []::[.code r10])) cs) g w O
def FH(t:Til)(nw:Nat)(Anch:Goroutine→World→Own→Prop):Nat→St
 |0=>AtKd (cf S Wg C B ne hW hC) Anch
 |r+1=>AtKdS (cf S Wg C B ne hW hC) t.val (nw-(r+1)) (λg w=>Spawns (cf S Wg C B ne hW hC) t.val nw Anch r g w Nobody)
theorem spawns_iff(t:Til)(nw:Nat)(Anch:Goroutine→World→Own→Prop)(r:Nat)(g:Goroutine)(w:World)(O:Own):Spawns (cf S Wg C B ne hW hC) t.val nw Anch r g w O↔∃m,GO (cf S Wg C B ne hW hC) true 3 (FH (ne:=ne) (hW:=hW) (hC:=hC) (S:=S) t nw Anch r) m g w O:=by cases r<;>exact Iff.rfl
set_option maxRecDepth 100000 in
theorem Ur(t:Til)(nw R:Nat)(hnw:nw≤3)(htn:(t.n:Int)<9223372036854775807)(cs:List Frame):∀(r:Nat),r≤nw→∃m,∀(a:Act) (w:World),ShJ t Wg C R nw (nw-r) a→FSt (ne:=ne) (hW:=hW) (hC:=hC) (S:=S) t Nobody w→
  GO (cf S Wg C B ne hW hC) true 3 (FH (ne:=ne) (hW:=hW) (hC:=hC) (S:=S) t nw (zN (ne:=ne) (hW:=hW) (hC:=hC) (S:=S) t R cs) r) m (Hd a cs) w Nobody:=by
 intro r
 induction r with
 |zero=>
  intro _;obtain⟨n4,h4⟩:=c4_co (ne:=ne) (hW:=hW) (hC:=hC) (S:=S) t nw nw;refine⟨(20+8)+n4+1,λa w ha hF=>?_⟩;obtain⟨t5,t6,t7,t8,t9,t10,t11,t14,t15,t16,t17,t18,t19,t20,rfl⟩:=ha;refine GO.ctl rfl (λw=>stepG_seq) ?_;refine h4 w Nobody R [] _ _ _ _ _ _ _ _ _ _ _ _ _ _ hF b60 _ cs _ (20+8) rfl (by simp[b60,base]) λe a' w' O' hq=>?_;obtain⟨rfl,rfl,hF,rfl⟩:=hq;refine GO.ctl (n:=20+7) rfl (λw=>stepG_seq) ?_;refine GO.ctl (n:=20+6) rfl (λw=>stepG_cond (t:=decide ((nw:Int)<nw)) rfl) ?_;have hff:decide ((nw:Int)<nw)=false:=by simp
  rw[hff];simp only[Bool.false_eq_true,if_false];refine GO.ctl (n:=20+5) rfl (λw=>stepG_exit (k':=[.code xP]) rfl) ?_;simp only[xP,Tryz.f80];refine GO.ctl (n:=20+4) rfl (λw=>stepG_seq) ?_;refine GO.ctl (n:=20+3) rfl (λw=>stepG_region) ?_;simp only[aG,aC,aF,Nat.reduceAdd,Nat.zero_add,List.range,List.range.loop];refine GO.step (n:=20+2) rfl λw₁ h₁=>goes_call rfl rfl (by decide) rfl Tryz.wgLib.f_wait (nm_wait Tryz.link) rfl ⟨DO.idle _,?_⟩;replace hF:=hF.rely h₁;have hWs:=λa₀=>waitStart (X:=(cf S Wg C B ne hW hC)) (L:=Tryz.link) (F:=F9 (ne:=ne) (hW:=hW) (hC:=hC) (S:=S) t) (O:=Nobody) (b₀:=b60) (a₀:=a₀) (ops₀:=ops9) (i₀:=0) (rest₀:=[]) (k₀:=[.code r10]) (cs:=cs) Tryz.wgLib (λw w₁ r h=>⟨h.1.rely r,Nat.le_trans h.2 r.size⟩) w₁ ⟨⟨hF.sZ,hF.hB⟩,hF.live⟩;simp only[body_wait,waitFn,Option.getD_some]at hWs
  walk_nrmf waitFn
  refine GO.mono (GO.weak (λg w O h=>?_) (hWs _)) (by omega);exact AtKd.mono (λg w O h=>⟨_,⟨_,_,_,_,_,_,_,_,_,_,_,_,_,_,_,_,rfl⟩,h⟩) h
 |succ r ih=>
  intro hr;obtain⟨mI,hI⟩:=ih (by omega);obtain⟨j,hj⟩:∃j,nw - (r+1)=j:=⟨_,rfl⟩
  have hj1:nw-r=j+1:=by omega
  have hjn:j<nw:=by omega
  obtain⟨n4,h4⟩:=c4_co (ne:=ne) (hW:=hW) (hC:=hC) (S:=S) t nw j;obtain⟨n5,h5⟩:=c5_co (ne:=ne) (hW:=hW) (hC:=hC) (S:=S) t nw j;obtain⟨n8,h8⟩:=c8_co (ne:=ne) (hW:=hW) (hC:=hC) (S:=S) t nw j (by omega);obtain⟨mW,hWk⟩:=works97 (ne:=ne) (hW:=hW) (hC:=hC) (S:=S) (c:=j) t (by omega) htn;rw[hj];refine⟨(((40+4)+n5)+6)+n4+1,λa w ha hF=>?_⟩;obtain⟨t5,t6,t7,t8,t9,t10,t11,t14,t15,t16,t17,t18,t19,t20,rfl⟩:=ha;refine GO.ctl rfl (λw=>stepG_seq) ?_;refine h4 w Nobody R [] _ _ _ _ _ _ _ _ _ _ _ _ _ _ hF b60 _ cs _ (((40+4)+n5)+6) rfl (by simp[b60,base]) λe a' w' O' hq=>?_;obtain⟨rfl,rfl,hF,rfl⟩:=hq;refine GO.ctl (n:=((40+4)+n5)+5) rfl (λw=>stepG_seq) ?_;refine GO.ctl (n:=((40+4)+n5)+4) rfl (λw=>stepG_cond (t:=decide ((j:Int)<nw)) rfl) ?_;have htt:decide ((j:Int)<nw)=true:=by simp;omega
  rw[htt];simp only[if_true];refine GO.ctl (n:=((40+4)+n5)+3) rfl (λw=>stepG_skip) ?_;refine GO.ctl (n:=((40+4)+n5)+2) rfl (λw=>stepG_seq) ?_;refine GO.ctl (n:=((40+4)+n5)+1) rfl (λw=>stepG_block) ?_;refine GO.ctl (n:=((40+4)+n5)) rfl (λw=>stepG_seq) ?_;refine h5 w' Nobody R [] _ _ _ _ _ _ _ _ _ _ _ _ _ _ hF b60 _ cs _ (40+4) rfl (by simp[b60,base]) λe a' w' O' hq=>?_;obtain⟨rfl,x,hX,rfl⟩:=hq;refine GO.ctl (n:=40+3) rfl (λw=>stepG_seq) ?_;refine GO.ctl (n:=40+2) rfl (λw=>stepG_region) ?_;simp only[aG,aC,aF,Nat.reduceAdd,Nat.zero_add,List.range,List.range.loop];refine GO.step (n:=40+1) rfl λw₁ h₁=>goes_call rfl rfl (by decide) rfl Tryz.wgLib.f_add (nm_add Tryz.link) rfl ⟨DO.idle _,?_⟩;replace hX:=hX.rely h₁;refine GO.more ?_;have hA:=@addPos _ Tryz.link (cf S Wg C B ne hW hC) j t.val (λg w=>Spawns (cf S Wg C B ne hW hC) t.val nw (zN (ne:=ne) (hW:=hW) (hC:=hC) (S:=S) t R cs) r g w Nobody) (FN (ne:=ne) (hW:=hW) (hC:=hC) (S:=S) t x j O') O';simp only[body_add,addFn,Option.getD_some]at hA
  walk_nrmf addFn
  show GO (cf S Wg C B ne hW hC) true 3 (FH (ne:=ne) (hW:=hW) (hC:=hC) (S:=S) t nw (zN (ne:=ne) (hW:=hW) (hC:=hC) (S:=S) t R cs) (r+1)) 40 _ w₁ O'
  simp only[FH,hj];refine hA (mT:=3) Tryz.wgLib trivial (λw w₁ r h=>h.rely r) (λw v h=>h.wg) (λw h=>h.hB) ?_ w₁ ⟨hX.fn,hX.live⟩;clear hA hX h₁ hF;rintro w₂ ⟨hN,hl⟩;have hX:=hN.fx hl;clear hN hl
  walk_nrm
  refine GO.ctl (n:=2) rfl (λw=>stepG_region_end) ?_;refine GO.ctl (n:=1) rfl (λw=>stepG_region) ?_;simp only[aG,aC,aF,Nat.reduceAdd,Nat.zero_add,List.range,List.range.loop];refine GO.step (n:=0) rfl λw₃ h₃=>?_;refine goes_oper_k rfl rfl (by decide) (λK hK=>?_)
  go_simp
  refine hK _ _ ⟨?_,?_⟩
  ·rw[listed_nil (by simp[go_sem];rfl)];exact DO.idle _
  clear hK K;replace hX:=hX.rely h₃;clear h₃;refine GO.stop λw₄ h₄=>?_;replace hX:=hX.rely h₄;clear h₄;refine⟨rfl,?_⟩;rw[stepG_spawn (d:=zW Wg t.b1 x C) (w':=w₄) (f:=.func 142) (c:=#[.pointer (some ⟨Wg,0,none⟩),.pointer (some ⟨t.b1,0,none⟩),.pointer (some ⟨x,0,none⟩),.pointer (some ⟨C,0,none⟩)]) rfl rfl (by decide) (by simp[go_sem,zW,Deferred.ofValue]) rfl];generalize hL:listed _ _ _ _ _=Lx;have hLx:Lx=#[]:=by
   rw[← hL];simp[listed,go_sem,seen,Deferred.ofValue];rfl
  subst hLx;clear hL;have hFS:FSt (ne:=ne) (hW:=hW) (hC:=hC) (S:=S) t Nobody w₄:=⟨hX.sZ,hX.hB,λ_ h=>h.elim,λ_ h=>h.elim,hX.pay,hX.live⟩
  refine⟨_,_,rfl,rfl,λhc=>⟨mW,hWk w₄ O' x ⟨hX.toFSt.base,hX.ox,hX.cx,?_⟩⟩,(spawns_iff (ne:=ne) (hW:=hW) (hC:=hC) (S:=S) t nw _ r _ _ _).2 ⟨(mI+1)+n8+2,?_⟩⟩
  ·have h3:j<3:=by omega
   simpa[h3]using hc
  ·walk_nrm
   refine GO.ctl rfl (λw=>stepG_region_end) ?_;refine GO.ctl rfl (λw=>stepG_inBlock) ?_;refine h8 w₄ Nobody R [] _ _ _ _ _ _ _ _ _ _ _ _ _ _ hFS b60 _ cs _ (mI+1) rfl (by simp[b60,base]) λe a' w' O' hq=>?_;obtain⟨rfl,rfl,hF,rfl⟩:=hq;refine GO.ctl rfl (λw=>stepG_inLoop) ?_;exact hI _ _ (by rw[hj1];exact⟨_,_,_,_,_,_,_,_,_,_,_,_,_,_,rfl⟩) hF
end
end Crew
end
section
namespace Crew
set_option maxHeartbeats 1000000
set_option maxRecDepth 10000
open Go Go.Conc Go.ConcN Go.RowKit Go.Conc.Lib Go.ConcR.Gen Go.ConcN.Gen
open Go.ConcR (Payload DC0 WgAt KK wgBlock stA smA rd wr mk)
open Go.Proofs.YtccjdkghgbbliaaGreatDoor.Lift (blk Good Shn Poi)
section
variable {S:Nat→Prop} {Wg C B:Nat} {ne:C≠Wg} {hW:Wg<B} {hC:C<B}
theorem Sh.put{t:Til}{R:Nat}{a:Act}(h:Sh t Wg C R a):Sh t Wg C R (a.put ((ops9[0]?).bind (·.dst)) (.tuple #[])):=by
 obtain⟨t5,t6,t7,t8,t9,t10,t11,t12,t13,t14,t15,t16,t17,t18,t19,t20,rfl⟩:=h;exact⟨t5,t6,t7,t8,t9,t10,t11,t12,t13,t14,t15,t16,t17,t18,.tuple #[],t20,rfl⟩
theorem KC(t:Til)(R:Nat)(cs:List Frame)(g:Goroutine)(w:World)(O:Own)(h:zN (ne:=ne) (hW:=hW) (hC:=hC) (S:=S) t R cs g w O):∃m,GO (cf S Wg C B ne hW hC) true 3 (AtW1 (cf S Wg C B ne hW hC) (FinE t Wg C R cs) (zN (ne:=ne) (hW:=hW) (hC:=hC) (S:=S) t R cs)) m g w O:=by
 obtain⟨a,hs,h⟩:=h
 obtain⟨m,hm⟩:=waitRound (X:=(cf S Wg C B ne hW hC)) (L:=Tryz.link) (F:=F9 (ne:=ne) (hW:=hW) (hC:=hC) (S:=S) t) (b₀:=b60) (a₀:=a) (ops₀:=ops9) (i₀:=0) (rest₀:=[]) (k₀:=[.code r10]) (cs:=cs) Tryz.wgLib rfl (λO w w₁ r h=>⟨h.1.rely r,Nat.le_trans h.2 r.size⟩)
  (λw ad v had h=>by
   have hA:=aside_setCell w ad v;rw[had]at hA;exact⟨h.1.of λb hb o=>by simp only[World.cell?,hA.block b hb.2.2.1],by rw[hA.size];exact h.2⟩) (λw h=>h.2) g w O h
 refine⟨m,hm.weak λg w O h=>AtW1.mono (λg w O h=>?_) (λg w O h=>?_) h⟩
 ·exact⟨_,hs.put,h⟩
 ·exact⟨a,hs,h⟩
structure Joined (S:Nat→Prop) (t:Til) (nw Wg C R B:Nat) (cs:List Frame) (wa:World) (gs':Array Goroutine) (w':World) (t':Trace):Prop where
 g0:∃a,Sh t Wg C R a∧gs'[0]?=some (G (b60.at a (.inRegion ops9 []::[.code r10])) cs)
 leavers:∃q,Leavers Tryz.prog t' gs' q
 past:Past (Shn λb=>S b∨b=Wg) w'.heap.size t'
 hB:B≤w'.heap.size
 good:Gd Tryz.prog w'
 low:∀b,b<B→b≠C→b≠Wg→w'.heap[b]?=wa.heap[b]?
 out:w'.heap[C]?=some (.cells #[if 0<nw then t.val 0 else .int .i64 0,if 1<nw then t.val 1 else .int .i64 0,if 2<nw then t.val 2 else .int .i64 0] 131)
 UG:WgAt 268 Wg w' 0 0
 env:w'.os=wa.os∧w'.output=wa.output
theorem Lp(t:Til)(nw R:Nat)(hnw:nw≤3)(htn:(t.n:Int)<9223372036854775807)(cs:List Frame)(hSW:¬S Wg)(hSC:¬S C){gs:Array Goroutine}{wa:World}{tr:Trace}{q:Nat→Nat}(sl:Option (Nat×Nat)){a:Act}
  (ha:ShJ t Wg C R nw 0 a) (h0:gs[0]?=some (Hd a cs)) (hL:Leavers Tryz.prog tr gs q) (hP:Past (Shn S) wa.heap.size tr) (hF:FSt (ne:=ne) (hW:=hW) (hC:=hC) (S:=S) t Nobody wa) (hgd:Gd Tryz.prog wa) (hwg:WgAt 268 Wg wa 0 0)
  (hini:wa.heap[C]?=some (.cells #[.int .i64 0,.int .i64 0,.int .i64 0] 131)) :
  ∃(M:Nat) (gs':Array Goroutine) (w':World) (sl':Option (Nat×Nat)) (t':Trace),runNT Tryz.prog M (crowd gs wa sl) tr=(.next (crowd gs' w' sl'),t')∧Joined S t nw Wg C R B cs wa gs' w' t':=by
 obtain⟨m,hm⟩:=Ur (ne:=ne) (hW:=hW) (hC:=hC) (S:=S) t nw R hnw htn cs nw (ak _);have hsp:Spawns (cf S Wg C B ne hW hC) t.val nw (zN (ne:=ne) (hW:=hW) (hC:=hC) (S:=S) t R cs) nw (Hd a cs) wa Nobody:=(spawns_iff (ne:=ne) (hW:=hW) (hC:=hC) (S:=S) t nw _ nw _ _ _).2 ⟨m,hm a wa (by rw[Nat.sub_self];exact ha) hF⟩;have hci:∀i,wa.cell? ⟨C,i,none⟩=(cf S Wg C B ne hW hC).ini i:=λi=>by
  simp only[World.cell?,hini]
  match i with
  |0=>rfl
  |1=>rfl
  |2=>rfl
  |i+3=>simp
 obtain⟨M,gs1,w1,sl1,t1,hr,hE⟩:=crew (X:=(cf S Wg C B ne hW hC)) (val:=t.val) (Fin:=FinE t Wg C R cs) (Anch:=zN (ne:=ne) (hW:=hW) (hC:=hC) (S:=S) t R cs) (nw:=nw) hnw (by omega)
  (λg w O h=>by obtain⟨a,_,T,rfl,_⟩:=h;rfl) (KC t R cs) hSW hSC sl h0 hL hP hF.hB hF.pay hgd hwg hci hsp
 obtain⟨a1,O1,h1,act,hsh,m1,hm1⟩:=hE.fin;obtain⟨q1,hL1⟩:=hE.leavers;obtain⟨M2,gs2,a2,w2,sl2,t2,q2,hr2,hs2,h02,⟨rfl,hrel⟩,hL2,hP2⟩:=walk_beside (P:=Tryz.prog) (Shun:=Shn λb=>S b∨b=Wg) (B:=w1.heap.size) (D:=DC0) (λw w' es hd e he=>by rw[hd.2]at he;simp at he) (m1+sumTo gs1.size q1) m1 gs1 a1 w1 sl1 t1 q1 (ak _) h1 hL1 hE.past hm1;obtain⟨d,rfl⟩:=hrel;refine⟨M+M2,gs2,w1.at d,sl2,t2,?_,⟨act,hsh,h02⟩,⟨q2,hL2⟩,hP2,hE.B,hE.good,hE.low,?_,hE.UG,hE.env⟩
 ·rw[runNT_add,hr];exact hr2
 ·obtain⟨cs1,k1,k2⟩:=hE.pay;have hget:∀i,w1.cell? ⟨C,i,none⟩=cs1[i]?:=λi=>by simp[World.cell?,show w1.heap[C]?=_ from k1]
  have e:∀i,i<3→cs1[i]?=some (if i<nw then t.val i else .int .i64 0):=λi hi=>by
   rw[← hget i];by_cases h:i<nw
   ·rw[if_pos h];exact hE.has i h
   ·rw[if_neg h,hE.rest i (by omega)];simp[hi]
  have:cs1=#[if 0<nw then t.val 0 else .int .i64 0,if 1<nw then t.val 1 else .int .i64 0,if 2<nw then t.val 2 else .int .i64 0]:=by
   apply Array.ext_getElem?;intro i
   match i with
   |0=>rw[e 0 (by omega)];rfl
   |1=>rw[e 1 (by omega)];rfl
   |2=>rw[e 2 (by omega)];rfl
   |i+3=>rw[Array.getElem?_eq_none (by simp at k2;omega)];rfl
  show w1.heap[C]?=_
  rw[k1,this];rfl
end
end Crew
end
