/- The worker of held, in company, on: printed by x16.py. -/
import Derived.Conc.CrowdMono
import Derived.Test.YtccjdkghgbbliaaGreatDoorA27
set_option linter.all false
namespace Go.Proofs.YtccjdkghgbbliaaGreatDoor
section
namespace Crew
set_option maxHeartbeats 1000000
set_option maxRecDepth 10000
open Go Go.Conc Go.ConcN Go.RowKit
open Go.ConcR (Payload DC0 WgAt)
section
variable {S:Nat→Prop} {Wg C B:Nat} {ne:C≠Wg} {hW:Wg<B} {hC:C<B} {c:Nat} {O:Own} {w w₁:World}
def vs5(t:Til)(c cc y:Nat)(acc:Int)(C:Nat):Nat→Value
 |0=>.int .i64 c
 |1=>.pointer (some ⟨C,c,none⟩)
 |2=>.int .i64 acc
 |3=>.pointer (some ⟨y,1,none⟩)
 |4=>.int .i64 (t.held cc)
 |5=>.int .i64 (IntKind.wrap .i64 (acc+t.held cc))
 |_=>.pointer (some ⟨C,c,none⟩)
noncomputable def Iw:Code:=match Tryz.f142.body with
 |some (.seq _ (.seq _ (.block _ (.loop (.seq _ (.seq _ (.seq (.block _ (.seq _ (.seq _ (.cond _ r _)))) _)))))))=>r
 |_=>.skip
noncomputable def ops5:Array Oper:=match Iw with
 |.region _ ops _=>ops
 |_=>#[]
theorem qA{b p:Nat}{v:Value}(h:b≠C):(w.setCell ⟨C,c,none⟩ v).cell? ⟨b,p,none⟩=w.cell? ⟨b,p,none⟩:=
 World.cell?_setCell_other _ _ _ _ (λe=>h (by cases e;rfl))
theorem Base.set{t:Til}(h:Base (ne:=ne) (hW:=hW) (hC:=hC) (S:=S) c t w O)(v:Value):Base (ne:=ne) (hW:=hW) (hC:=hC) (S:=S) c t (w.setCell ⟨C,c,none⟩ v) O:=by
 have hsz:(w.setCell ⟨C,c,none⟩ v).heap.size=w.heap.size:=(aside_setCell w ⟨C,c,none⟩ v).size;obtain⟨cs,k1,k2⟩:=h.pay;have hset:=setCell_eq_setRow w C c cs Payload.ety (0,0) v k1;have hrow:=setRow_heap w C cs (cs.setIfInBounds c v) Payload.ety (0,0) k1;exact⟨h.sZ.of λb hb p=>qA hb.2.1,by rw[hsz];exact h.hB,λb hb=>by rw[hsz];exact h.th b hb,h.lo,⟨_,by rw[hset];exact hrow,by simpa using k2⟩,let ⟨st,sm,hl⟩:=h.live;⟨st,sm,hl.of_block ((aside_setCell w ⟨C,c,none⟩ v).block Wg (Ne.symm ne))⟩⟩
theorem AtY.set{t:Til}{x y cc:Nat}{acc:Int}(h:AtY (ne:=ne) (hW:=hW) (hC:=hC) (S:=S) c t x acc y cc O w)(v:Int):AtY (ne:=ne) (hW:=hW) (hC:=hC) (S:=S) c t x v y cc O (w.setCell ⟨C,c,none⟩ (.int .i64 v)):=by
 have hx:=h.base.lo x h.ox;have hy:=h.base.lo y h.oy;exact⟨⟨h.base.set _,h.ox,(qA (by omega)).trans h.cx,World.cell?_setCell_same _ _ _ h.own⟩,h.oy,λj u hu=>(qA (by omega)).trans (h.row j u hu)⟩
theorem Qx{l:Array Bool}{i:Nat}{xs vs:Nat→Value}(h:∀k,k<7→l.getD k false=true→xs k=vs k)(hi:i<7):∀k,k<7→(l.setIfInBounds i true).getD k false=true→upd xs i (vs i) k=vs k:=by
 intro k hk7 hk;by_cases e:k=i
 ·subst e;rw[upd_same]
 ·rw[upd_ne xs _ e];rw[getD_set_ne false (λh=>e h.symm)]at hk;exact h k hk7 hk
def Dn5(l:Array Bool):Prop:=∀k o,l.getD k false=true→ops5[k]?=some o→∀e∈o.after,Region.binds .any e=true→l.getD e.on false=true
theorem Dn5.set{l:Array Bool}{i:Nat}(h:Dn5 l)(hi:i∈Region.ready .any ops5 l):Dn5 (l.setIfInBounds i true):=by
 have mono:∀j,l.getD j false=true→(l.setIfInBounds i true).getD j false=true:=λj hj=>by
  by_cases e:i=j
  ·subst e;have hlt:i<l.size:=by
    rcases Nat.lt_or_ge i l.size with h|h
    ·exact h
    ·simp[Array.getElem?_eq_none h]at hj
   simp[hlt]
  ·rw[getD_set_ne false e];exact hj
 obtain⟨_,o',ho',SY⟩:=mem_ready.1 hi;intro k o hk ho e he hb;by_cases e1:k=i
 ·subst e1;rw[ho']at ho;cases ho;exact mono _ (SY e he hb)
 ·rw[getD_set_ne false (λh=>e1 h.symm)]at hk;exact mono _ (h k o hk ho e he hb)
set_option maxRecDepth 100000 in
theorem reg5{t:Til}{cc:Nat}(hc3:c<3):∃n,∀(w:World) (O:Own) (x y:Nat) (acc:Int) (ds:List Deferred) (t6 t7 t8 t9 t10 t11 t12 t13 t14 t15 t16 t17 t18 t19 t20 t21 t22 t23 t31:Value) (xs:Nat→Value),AtY (ne:=ne) (hW:=hW) (hC:=hC) (S:=S) c t x acc y cc O w→
  wpO (cf S Wg C B ne hW hC) false c 142 Iw n (λe a w' O'=>e=.normal∧AtY (ne:=ne) (hW:=hW) (hC:=hC) (S:=S) c t x (IntKind.wrap .i64 (acc+t.held cc)) y cc O' w'∧∃xs:Nat→Value,a=⟨#[.pointer (some ⟨Wg,0,none⟩),.pointer (some ⟨t.b1,0,none⟩),.pointer (some ⟨x,0,none⟩),.pointer (some ⟨C,0,none⟩),.int .i64 cc,.pointer (some ⟨y,0,none⟩),t6,t7,t8,t9,t10,t11,t12,t13,t14,t15,t16,t17,t18,t19,t20,t21,t22,t23,xs 0,xs 1,xs 2,xs 3,xs 4,xs 5,xs 6,t31],ds⟩)
   ⟨#[.pointer (some ⟨Wg,0,none⟩),.pointer (some ⟨t.b1,0,none⟩),.pointer (some ⟨x,0,none⟩),.pointer (some ⟨C,0,none⟩),.int .i64 cc,.pointer (some ⟨y,0,none⟩),t6,t7,t8,t9,t10,t11,t12,t13,t14,t15,t16,t17,t18,t19,t20,t21,t22,t23,xs 0,xs 1,xs 2,xs 3,xs 4,xs 5,xs 6,t31],ds⟩ w O:=by
 refine⟨8 * 1+2,λw O x y acc ds t6 t7 t8 t9 t10 t11 t12 t13 t14 t15 t16 t17 t18 t19 t20 t21 t22 t23 t31 xs hA=>?_⟩;simp only[Iw,Tryz.f142];have hc3I:(c:Int)<3:=by omega
 refine rE (K:=1) (by kernel_rfl) (λl a w O=>l.size=8∧∃xs:Nat→Value,a=⟨#[.pointer (some ⟨Wg,0,none⟩),.pointer (some ⟨t.b1,0,none⟩),.pointer (some ⟨x,0,none⟩),.pointer (some ⟨C,0,none⟩),.int .i64 cc,.pointer (some ⟨y,0,none⟩),t6,t7,t8,t9,t10,t11,t12,t13,t14,t15,t16,t17,t18,t19,t20,t21,t22,t23,xs 0,xs 1,xs 2,xs 3,xs 4,xs 5,xs 6,t31],ds⟩∧(∀k,k<7→l.getD k false=true→xs k=vs5 t c cc y acc C k)∧Dn5 l∧AtY (ne:=ne) (hW:=hW) (hC:=hC) (S:=S) c t x (if l.getD 7 false then IntKind.wrap .i64 (acc+t.held cc)else acc) y cc O w) (λw₁ h₁=>?_) ?_ ?_
 ·have hno:∀k,(Array.replicate ops5.size false).getD k false=true→False:=λk hk=>by
   rw[aH,Array.getElem?_replicate]at hk;split at hk<;>simp at hk
  refine⟨by simp,xs,rfl,λk _ hk=>(hno k hk).elim,λk o hk=>(hno k hk).elim,?_⟩;have hf:(Array.replicate 8 false).getD 7 false=false:=rfl;exact(hA.rely h₁).rely (GN _)
 ·rintro i l a w O hi ⟨hsz,xs,rfl,hxs,hDn,hA⟩ rest n hn;have hdn:=hDn.set hi;have hsz':∀i,(l.setIfInBounds i true).size=8:=λi=>by simpa using hsz
  have hset:=λi hi=>Qx (i:=i) hxs hi;obtain⟨hl7,o,ho,SY⟩:=mem_ready.1 hi;have hi8:i<8:=(Array.getElem?_eq_some_iff.1 ho).1;have hB:=hA.base.hB;have dep:∀o',ops5[i]?=some o'→∀e∈o'.after,Region.binds .any e=true→e.on<7→xs e.on=vs5 t c cc y acc C e.on:=λo' h2 e h1 hb h7=>by
   rw[show ops5[i]?=some o from ho]at h2;cases h2;exact hxs e.on h7 (SY e h1 hb)
  have hno:l.getD 7 false=false:=by
   by_cases e:i=7
   ·subst e;have h7:7<l.size:=by omega
    simp[h7]at hl7 ⊢;exact hl7
   ·cases hl:l.getD 7 false with
    |false=>rfl
    |true=>
     exfalso;have d7:=hDn 7 _ hl rfl;have l5:=d7 _ (Array.mem_of_getElem? (i:=1) rfl) rfl;have l6:=d7 _ (Array.mem_of_getElem? (i:=0) rfl) rfl;have l2:=hDn 5 _ l5 rfl _ (Array.mem_of_getElem? (i:=0) rfl) rfl;have l4:=hDn 5 _ l5 rfl _ (Array.mem_of_getElem? (i:=1) rfl) rfl;have l1:=hDn 2 _ l2 rfl _ (Array.mem_of_getElem? (i:=0) rfl) rfl;have l0:=hDn 1 _ l1 rfl _ (Array.mem_of_getElem? (i:=0) rfl) rfl;have l3:=hDn 4 _ l4 rfl _ (Array.mem_of_getElem? (i:=0) rfl) rfl;have hi':l.getD i false=true:=by
      match i,hi8,e with
      |0,_,_=>exact l0
      |1,_,_=>exact l1
      |2,_,_=>exact l2
      |3,_,_=>exact l3
      |4,_,_=>exact l4
      |5,_,_=>exact l5
      |6,_,_=>exact l6
      |7,_,e=>exact absurd rfl e
     have hlt:i<l.size:=by omega
     simp[hlt]at hl7 hi';rw[hl7]at hi';cases hi'
  rw[hno]at hA;simp only[Bool.false_eq_true,if_false]at hA;have h7:∀i,i<7→(if(l.setIfInBounds i true).getD 7 false then IntKind.wrap .i64 (acc+t.held cc)else acc)=acc:=λi hi=>by
   rw[getD_set_ne false (by omega),hno];rfl
  match i,hi8,ho,hn,dep with
  |0,_,ho,hn,dep=>
   refine bC (v:=vs5 t c cc y acc C 0) rfl (by rfl) hB hA.base.th (λw₁ h₁=>?_) λw₁ h₁=>hn _ _ _ ⟨hsz' _,upd xs 0 (vs5 t c cc y acc C 0),rfl,hset 0 (by decide),hdn,by rw[h7 0 (by decide)];exact hA.rely h₁⟩;have hA:=hA.rely h₁;have hc:=hA.cx;exact⟨by simp[execOp,go_sem,Act.eval,vs5, *],λe he=>by
    simp[execOp,go_sem,Act.eval, *]at he;subst he;exact⟨_,rfl,.inr (.inl hA.ox)⟩⟩
  |1,_,ho,hn,dep=>
   have e0:xs 0=vs5 t c cc y acc C 0:=dep _ rfl _ (Array.mem_of_getElem? (i:=0) rfl) rfl (by decide);simp only[vs5]at e0;refine bC (v:=vs5 t c cc y acc C 1) rfl (by rfl) hB hA.base.th (λw₁ h₁=>?_) λw₁ h₁=>hn _ _ _ ⟨hsz' _,upd xs 1 (vs5 t c cc y acc C 1),rfl,hset 1 (by decide),hdn,by rw[h7 1 (by decide)];exact hA.rely h₁⟩;have hA:=hA.rely h₁;have hie:=λw es=>events_indexAt_array (P:=Tryz.prog) 131 3 3 ⟨C,0,none⟩ .i64 (c:Int) Tryz.underlying131 ⟨by omega,hc3I⟩ (w:=w) (es:=es);exact⟨by simp[execOp,go_sem,Act.eval,vs5, *],λe he=>by
    simp[execOp,go_sem,Act.eval, *]at he;skip⟩
  |2,_,ho,hn,dep=>
   have e1:xs 1=vs5 t c cc y acc C 1:=dep _ rfl _ (Array.mem_of_getElem? (i:=0) rfl) rfl (by decide);simp only[vs5]at e1;refine bC (v:=vs5 t c cc y acc C 2) rfl (by rfl) hB hA.base.th (λw₁ h₁=>?_) λw₁ h₁=>hn _ _ _ ⟨hsz' _,upd xs 2 (vs5 t c cc y acc C 2),rfl,hset 2 (by decide),hdn,by rw[h7 2 (by decide)];exact hA.rely h₁⟩;have hA:=hA.rely h₁;have hc:=hA.own;exact⟨by simp[execOp,go_sem,Act.eval,vs5, *],λe he=>by
    simp[execOp,go_sem,Act.eval, *]at he;subst he;exact⟨_,rfl,.inr (.inr rfl)⟩⟩
  |3,_,ho,hn,dep=>
   refine bC (v:=vs5 t c cc y acc C 3) rfl (by rfl) hB hA.base.th (λw₁ h₁=>?_) λw₁ h₁=>hn _ _ _ ⟨hsz' _,upd xs 3 (vs5 t c cc y acc C 3),rfl,hset 3 (by decide),hdn,by rw[h7 3 (by decide)];exact hA.rely h₁⟩;have hA:=hA.rely h₁;skip;exact⟨by simp[execOp,go_sem,Act.eval,vs5, *],λe he=>by
    simp[execOp,go_sem,Act.eval, *]at he;skip⟩
  |4,_,ho,hn,dep=>
   have e3:xs 3=vs5 t c cc y acc C 3:=dep _ rfl _ (Array.mem_of_getElem? (i:=0) rfl) rfl (by decide);simp only[vs5]at e3;refine bC (v:=vs5 t c cc y acc C 4) rfl (by rfl) hB hA.base.th (λw₁ h₁=>?_) λw₁ h₁=>hn _ _ _ ⟨hsz' _,upd xs 4 (vs5 t c cc y acc C 4),rfl,hset 4 (by decide),hdn,by rw[h7 4 (by decide)];exact hA.rely h₁⟩;have hA:=hA.rely h₁;have hc:=hA.row 1 _ rfl;simp only[Til.row,Nat.zero_add]at hc;exact⟨by simp[execOp,go_sem,Act.eval,vs5, *],λe he=>by
    simp[execOp,go_sem,Act.eval, *]at he;subst he;exact⟨_,rfl,.inr (.inl hA.oy)⟩⟩
  |5,_,ho,hn,dep=>
   have e2:xs 2=vs5 t c cc y acc C 2:=dep _ rfl _ (Array.mem_of_getElem? (i:=0) rfl) rfl (by decide);simp only[vs5]at e2;have e4:xs 4=vs5 t c cc y acc C 4:=dep _ rfl _ (Array.mem_of_getElem? (i:=1) rfl) rfl (by decide);simp only[vs5]at e4;refine bC (v:=vs5 t c cc y acc C 5) rfl (by rfl) hB hA.base.th (λw₁ h₁=>?_) λw₁ h₁=>hn _ _ _ ⟨hsz' _,upd xs 5 (vs5 t c cc y acc C 5),rfl,hset 5 (by decide),hdn,by rw[h7 5 (by decide)];exact hA.rely h₁⟩;have hA:=hA.rely h₁;skip;exact⟨by simp[execOp,go_sem,Act.eval,vs5, *],λe he=>by
    simp[execOp,go_sem,Act.eval, *]at he;skip⟩
  |6,_,ho,hn,dep=>
   have e0:xs 0=vs5 t c cc y acc C 0:=dep _ rfl _ (Array.mem_of_getElem? (i:=0) rfl) rfl (by decide);simp only[vs5]at e0;refine bC (v:=vs5 t c cc y acc C 6) rfl (by rfl) hB hA.base.th (λw₁ h₁=>?_) λw₁ h₁=>hn _ _ _ ⟨hsz' _,upd xs 6 (vs5 t c cc y acc C 6),rfl,hset 6 (by decide),hdn,by rw[h7 6 (by decide)];exact hA.rely h₁⟩;have hA:=hA.rely h₁;have hie:=λw es=>events_indexAt_array (P:=Tryz.prog) 131 3 3 ⟨C,0,none⟩ .i64 (c:Int) Tryz.underlying131 ⟨by omega,hc3I⟩ (w:=w) (es:=es);exact⟨by simp[execOp,go_sem,Act.eval,vs5, *],λe he=>by
    simp[execOp,go_sem,Act.eval, *]at he;skip⟩
  |7,_,ho,hn,dep=>
   have e5:xs 5=vs5 t c cc y acc C 5:=dep _ rfl _ (Array.mem_of_getElem? (i:=1) rfl) rfl (by decide);have e6:xs 6=vs5 t c cc y acc C 6:=dep _ rfl _ (Array.mem_of_getElem? (i:=0) rfl) rfl (by decide);simp only[vs5]at e5 e6;refine Qc (u:=λ_=>.int .i64 (IntKind.wrap .i64 (acc+t.held cc))) rfl (by rfl) hB hA.base.pay (λw₁ h₁=>?_) λw₁ h₁=>hn _ _ _ ⟨hsz' _,xs,rfl,λk hk hl=>hxs k hk (by rwa[getD_set_ne false (by omega)]at hl),hdn,?_⟩
   ·have hA:=hA.rely h₁;have hc:=hA.own;obtain⟨cs,k1,k2⟩:=hA.base.pay;have hz:w₁.frozen? ⟨C,c,none⟩=false:=by simp[World.frozen?,k1]
    exact⟨by simp[execOp,go_sem,Act.eval,stored, *],λe he=>by
     simp[execOp,go_sem,Act.eval,storedEv, *]at he;rw[he];rfl⟩
   ·have:(l.setIfInBounds 7 true).getD 7 false=true:=by
     have h7:7<l.size:=by omega
     simp[h7]
    rw[this];exact(hA.rely h₁).set _
 ·rintro l a w O hr ⟨hsz,xs,rfl,hxs,_,hA⟩;have:=zV hsz hr (by kernel_rfl) 7 (by decide);rw[this]at hA;exact⟨rfl,hA,xs,rfl⟩
end
end Crew
end
section
namespace Crew
set_option maxHeartbeats 1000000
set_option maxRecDepth 10000
open Go Go.Conc Go.ConcN Go.RowKit
open Go.ConcR (Payload DC0 WgAt)
section
variable {Y:Cf}
theorem tZ(g o:Nat)(t:TypeId):∀(vs:List Value) (i:Nat) (cur:Array Value) (w:World) (es:Array Event),w.heap[g]?=some (.cells cur t (0,0))→o+i+vs.length≤cur.size→(∀v∈vs,v.oneCell'=true)→
  ∀e∈(storeCells ⟨g,o,none⟩ vs i).events Y.P w es,e∈es∨∃j,e=⟨.cell ⟨g,j,none⟩,true,false⟩
 | [],_,_,_,_,_,_,_=>λe h=>.inl (by simpa[storeCells]using h)
 |v::rest,i,cur,w,es,hg,hl,h1=>λe h=>by
  have hi:o+i<cur.size:=by simp at hl;omega
  have hadd:(⟨g,o,none⟩:Addr).add i=⟨g,o+i,none⟩:=Addr.add_mid g o i;have hcell:w.cell? ⟨g,o+i,none⟩=some cur[o+i]:=by simp[World.cell?,hg,hi]
  have hfro:w.frozen? ⟨g,o+i,none⟩=false:=by simp[World.frozen?,hg]
  have hst:(store ((⟨g,o,none⟩:Addr).add i) v).run Y.P w=.ok () (w.setRow g (cur.setIfInBounds (o+i) v)):=by
   rw[hadd,run_store Y.P w _ v _ (h1 v (by simp)),hcell];simp[hfro,setCell_eq_setRow w g (o+i) cur t (0,0) v hg]
  have hev:(store ((⟨g,o,none⟩:Addr).add i) v).events Y.P w es=es.push ⟨.cell ⟨g,o+i,none⟩,true,false⟩:=by
   rw[hadd,events_store Y.P w es _ v _ (h1 v (by simp)),hcell];simp only[hfro,Bool.false_eq_true,if_false];rfl
  simp only[storeCells,Sem.events_bind,hst,Result.evThen_ok,hev]at h;rcases tZ g o t rest (i+1) (cur.setIfInBounds (o+i) v) (w.setRow g (cur.setIfInBounds (o+i) v)) _ (setRow_heap w g cur _ t _ hg) (by simp at hl ⊢;omega) (λx hx=>h1 x (by simp[hx])) e h with h|h
  ·rcases Array.mem_push.1 h with h|rfl
   ·exact .inl h
   ·exact .inr ⟨_,rfl⟩
  ·exact .inr h
theorem EZ{a:Act}{o:Oper}{w:World}{g:Nat}{ty t:TypeId}{x y:Operand}{old:Array Value}{cells:List Value}(hop:o.op=.store ty x y)(hx:a.eval x=.pointer (some ⟨g,0,none⟩))(hy:a.eval y=.agg cells.toArray)
  (hg:w.heap[g]?=some (.cells old t (0,0))) (ho:old.size=cells.length) (hi:(Y.P.info? ty).map (·.size)=some cells.length) (h1:∀v∈cells,v.oneCell'=true) :
  (execOp a.eval o).run Y.P w=.ok .skip (w.setRow g cells.toArray)∧∀e∈(execOp a.eval o).events Y.P w #[],∃j,e=⟨.cell ⟨g,j,none⟩,true,false⟩:=by
 have hall:cells.toArray.all (·.oneCell')=true:=all_oneCell_toArray h1;have hrun:=run_storeVar_row (P:=Y.P) w g t ty old cells.toArray hg (by simpa using hi) (by simpa using ho) hall;constructor
 ·unfold execOp;simp only[hop,hx,hy,Instr.storeAt,Instr.sureAddr,Sem.run_bind,Sem.run_pure,Result.andThen_ok,hrun]
 ·intro e he;obtain⟨inf,hq,hs⟩:∃inf,Y.P.info? ty=some inf∧inf.size=cells.length:=by
   cases hq:Y.P.info? ty with
   |none=>simp[hq]at hi
   |some inf=>exact⟨inf,rfl,by simpa[hq]using hi⟩
  have he2:e∈(storeCells ⟨g,0,none⟩ cells 0).events Y.P w #[]:=by
   unfold execOp at he;simp only[hop,hx,hy,Instr.storeAt,Instr.sureAddr]at he;have hr2:=run_storeCells_from (P:=Y.P) g t cells 0 old w hg (by omega) h1;simpa[Sem.events_bind,Sem.run_bind,storeVar,Value.cells,sizeOf,typeInfo,hq,hs,go_sem,hr2]using he
  rcases tZ (Y:=Y) g 0 t cells 0 old w #[] hg (by omega) h1 e he2 with h|h
  ·simp at h
  ·exact h
end
theorem QD{Y:Cf}{a:Act}{o:Oper}{w:World}{g:Nat}{ty t:TypeId}{x y:Operand}{old:Array Value}{cells:List Value}(hop:o.op=.store ty x y)(hx:a.eval x=.pointer (some ⟨g,0,none⟩))(hy:a.eval y=.agg cells.toArray)
  (hg:w.heap[g]?=some (.cells old t (0,0))) (ho:old.size=cells.length) (hi:(Y.P.info? ty).map (·.size)=some cells.length) (h1:∀v∈cells,v.oneCell'=true) :
  (execOp a.eval o).run Y.P w=.ok .skip (w.setRow g cells.toArray)∧(∀e∈(execOp a.eval o).events Y.P w #[],∃j,e=⟨.cell ⟨g,j,none⟩,true,false⟩)∧(w.setRow g cells.toArray).heap.size=w.heap.size∧(∀b,b≠g→(w.setRow g cells.toArray).heap[b]?=w.heap[b]?)∧∃cs t fr,(w.setRow g cells.toArray).heap[g]?=some (.cells cs t fr):=by
 obtain⟨h1,h2⟩:=EZ hop hx hy hg ho hi h1;exact⟨h1,h2,setRow_size _ _ _,λb hb=>setRow_other _ _ _ _ hb,_,_,_,setRow_heap _ _ _ _ _ _ hg⟩
section
variable {S:Nat→Prop} {Wg C B:Nat} {ne:C≠Wg} {hW:Wg<B} {hC:C<B} {c:Nat} {O:Own} {w w₁:World}
theorem AtW.new{t:Til}{x:Nat}{acc:Int}(h:AtW (ne:=ne) (hW:=hW) (hC:=hC) (S:=S) c t x acc O w)(o:Obj):AtW (ne:=ne) (hW:=hW) (hC:=hC) (S:=S) c t x acc (λb=>O b∨b=w.heap.size) (w.alloc o):=
 h.kept (h.base.new o) ((Kept.refl O w).new h.base.th h.base.hB hC o)
theorem AtW.fill{t:Til}{x y cc:Nat}{acc:Int}(h:AtW (ne:=ne) (hW:=hW) (hC:=hC) (S:=S) c t x acc O w)(hy:O y)(hxy:x≠y){old:Array Value}{ty:TypeId}(hg:w.heap[y]?=some (.cells old ty (0,0))):AtY (ne:=ne) (hW:=hW) (hC:=hC) (S:=S) c t x acc y cc O (w.setRow y (t.row cc).toArray):=by
 have hyB:=h.base.lo y hy;have ho:∀a:Addr,a.block≠y→(w.setRow y (t.row cc).toArray).cell? a=w.cell? a:=λa ha=>cell_setRow_other w y _ a ha;refine⟨⟨⟨h.base.sZ.of λb hb p=>ho _ (by have:=hb.1;show b≠y;intro e;subst e;exact absurd hb.1 (by show¬_<B;omega)),by rw[setRow_size];exact h.base.hB,λb hb=>by rw[setRow_size];exact h.base.th b hb,h.base.lo,?_,let ⟨st,sm,hl⟩:=h.base.live;⟨st,sm,hl.of_block (setRow_other w y Wg _ (by omega))⟩⟩,h.ox,(ho _ hxy).trans h.cx,(ho _ (by show C≠y;omega)).trans h.own⟩,hy,λj v hv=>?_⟩
 ·obtain⟨cs,k1,k2⟩:=h.base.pay;exact⟨cs,(setRow_other w y C _ (by omega)).trans k1,k2⟩
 ·rw[Nat.zero_add,cell_setRow_same w y j old _ ty (0,0) hg];simpa using hv
theorem jP.srow{t:Til}{cc sb so:Nat}(h:jP (cf S Wg C B ne hW hC) t w)(hcc:cc<t.n)(hk:t.qY=some ⟨sb,so,none⟩):w.rangeAt sb (so+cc * 4) (t.row cc):=by
 obtain⟨b,o,h1,_,h3⟩:=h.st cc hcc;rw[hk]at h1;cases h1;exact h3
noncomputable def sJ:Code:=match Tryz.f142.body with
 |some (.seq _ (.seq _ (.block _ (.loop r))))=>r
 |_=>.skip
def I97(S:Nat→Prop)(Wg C B:Nat)(ne:C≠Wg)(hW:Wg<B)(hC:C<B)(c:Nat)(t:Til)(x:Nat)(ds:List Deferred)(k:Nat)(a:Act)(w:World)(O:Own):Prop:=
 ∃j,j+k=t.n∧AtW (ne:=ne) (hW:=hW) (hC:=hC) (S:=S) c t x (t.acc c j) O w∧∃t4 t5 t6 t7 t8 t12 t13 t14 t15 t16 t17 t18 t19 t20 t21 t22 t23 t24 t25 t26 t27 t28 t29 t30 t31:Value,a=⟨#[.pointer (some ⟨Wg,0,none⟩),.pointer (some ⟨t.b1,0,none⟩),.pointer (some ⟨x,0,none⟩),.pointer (some ⟨C,0,none⟩),t4,t5,t6,t7,t8,.slice t.qY t.n t.scap,.int .i64 t.n,.int .i64 j,t12,t13,t14,t15,t16,t17,t18,t19,t20,t21,t22,t23,t24,t25,t26,t27,t28,t29,t30,t31],ds⟩
set_option maxRecDepth 100000 in
theorem BX(t:Til)(hc3:c<3)(htn:(t.n:Int)<9223372036854775807)(k:Nat):∃n,∀(w:World) (O:Own) (x:Nat) (ds:List Deferred) (a:Act),I97 S Wg C B ne hW hC c t x ds k a w O→
  wpO (cf S Wg C B ne hW hC) false c 142 sJ n (ru (λa' w' O'=>∃k',k'<k∧I97 S Wg C B ne hW hC c t x ds k' a' w' O') (λe a w O=>e=.exit 0∧AtW (ne:=ne) (hW:=hW) (hC:=hC) (S:=S) c t x (t.acc c t.n) O w∧a.defers=ds)) a w O:=by
 obtain⟨n4,h4⟩:∃n,∀cc,cc<t.n→cc+k=t.n→∀(w:World) (O:Own) (x y:Nat) (acc:Int) (ds:List Deferred) (t6 t7 t8 t9 t10 t11 t12 t13 t14 t15 t24 t25 t26 t27 t28 t29 t30 t31:Value) (xs:Nat→Value),AtY (ne:=ne) (hW:=hW) (hC:=hC) (S:=S) c t x acc y cc O w→
  wpO (cf S Wg C B ne hW hC) false c 142 Iu n (λe a w' O'=>e=.normal∧AtY (ne:=ne) (hW:=hW) (hC:=hC) (S:=S) c t x acc y cc O' w'∧∃xs:Nat→Value,xs 7=.bool (t.bg (t.tar cc)==(c:Int))∧a=⟨#[.pointer (some ⟨Wg,0,none⟩),.pointer (some ⟨t.b1,0,none⟩),.pointer (some ⟨x,0,none⟩),.pointer (some ⟨C,0,none⟩),.int .i64 cc,.pointer (some ⟨y,0,none⟩),t6,t7,t8,t9,t10,t11,t12,t13,t14,t15,xs 0,xs 1,xs 2,xs 3,xs 4,xs 5,xs 6,xs 7,t24,t25,t26,t27,t28,t29,t30,t31],ds⟩)
   ⟨#[.pointer (some ⟨Wg,0,none⟩),.pointer (some ⟨t.b1,0,none⟩),.pointer (some ⟨x,0,none⟩),.pointer (some ⟨C,0,none⟩),.int .i64 cc,.pointer (some ⟨y,0,none⟩),t6,t7,t8,t9,t10,t11,t12,t13,t14,t15,xs 0,xs 1,xs 2,xs 3,xs 4,xs 5,xs 6,xs 7,t24,t25,t26,t27,t28,t29,t30,t31],ds⟩ w O:=by
  by_cases hk:t.n - k<t.n∧(t.n - k)+k=t.n
  ·obtain⟨n,h⟩:=reg4 (ne:=ne) (hW:=hW) (hC:=hC) (S:=S) (c:=c) (t:=t) hk.1;exact⟨n,λcc h1 h2=>by
    have:cc=t.n-k:=by omega
    subst this;exact h⟩
  ·exact⟨0,λcc h1 h2=>absurd ⟨by omega,by omega⟩ hk⟩
 obtain⟨n5,h5⟩:∃n,∀cc,cc+k=t.n→∀(w:World) (O:Own) (x y:Nat) (acc:Int) (ds:List Deferred) (t6 t7 t8 t9 t10 t11 t12 t13 t14 t15 t16 t17 t18 t19 t20 t21 t22 t23 t31:Value) (xs:Nat→Value),AtY (ne:=ne) (hW:=hW) (hC:=hC) (S:=S) c t x acc y cc O w→
  wpO (cf S Wg C B ne hW hC) false c 142 Iw n (λe a w' O'=>e=.normal∧AtY (ne:=ne) (hW:=hW) (hC:=hC) (S:=S) c t x (IntKind.wrap .i64 (acc+t.held cc)) y cc O' w'∧∃xs:Nat→Value,a=⟨#[.pointer (some ⟨Wg,0,none⟩),.pointer (some ⟨t.b1,0,none⟩),.pointer (some ⟨x,0,none⟩),.pointer (some ⟨C,0,none⟩),.int .i64 cc,.pointer (some ⟨y,0,none⟩),t6,t7,t8,t9,t10,t11,t12,t13,t14,t15,t16,t17,t18,t19,t20,t21,t22,t23,xs 0,xs 1,xs 2,xs 3,xs 4,xs 5,xs 6,t31],ds⟩)
   ⟨#[.pointer (some ⟨Wg,0,none⟩),.pointer (some ⟨t.b1,0,none⟩),.pointer (some ⟨x,0,none⟩),.pointer (some ⟨C,0,none⟩),.int .i64 cc,.pointer (some ⟨y,0,none⟩),t6,t7,t8,t9,t10,t11,t12,t13,t14,t15,t16,t17,t18,t19,t20,t21,t22,t23,xs 0,xs 1,xs 2,xs 3,xs 4,xs 5,xs 6,t31],ds⟩ w O:=by
  obtain⟨n,h⟩:=reg5 (ne:=ne) (hW:=hW) (hC:=hC) (S:=S) (c:=c) (t:=t) (cc:=t.n - k) hc3;exact⟨n,λcc h2=>by
   have:cc=t.n-k:=by omega
   subst this;exact h⟩
 co_apply ah
 rintro w O x ds a ⟨j,hj,hF,t4,t5,t6,t7,t8,t12,t13,t14,t15,t16,t17,t18,t19,t20,t21,t22,t23,t24,t25,t26,t27,t28,t29,t30,t31,rfl⟩;simp only[sJ,Tryz.f142]
 co_apply nC
 co_apply iH
 simp only[aG,aC,aF,Nat.reduceAdd,Nat.zero_add,List.range,List.range.loop]
 co_apply bC (v:=.bool (decide ((j:Int)<t.n))) rfl (by rfl) hF.base.hB hF.base.th
 ·intro w₁ h₁;have hG:=hF.rely h₁;skip;exact⟨by simp[execOp,go_sem,Act.eval, *],λe he=>by
   simp[execOp,go_sem,Act.eval, *]at he;skip⟩
 intro w₁ h₁;replace hF:=hF.rely h₁;clear h₁
 try walk_nrm
 co_apply je
 simp only[ru]
 co_apply nC
 co_apply rD (t:=decide ((j:Int)<t.n))
 ·simp[Act.eval]
 rotate_left
 ·intro hlt
  co_apply UJ
  have:¬(j:Int)<t.n:=by simpa using hlt
  have:j=t.n:=by omega
  subst this;exact⟨rfl,hF,rfl⟩
 intro hlt
 have hlt:j<t.n:=by have:(j:Int)<t.n:=by simpa using hlt
                    omega
 co_apply J9
 simp only[ru];obtain⟨sb,so,hs,ssb,_⟩:=hF.base.sZ.st j hlt;have hltI:(j:Int)<t.n:=by omega
 co_apply nC
 co_apply oP (Q:=λe a w O=>e=.normal∧AtW (ne:=ne) (hW:=hW) (hC:=hC) (S:=S) c t x (t.acc c (j+1)) O w∧∃t4 t5 t6 t7 t8 t12 t13 t14 t15 t16 t17 t18 t19 t20 t21 t22 t23 t24 t25 t26 t27 t28 t29 t30 t31:Value,a=⟨#[.pointer (some ⟨Wg,0,none⟩),.pointer (some ⟨t.b1,0,none⟩),.pointer (some ⟨x,0,none⟩),.pointer (some ⟨C,0,none⟩),t4,t5,t6,t7,t8,.slice t.qY t.n t.scap,.int .i64 t.n,.int .i64 j,t12,t13,t14,t15,t16,t17,t18,t19,t20,t21,t22,t23,t24,t25,t26,t27,t28,t29,t30,t31],ds⟩) ?blk ?rest
 case rest=>
  rintro e a w O ⟨rfl,hF,t4,t5,t6,t7,t8,t12,t13,t14,t15,t16,t17,t18,t19,t20,t21,t22,t23,t24,t25,t26,t27,t28,t29,t30,t31,rfl⟩;simp only[ru];have hwrap:IntKind.wrap .i64 ((j:Int)+1)=((j+1:Nat):Int):=by rw[IntKind.wrap_i64];omega
  co_apply iH
  simp only[aG,aC,aF,Nat.reduceAdd,Nat.zero_add,List.range,List.range.loop]
  co_apply bC (v:=.int .i64 ((j+1:Nat):Int)) rfl (by rfl) hF.base.hB hF.base.th
  ·intro w₁ h₁;have hG:=hF.rely h₁;skip;exact⟨by simp[execOp,go_sem,Act.eval, *],λe he=>by
    simp[execOp,go_sem,Act.eval, *]at he;skip⟩
  intro w₁ h₁;replace hF:=hF.rely h₁;clear h₁
  try walk_nrm
  co_apply bC (v:=.int .i64 ((j+1:Nat):Int)) rfl (by rfl) hF.base.hB hF.base.th
  ·intro w₁ h₁;have hG:=hF.rely h₁;skip;exact⟨by simp[execOp,go_sem,Act.eval, *],λe he=>by
    simp[execOp,go_sem,Act.eval, *]at he;skip⟩
  intro w₁ h₁;replace hF:=hF.rely h₁;clear h₁
  try walk_nrm
  co_apply je
  exact⟨k-1,by omega,j+1,by omega,hF,_,_,_,_,_,_,_,_,_,_,_,_,_,_,_,_,_,_,_,_,_,_,_,_,_,rfl⟩
 case blk=>
 co_apply Fh
 co_apply nC
 co_apply iH
 simp only[aG,aC,aF,Nat.reduceAdd,Nat.zero_add,List.range,List.range.loop]
 co_apply bC (v:=.int .i64 j) rfl (by rfl) hF.base.hB hF.base.th
 ·intro w₁ h₁;have hG:=hF.rely h₁;skip;exact⟨by simp[execOp,go_sem,Act.eval, *],λe he=>by
   simp[execOp,go_sem,Act.eval, *]at he;skip⟩
 intro w₁ h₁;replace hF:=hF.rely h₁;clear h₁
 try walk_nrm
 co_apply bC (v:=.pointer (some ⟨sb,so+j * 4,none⟩)) rfl (by rfl) hF.base.hB hF.base.th
 ·intro w₁ h₁;have hG:=hF.rely h₁;skip;exact⟨by simp[execOp,go_sem,Act.eval, *],λe he=>by
   simp[execOp,go_sem,Act.eval, *]at he;skip⟩
 intro w₁ h₁;replace hF:=hF.rely h₁;clear h₁
 try walk_nrm
 co_apply bC (v:=.agg (t.row j).toArray) rfl (by rfl) hF.base.hB hF.base.th
 ·intro w₁ h₁;exact Jh (x:=.tmp 14) (cs:=t.row j) (b:=sb) (p:=so+j * 4) rfl rfl ((hF.rely h₁).base.sZ.srow hlt hs) Tryz.underlying128 rfl Tt (λp=>.inl ssb)
 intro w₁ h₁;replace hF:=hF.rely h₁;clear h₁
 try walk_nrm
 co_apply BJ (cells:=#[.int .i64 0,.int .i64 0,.int .i64 0,.int .i64 0]) (ty:=128) rfl (by rfl) hF.base.hB
 ·intro w₁ h₁;exact⟨by simp[execOp,Instr.alloc,newVar,newRow,go_sem,Act.eval],by simp[execOp,Instr.alloc,newVar,newRow,go_sem,Act.eval]⟩
 intro w₂ h₂;replace hF:=hF.rely h₂;have hxy:x≠w₂.heap.size:=by have:=hF.base.th x hF.ox;omega
 have hzero:(w₂.alloc (.cells #[.int .i64 0,.int .i64 0,.int .i64 0,.int .i64 0] 128)).heap[w₂.heap.size]?=some (.cells #[.int .i64 0,.int .i64 0,.int .i64 0,.int .i64 0] 128 (0,0)):=Array.getElem?_push_size;replace hF:=hF.new (.cells #[.int .i64 0,.int .i64 0,.int .i64 0,.int .i64 0] 128);obtain⟨O₂,hO₂⟩:∃O₂:Own,O₂=λb=>O b∨b=w₂.heap.size:=⟨_,rfl⟩
 rw[← hO₂]at hF ⊢;have hy:O₂ w₂.heap.size:=by rw[hO₂];exact .inr rfl
 clear h₂ hO₂;generalize w₂.alloc (.cells #[.int .i64 0,.int .i64 0,.int .i64 0,.int .i64 0] 128)=w₃ at hF hzero ⊢;generalize w₂.heap.size=y at hF hzero hxy hy ⊢
 try walk_nrm
 co_apply bC (v:=.int .i64 j) rfl (by rfl) hF.base.hB hF.base.th
 ·intro w₁ h₁;exact⟨by simp[execOp,go_sem,Act.eval],λe he=>by simp[execOp,go_sem]at he⟩
 intro w₄ h₄;replace hF:=hF.rely h₄;replace hzero:=(h₄.own y hy).trans hzero;clear h₄
 try walk_nrm
 co_apply BK (g:=y) (wf:=λw=>w.setRow y (t.row j).toArray) rfl (by rfl) hF.base.hB hF.base.th hy (hF.base.lo y hy)
 ·intro w₁ h₁;have hz:=(h₁.own y hy).trans hzero;exact QD (cells:=t.row j) (x:=.tmp 5) (y:=.tmp 15) rfl rfl rfl hz rfl Tt (by simp[Til.row,Value.oneCell'])
 intro w₅ h₅;replace hF:=(hF.rely h₅).fill (cc:=j) hy hxy ((h₅.own y hy).trans hzero);clear h₅ hzero;generalize w₅.setRow y (t.row j).toArray=w₆ at hF ⊢
 try walk_nrm
 co_apply je
 simp only[ru]
 co_apply nC
 have h4':=h4 j hlt hj w₆ O₂ x y (t.acc c j) ds t6 t7 t8 (.slice t.qY t.n t.scap) (.int .i64 t.n) (.int .i64 j) (.bool (decide ((j:Int)<t.n))) (.int .i64 j) (.pointer (some ⟨sb,so+j * 4,none⟩)) (.agg (t.row j).toArray) t24 t25 t26 t27 t28 t29 t30 t31
  (λk=>match k with|0=>t16|1=>t17|2=>t18|3=>t19|4=>t20|5=>t21|6=>t22|_=>t23) hF
 simp only[Iu,Tryz.f142]at h4'
 co_apply oP h4'
 clear h4';rintro e a w O ⟨rfl,hF,xs,hx7,rfl⟩;simp only[ru]
 co_apply rD (t:=t.bg (t.tar j)==(c:Int))
 ·exact hx7
 rotate_left
 ·intro hb
  co_apply J9
  have hne:¬t.bg (t.tar j)=(c:Int):=by simpa using hb
  exact⟨rfl,by simp only[Til.acc,if_neg hne];exact hF.toAtW,_,_,_,_,_,_,_,_,_,_,_,_,_,_,_,_,_,_,_,_,_,_,_,_,_,rfl⟩
 ·intro hb;have heq:t.bg (t.tar j)=(c:Int):=by simpa using hb
  have h5':=h5 j hj w O x y (t.acc c j) ds t6 t7 t8 (.slice t.qY t.n t.scap) (.int .i64 t.n) (.int .i64 j) (.bool (decide ((j:Int)<t.n))) (.int .i64 j) (.pointer (some ⟨sb,so+j * 4,none⟩)) (.agg (t.row j).toArray) (xs 0) (xs 1) (xs 2) (xs 3) (xs 4) (xs 5) (xs 6) (xs 7) t31
   (λk=>match k with|0=>t24|1=>t25|2=>t26|3=>t27|4=>t28|5=>t29|_=>t30) hF
  simp only[Iw,Tryz.f142]at h5'
  co_apply oP h5'
  rintro e a w O ⟨rfl,hF,xs,rfl⟩;exact⟨rfl,by simp only[Til.acc,if_pos heq];exact hF.toAtW,_,_,_,_,_,_,_,_,_,_,_,_,_,_,_,_,_,_,_,_,_,_,_,_,_,rfl⟩
end
end Crew
end
section
namespace Crew
set_option maxHeartbeats 1000000
set_option maxRecDepth 10000
open Go Go.Conc Go.ConcN Go.RowKit Go.Conc.Lib Go.ConcR.Gen Go.ConcN.Gen
open Go.ConcR (Payload DC0 WgAt KK wgBlock stA smA rd wr mk)
section
variable {S:Nat→Prop} {Wg C B:Nat} {ne:C≠Wg} {hW:Wg<B} {hC:C<B} {c:Nat} {O:Own} {w w₁:World}
noncomputable def bot:Frame:={ (default:Frame)with fn:=Tryz.prog.funcs.size,defers:=[],mode:=.panicking [goexitEntry] }
def zW(Wg b1 x C:Nat):Deferred:={ target:=.fn (.func 142) #[.pointer (some ⟨Wg,0,none⟩),.pointer (some ⟨b1,0,none⟩),.pointer (some ⟨x,0,none⟩),.pointer (some ⟨C,0,none⟩)],args:=#[] }
noncomputable def KI:Code:=Tryz.f142.body.getD .skip
noncomputable def MV:Code:=match Tryz.f142.body with
 |some (.seq _ r)=>r
 |_=>.skip
noncomputable def rgn97:Code:=match Tryz.f142.body with
 |some (.seq r _)=>r
 |_=>.skip
theorem JL(T:Array Value):QuitsD Tryz.prog 2 0 (G { (baseD 142).at ⟨T,[]⟩ []with mode:=.returning } [bot]):=by
 refine QuitsD.ctl (g':=G bot []) rfl (λw=>?_) ?_
 ·simp[G,stepG,unwind,doReturn,results,Frame.at,baseD,bot,Tryz.func142,Tryz.f142,seen,GStep.after,goexitEntry]
 refine QuitsD.ctl (g':={ G bot []with status:=.finished }) rfl (λw=>?_) ⟨rfl,rfl⟩;simp[G,stepG,unwind,bot,goexitEntry,Frame.catches];rfl
theorem born97(Wg b1 x C:Nat)(w:World):stepG Tryz.prog false (born Tryz.prog (zW Wg b1 x C)) w=
  .go (G ((baseD 142).at ⟨#[.pointer (some ⟨Wg,0,none⟩),.pointer (some ⟨b1,0,none⟩),.pointer (some ⟨x,0,none⟩),.pointer (some ⟨C,0,none⟩),undef,undef,undef,undef,undef,undef,undef,undef,undef,undef,undef,undef,undef,undef,undef,undef,undef,undef,undef,undef,undef,undef,undef,undef,undef,undef,undef,undef],[]⟩ [.code KI]) [bot]) w #[]:=by
 simp[born,zW,stepG,unwind,callDeferred,invoke,callFunc,Tryz.func142,Tryz.f142,seen,GStep.after,G,Frame.enter,Frame.at,baseD,bot,KI]
set_option maxRecDepth 100000 in
theorem Ql(t:Til)(hc3:c<3)(htn:(t.n:Int)<9223372036854775807):∃n,∀(w:World) (O:Own) (x:Nat) (ds:List Deferred),AtW (ne:=ne) (hW:=hW) (hC:=hC) (S:=S) c t x 0 O w→
  wpO (cf S Wg C B ne hW hC) false c 142 MV n (λe a w O=>e=.normal∧AtW (ne:=ne) (hW:=hW) (hC:=hC) (S:=S) c t x (t.acc c t.n) O w∧a.defers=ds) ⟨#[.pointer (some ⟨Wg,0,none⟩),.pointer (some ⟨t.b1,0,none⟩),.pointer (some ⟨x,0,none⟩),.pointer (some ⟨C,0,none⟩),undef,undef,undef,undef,undef,undef,undef,undef,undef,undef,undef,undef,undef,undef,undef,undef,undef,undef,undef,undef,undef,undef,undef,undef,undef,undef,undef,undef],ds⟩ w O:=by
 obtain⟨r,hr⟩:∃r,∀k,k≤t.n→∀(w:World) (O:Own) (x:Nat) (ds:List Deferred) (a:Act),I97 S Wg C B ne hW hC c t x ds k a w O→
   wpO (cf S Wg C B ne hW hC) false c 142 sJ r (ru (λa' w' O'=>∃k',k'<k∧I97 S Wg C B ne hW hC c t x ds k' a' w' O') (λe a w O=>e=.exit 0∧AtW (ne:=ne) (hW:=hW) (hC:=hC) (S:=S) c t x (t.acc c t.n) O w∧a.defers=ds)) a w O:=by
  have:∀m,∃r,∀k,k≤m→∀(w:World) (O:Own) (x:Nat) (ds:List Deferred) (a:Act),I97 S Wg C B ne hW hC c t x ds k a w O→
   wpO (cf S Wg C B ne hW hC) false c 142 sJ r (ru (λa' w' O'=>∃k',k'<k∧I97 S Wg C B ne hW hC c t x ds k' a' w' O') (λe a w O=>e=.exit 0∧AtW (ne:=ne) (hW:=hW) (hC:=hC) (S:=S) c t x (t.acc c t.n) O w∧a.defers=ds)) a w O:=by
   intro m
   induction m with
   |zero=>
    obtain⟨n,h⟩:=BX (ne:=ne) (hW:=hW) (hC:=hC) (S:=S) (c:=c) t hc3 htn 0
    exact⟨n,λk hk=>by obtain rfl:k=0:=by omega
                      exact h⟩
   |succ m ih=>
    obtain⟨n,h⟩:=BX (ne:=ne) (hW:=hW) (hC:=hC) (S:=S) (c:=c) t hc3 htn (m+1);obtain⟨r,hr⟩:=ih;exact⟨max n r,λk hk w O x ds a hI=>by
     by_cases e:k=m+1
     ·subst e;exact wW (h w O x ds a hI) (Nat.le_max_left _ _)
     ·exact wW (hr k (by omega) w O x ds a hI) (Nat.le_max_right _ _)⟩
  exact this t.n
 co_apply ah
 intro w O x ds hF;simp only[MV,Tryz.f142]
 co_apply nC
 co_apply iH
 simp only[aG,aC,aF,Nat.reduceAdd,Nat.zero_add,List.range,List.range.loop]
 co_apply bC (v:=.pointer (some ⟨t.T,0,none⟩)) rfl (by rfl) hF.base.hB hF.base.th
 ·intro w₁ h₁;have hG:=hF.rely h₁;have hc:=hG.base.sZ.p;exact⟨by simp[execOp,go_sem,Act.eval, *],λe he=>by
   simp[execOp,go_sem,Act.eval, *]at he;subst he;exact⟨_,rfl,.inl hG.base.sZ.s1⟩⟩
 intro w₁ h₁;replace hF:=hF.rely h₁;clear h₁
 try walk_nrm
 co_apply bC (v:=.pointer (some ⟨t.T,0,none⟩)) rfl (by rfl) hF.base.hB hF.base.th
 ·intro w₁ h₁;have hG:=hF.rely h₁;skip;exact⟨by simp[execOp,go_sem,Act.eval, *],λe he=>by
   simp[execOp,go_sem,Act.eval, *]at he;skip⟩
 intro w₁ h₁;replace hF:=hF.rely h₁;clear h₁
 try walk_nrm
 co_apply bC (v:=.pointer (some ⟨t.T,4,none⟩)) rfl (by rfl) hF.base.hB hF.base.th
 ·intro w₁ h₁;have hG:=hF.rely h₁;skip;exact⟨by simp[execOp,go_sem,Act.eval, *],λe he=>by
   simp[execOp,go_sem,Act.eval, *]at he;skip⟩
 intro w₁ h₁;replace hF:=hF.rely h₁;clear h₁
 try walk_nrm
 co_apply bC (v:=.slice t.qY t.n t.scap) rfl (by rfl) hF.base.hB hF.base.th
 ·intro w₁ h₁;have hG:=hF.rely h₁;have hc:=hG.base.sZ.zY;exact⟨by simp[execOp,go_sem,Act.eval, *],λe he=>by
   simp[execOp,go_sem,Act.eval, *]at he;subst he;exact⟨_,rfl,.inl hG.base.sZ.sT⟩⟩
 intro w₁ h₁;replace hF:=hF.rely h₁;clear h₁
 try walk_nrm
 co_apply bC (v:=.int .i64 t.n) rfl (by rfl) hF.base.hB hF.base.th
 ·intro w₁ h₁;have hG:=hF.rely h₁;skip;exact⟨by simp[execOp,go_sem,Act.eval, *],λe he=>by
   simp[execOp,go_sem,Act.eval, *]at he;skip⟩
 intro w₁ h₁;replace hF:=hF.rely h₁;clear h₁
 try walk_nrm
 co_apply bC (v:=.int .i64 0) rfl (by rfl) hF.base.hB hF.base.th
 ·intro w₁ h₁;have hG:=hF.rely h₁;skip;exact⟨by simp[execOp,go_sem,Act.eval, *],λe he=>by
   simp[execOp,go_sem,Act.eval, *]at he;skip⟩
 intro w₁ h₁;replace hF:=hF.rely h₁;clear h₁
 try walk_nrm
 co_apply je
 simp only[ru]
 co_apply Fh
 have hl:∀(a:Act) (w:World) (O:Own),I97 S Wg C B ne hW hC c t x ds t.n a w O→wpO (cf S Wg C B ne hW hC) false c 142 (.loop sJ) ((t.n+1) * (r+1)+1) (λe a w O=>e=.exit 0∧AtW (ne:=ne) (hW:=hW) (hC:=hC) (S:=S) c t x (t.acc c t.n) O w∧a.defers=ds) a w O:=λa w O hI=>
  UK (λk a w O=>k≤t.n∧I97 S Wg C B ne hW hC c t x ds k a w O) r t.n ⟨ak _,hI⟩ (λk a w O ⟨hk,hI⟩=>oP (hr k hk w O x ds a hI) λe a w O hq=>by
   cases e with
   |normal=>obtain⟨k',h1,h2⟩:=hq;exact⟨k',h1,by omega,h2⟩
   |_=>exact hq)
 simp only[sJ,Tryz.f142]at hl
 co_apply oP (Q:=λe a w O=>e=.exit 0∧AtW (ne:=ne) (hW:=hW) (hC:=hC) (S:=S) c t x (t.acc c t.n) O w∧a.defers=ds) ?h ?imp
 case h=>exact hl _ _ _ ⟨0,by omega,hF,_,_,_,_,_,_,_,_,_,_,_,_,_,_,_,_,_,_,_,_,_,_,_,_,_,rfl⟩
 case imp=>
  rintro e a w O ⟨rfl,h1,h2⟩;simp only[wC,if_true];exact⟨trivial,h1,h2⟩
def Til.val(t:Til)(c:Nat):Value:=.int .i64 (t.acc c t.n)
set_option maxRecDepth 100000 in
theorem works97(t:Til)(hc3:c<3)(htn:(t.n:Int)<9223372036854775807):∃m,∀(w:World) (O:Own) (x:Nat),AtW (ne:=ne) (hW:=hW) (hC:=hC) (S:=S) c t x 0 O w→GO (cf S Wg C B ne hW hC) false c (Ih (cf S Wg C B ne hW hC) t.val c) m (born Tryz.prog (zW Wg t.b1 x C)) w O:=by
 obtain⟨n,hn⟩:=Ql (ne:=ne) (hW:=hW) (hC:=hC) (S:=S) (c:=c) t hc3 htn;refine⟨(40+3+n)+6,λw O x hF=>?_⟩;refine GO.ctl (n:=(40+3+n)+5) rfl (λw=>born97 Wg t.b1 x C w) ?_;simp only[KI,Tryz.f142,Option.getD_some];refine GO.ctl (n:=(40+3+n)+4) rfl (λw=>stepG_seq) ?_;refine GO.ctl (n:=(40+3+n)+3) rfl (λw=>stepG_region) ?_;simp only[aG,aC,aF,Nat.reduceAdd,Nat.zero_add,List.range,List.range.loop];refine GO.ctl (n:=(40+3+n)+2) rfl (λw=>stepG_defer rfl rfl (by decide) rfl) ?_
 walk_nrm
 refine GO.ctl (n:=(40+3+n)+1) rfl (λw=>stepG_region_end) ?_;have hr:=hn w O x [dcall 143 #[.pointer (some ⟨Wg,0,none⟩)]] hF (baseD 142) [] [bot] (Ih (cf S Wg C B ne hW hC) t.val c) (40+3) rfl (by simp[baseD]) λe a' w' O' hq=>by
  obtain⟨rfl,hF',hds⟩:=hq;refine GO.ctl (n:=40+2) rfl (λw=>stepG_end) ?_;refine GO.ctl (n:=40+1) rfl (λw=>stepG_unwind_enter hds Tryz.func143 (nm_done Tryz.link) rfl) ?_;obtain⟨s,h1,h2⟩:=donePre (Tryz.wgLib) (Wg:=Wg) (C:=C) (n:=3) (k:=c+1) (val:=t.val c) (c:={ (baseD 142).at ⟨a'.tmps,[]⟩ []with mode:=.returning }) (cs:=[bot]) rfl (JL a'.tmps);have hK:WgLive Tryz.link.tWg Wg w'∧Has C (c+1-1) (t.val c) w':=⟨hF'.base.live,by simpa[Has,Til.val]using hF'.own⟩
  have hg:=h1 (dh (cf S Wg C B ne hW hC) c O') (λw w₁ h r=>⟨r.live h.1,by have:=r.cell.trans (by simpa[Has]using h.2);simpa[Has]using this⟩) w' hK;refine GO.more (GO.dY (m:=0) (k:=40) (λ_ _ h=>h) ?_);refine goes_mono (λg w hgw=>?_) hg;obtain⟨rfl,hKw⟩:=hgw;exact GO.stop λw₁ h₁=>h2 w₁ ⟨h₁.live hKw.1,by have:=h₁.cell.trans (by simpa[Has]using hKw.2);simpa[Has]using this⟩
 simp only[MV,Tryz.f142]at hr;exact GO.more hr
end
end Crew
end
