/- The WaitGroup's functions and types of this program, by their numbers. -/
import Derived.Test.YtccjdkghgbbliaaGreatDoorChecked
import Derived.Conc.WgGenN3
import Derived.Deep.MidRow
import Derived.Test.YtccjdkghgbbliaaGreatDoorA25
set_option linter.all false
namespace Go.Proofs.YtccjdkghgbbliaaGreatDoor
section
set_option maxHeartbeats 1000000
set_option maxRecDepth 10000
abbrev Tryz.link:Go.Conc.Lib.WgLink:={ add:=141,done:=143,wait:=145,relMerge:=204,disable:=205,enable:=206,inBubble:=207,associate:=208,fatal:=209,uOr:=210,uAdd:=211,raceRead:=212,uLoad:=213,uStore:=214,disassociate:=215,semrelease:=216,acquire:=217,isAssociated:=218,uCas:=219,raceWrite:=220,semacquire:=221,orU64:=253,addU64:=254,loadU64:=255,storeU64:=256,casU64:=257,tWgP:=326,tUP:=328,tAssoc:=329,tWg:=268,tAU:=266,tU64:=264,tUint:=238,tU32:=216,tPU32:=333,tPAU:=376,tPU64:=378,tNoCopy:=215,tANoCopy:=262,tAlign64:=263 }
theorem Tryz.wgLib:Go.Conc.Lib.WgLib Tryz.prog Tryz.link:=
 ⟨Tryz.func141,Tryz.func143,Tryz.func145,Tryz.func204,Tryz.func205,Tryz.func206,Tryz.func207,Tryz.func208,Tryz.func209,Tryz.func210,Tryz.func211,Tryz.func212,Tryz.func213,Tryz.func214,Tryz.func215,Tryz.func216,Tryz.func217,Tryz.func218,Tryz.func219,Tryz.func220,Tryz.func221,Tryz.func253,Tryz.func254,Tryz.func255,Tryz.func256,Tryz.func257,Tryz.underlying326,Tryz.runUnderlying326,Tryz.sizeOf326,Tryz.isAgg326,Tryz.zeroValue326,Tryz.underlying328,Tryz.runUnderlying328,Tryz.sizeOf328,Tryz.isAgg328,Tryz.zeroValue328,Tryz.underlying329,Tryz.runUnderlying329,Tryz.sizeOf329,Tryz.isAgg329,Tryz.zeroValue329,Tryz.underlying268,Tryz.runUnderlying268,Tryz.sizeOf268,Tryz.isAgg268,Tryz.zeroValue268,Tryz.underlying266,Tryz.runUnderlying266,Tryz.sizeOf266,Tryz.isAgg266,Tryz.zeroValue266,Tryz.underlying264,Tryz.runUnderlying264,Tryz.sizeOf264,Tryz.isAgg264,Tryz.zeroValue264,Tryz.underlying238,Tryz.runUnderlying238,Tryz.sizeOf238,Tryz.isAgg238,Tryz.zeroValue238,Tryz.underlying216,Tryz.runUnderlying216,Tryz.sizeOf216,Tryz.isAgg216,Tryz.zeroValue216,Tryz.underlying333,Tryz.runUnderlying333,Tryz.sizeOf333,Tryz.isAgg333,Tryz.zeroValue333,Tryz.underlying376,Tryz.runUnderlying376,Tryz.sizeOf376,Tryz.isAgg376,Tryz.zeroValue376,Tryz.underlying378,Tryz.runUnderlying378,Tryz.sizeOf378,Tryz.isAgg378,Tryz.zeroValue378,Tryz.underlying0,Tryz.runUnderlying0,Tryz.sizeOf0,Tryz.isAgg0,Tryz.zeroValue0,Tryz.underlying3,Tryz.runUnderlying3,Tryz.sizeOf3,Tryz.isAgg3,Tryz.zeroValue3,Tryz.underlying4,Tryz.runUnderlying4,Tryz.sizeOf4,Tryz.isAgg4,Tryz.zeroValue4,Tryz.underlying9,Tryz.runUnderlying9,Tryz.sizeOf9,Tryz.isAgg9,Tryz.zeroValue9,Tryz.underlying20,Tryz.runUnderlying20,Tryz.sizeOf20,Tryz.isAgg20,Tryz.zeroValue20,Tryz.underlying21,Tryz.runUnderlying21,Tryz.sizeOf21,Tryz.isAgg21,Tryz.zeroValue21,(by kernel_rfl),(by kernel_rfl)⟩
instance:Go.ConcR.Payload:=⟨131⟩
end
section
namespace Crew
set_option maxHeartbeats 1000000
set_option maxRecDepth 10000
open Go Go.Conc Go.ConcN
open Go.ConcR (Payload DC0)
variable [Payload]
def Can(X:Cf)(c:Nat)(O:Own)(ad:Addr):Prop:=(ad.block<X.B∧ad.block≠X.C∧ad.block≠X.Wg∧¬X.S ad.block)∨O ad.block∨ad=⟨X.C,c,none⟩
def FC(X:Cf)(c:Nat)(O:Own)(e:Event):Prop:=∃ad:Addr,e=⟨.cell ad,false,false⟩∧Can X c O ad
def There(O:Own)(w:World):Prop:=∀b,O b→b<w.heap.size
section
variable {X:Cf} {main:Bool} {c:Nat} {fn:FuncId} {Q:Qo} {a:Act} {w w₁ w':World} {O O':Own} {n:Nat} {ops:Array Oper} {i:Nat} {rest:List Nat} {o:Oper} {v:Value}
theorem There.rely(h:There O w)(hr:dh X c O w w₁):There O w₁:=λb hb=>aB (h b hb) hr.size
theorem RQ(hB:X.B≤w.heap.size)(ht:There O w){N':Nat}(hN:w.heap.size≤N'){e:Event}(h:FC X c O e):EvO X main c O w.heap.size N' e:=by
 obtain⟨ad,rfl,h⟩:=h;have hC:=X.hC;refine⟨by simp,by simp,by simp,?_,λx hx=>?_⟩
 ·show ad.block<N'
  rcases h with h|h|h
  ·omega
  ·have:=ht _ h;omega
  ·rw[h];show X.C<N';omega
 ·simp only[MemAct.ofEvent,MemAct.touch?,Option.some.injEq]at hx;subst hx;intro b hb;simp only[Lift.blk,Option.some.injEq]at hb;subst hb;refine⟨by simp,?_⟩;rcases h with⟨h1,h2,h3,h4⟩|h|h
  ·exact .inl ⟨h1,h2,h3,h4,rfl⟩
  ·exact .inr (.inl h)
  ·exact .inr (.inr (.inr (.inl (by rw[h]))))
theorem fD{es:Array Event}(hB:X.B≤w.heap.size)(ht:There O w)(h:∀e∈es,FC X c O e):DO X main c O w w es:=
 ⟨ak _,λ_ _ _ _=>rfl,λh=>h,λ_ _=>rfl,λ_ h=>h,λe he=>RQ hB ht (ak _) (h e he),⟨rfl,rfl⟩⟩
theorem bC(ho:ops[i]?=some o)(hw:Region.wanted o (yielded ops a.tmps)=true)(hB:X.B≤w.heap.size)(ht:There O w)
  (h:∀w₁,dh X c O w w₁→(execOp a.eval o).run X.P w₁=.ok (.value v) w₁∧∀e∈(execOp a.eval o).events X.P w₁ #[],FC X c O e) (hn:∀w₁,dh X c O w w₁→oJ X main c fn ops rest n Q (a.put o.dst v) w₁ O) :
  oJ X main c fn ops (i::rest) (n+1) Q a w O:=by
 refine sG ho hw λw₁ h₁ K hK=>?_;obtain⟨h1,h2⟩:=h w₁ h₁;rw[h1];exact hK _ _ ⟨fD (Nat.le_trans hB h₁.size) (ht.rely h₁) λe he=>h2 e (mem_listed he),O,D9.refl _ _ _,hn w₁ h₁⟩
theorem ev_load(ad:Addr)(w:World)(es:Array Event){u:Value}(hu:w.cell? ad=some u):∀e∈(load ad).events X.P w es,e∈es∨e=⟨.cell ad,false,false⟩:=by
 intro e h;rw[events_load,hu]at h;rcases Array.mem_push.1 h with h|rfl
 ·exact .inl h
 ·exact .inr rfl
theorem o8(ad:Addr):∀(n i:Nat) (acc:Array Value) (w:World) (es:Array Event),(∀j,j<n→(w.cell? (ad.add (i+j))).isSome)→∀e∈(loadCellsFrom ad i n acc).events X.P w es,e∈es∨∃j,e=⟨.cell (ad.add j),false,false⟩
 |0,_,_,_,_,_=>λe h=>.inl (by simpa[loadCellsFrom]using h)
 |n+1,i,acc,w,es,hc=>λe h=>by
  simp only[loadCellsFrom,Sem.events_bind]at h;obtain⟨u,hu⟩:=Option.isSome_iff_exists.1 (hc 0 (by omega));simp only[Nat.add_zero]at hu;have hr:(load (ad.add i)).run X.P w=.ok u w:=by simp[hu]
  rw[hr]at h;rcases o8 ad n (i+1) (acc.push u) w _ (λj hj=>by have:=hc (j+1) (by omega);rwa[show i+(j+1)=i+1+j by omega]at this) e h with h|h
  ·rcases ev_load _ w es hu e h with h|h
   ·exact .inl h
   ·exact .inr ⟨i,h⟩
  ·exact .inr h
omit [Payload]in
theorem uy{P:Program}{ty:TypeId}{d:TypeDesc}(hu:P.underlying ty=some d)(hd:d.isRow=true)(w:World):(isAgg ty).run P w=.ok true w:=by
 unfold isAgg;rw[Sem.run_bind,run_underlying hu w];cases d<;>simp_all
omit [Payload]in
theorem nZ{P:Program}{ty:TypeId}{d:TypeDesc}(hu:P.underlying ty=some d)(hd:d.isRow=true)(w:World):∀es,(isAgg ty).events P w es=es:=λes=>by
 have hru:=run_underlying hu w;cases d<;>first|(cases hd;done)|simp[isAgg,go_sem,hru]
theorem Ji{b p:Nat}{ty:TypeId}{cs:List Value}{d:TypeDesc}{x:Operand}(hop:o.op=.load ty x)(hx:a.eval x=.pointer (some ⟨b,p,none⟩))(hc:w.rangeAt b p cs)(hu:X.P.underlying ty=some d)(hd:d.isRow=true)
  (hi:(X.P.info? ty).map (·.size)=some cs.length) :
  (execOp a.eval o).run X.P w=.ok (.value (.agg cs.toArray)) w∧∀e∈(execOp a.eval o).events X.P w #[],∃j,e=⟨.cell ⟨b,p+j,none⟩,false,false⟩:=by
 have hrun:=run_loadAt_mid (P:=X.P) w b p ty cs d hc hu hd hi;constructor
 ·unfold execOp;simp only[hop,hx,Instr.loadAt,Instr.sureAddr,Sem.run_bind,Sem.run_pure,Result.andThen_ok,run_loadVar_mid w b p ty cs d hc hu hd hi]
 ·intro e he;obtain⟨inf,hq,hs⟩:∃inf,X.P.info? ty=some inf∧inf.size=cs.length:=by
   cases hq:X.P.info? ty with
   |none=>simp[hq]at hi
   |some inf=>exact⟨inf,rfl,by simpa[hq]using hi⟩
  have hagg:=uy hu hd w;have hev:=nZ hu hd w;have add:∀j,(⟨b,p,none⟩:Addr).add j=⟨b,p+j,none⟩:=Addr.add_mid b p;have he2:e∈(loadCellsFrom ⟨b,p,none⟩ 0 cs.length #[]).events X.P w #[]:=by
   unfold execOp at he;simp only[hop,hx,Instr.loadAt,Instr.sureAddr]at he;simpa[Sem.events_bind,Sem.run_bind,loadVar,hagg,hev,sizeOf,typeInfo,hq,hs,loadCells,go_sem]using he
  rcases o8 (X:=X) ⟨b,p,none⟩ cs.length 0 #[] w #[] (λj hj=>by
   rw[add,Nat.zero_add,hc j cs[j] (List.getElem?_eq_getElem hj)];rfl) e he2 with h|⟨j,h⟩
  ·simp at h
  ·exact⟨j,by rw[h,add]⟩
theorem BJ{cells:Array Value}{ty:TypeId}(ho:ops[i]?=some o)(hw:Region.wanted o (yielded ops a.tmps)=true)(hB:X.B≤w.heap.size)
  (h:∀w₁,dh X c O w w₁→(execOp a.eval o).run X.P w₁=.ok (.value (.pointer (some ⟨w₁.heap.size,0,none⟩))) (w₁.alloc (.cells cells ty))∧(execOp a.eval o).events X.P w₁ #[]=#[])
  (hn:∀w₁,dh X c O w w₁→oJ X main c fn ops rest n Q (a.put o.dst (.pointer (some ⟨w₁.heap.size,0,none⟩))) (w₁.alloc (.cells cells ty)) (λb=>O b∨b=w₁.heap.size)) :
  oJ X main c fn ops (i::rest) (n+1) Q a w O:=by
 refine sG ho hw λw₁ h₁ K hK=>?_;obtain⟨h1,h2⟩:=h w₁ h₁;have hB₁:=Nat.le_trans hB h₁.size;have hC:=X.hC;have hsz:(w₁.alloc (.cells cells ty)).heap.size=w₁.heap.size+1:=by show(w₁.heap.push _).size=_;simp
 have hold:∀b,b<w₁.heap.size→(w₁.alloc (.cells cells ty)).heap[b]?=w₁.heap[b]?:=λb hb=>by
  show(w₁.heap.push _)[b]?=_
  rw[Array.getElem?_push];simp;omega
 rw[h1];refine hK _ _ ⟨⟨by omega,λb hb _ _=>hold b hb,λ⟨cs,k1,k2⟩=>⟨cs,(hold X.C (by omega)).trans k1,k2⟩,λj _=>by simp only[World.cell?,hold X.C (by omega:X.C<w₁.heap.size)],λ_ hg b ob hb=>?_,λe he=>?_,⟨rfl,rfl⟩⟩,_,λb hb=>?_,hn w₁ h₁⟩
 ·rcases Nat.lt_or_ge b w₁.heap.size with hlt|hge
  ·rw[hold b hlt]at hb;exact hg b ob hb
  ·have hlt:=(Array.getElem?_eq_some_iff.1 hb).1;have:b=w₁.heap.size:=by omega
   subst this;rw[show(w₁.alloc (.cells cells ty)).heap[w₁.heap.size]?=some (.cells cells ty)from Array.getElem?_push_size]at hb;cases hb;trivial
 ·have:=mem_listed he;rw[h2]at this;simp at this
 ·rcases hb with hb|hb
  ·exact .inl hb
  ·exact .inr (by omega)
theorem BK{g:Nat}{wf:World→World}(ho:ops[i]?=some o)(hw:Region.wanted o (yielded ops a.tmps)=true)(hB:X.B≤w.heap.size)(ht:There O w)(hg:O g)(hgB:X.B≤g)
  (h:∀w₁,dh X c O w w₁→(execOp a.eval o).run X.P w₁=.ok .skip (wf w₁)∧(∀e∈(execOp a.eval o).events X.P w₁ #[],∃j,e=⟨.cell ⟨g,j,none⟩,true,false⟩)∧(wf w₁).heap.size=w₁.heap.size∧(∀b,b≠g→(wf w₁).heap[b]?=w₁.heap[b]?)∧∃cs t fr,(wf w₁).heap[g]?=some (.cells cs t fr)) (hos:∀w₁,(wf w₁).os=w₁.os∧(wf w₁).output=w₁.output:=by exact λ_=>⟨rfl,rfl⟩)
  (hn:∀w₁,dh X c O w w₁→oJ X main c fn ops rest n Q (a.put o.dst undef) (wf w₁) O):oJ X main c fn ops (i::rest) (n+1) Q a w O:=by
 refine sG ho hw λw₁ h₁ K hK=>?_;obtain⟨h1,h2,h3,h4,cs,t,fr,h5⟩:=h w₁ h₁;have hC:=X.hC;rw[h1];refine hK _ _ ⟨⟨by omega,λb _ hb _=>h4 b (λe=>hb (e▸hg)),λ⟨cs,k1,k2⟩=>⟨cs,(h4 X.C (by omega)).trans k1,k2⟩,λj _=>by simp only[World.cell?,h4 X.C (by omega)],λ_ hgd b ob hb=>?_,λe he=>?_,hos w₁⟩,O,D9.refl _ _ _,hn w₁ h₁⟩
 ·by_cases e:b=g
  ·subst e;rw[h5]at hb;cases hb;trivial
  ·rw[h4 b e]at hb;exact hgd b ob hb
 ·obtain⟨j,rfl⟩:=h2 e (mem_listed he);refine⟨by simp,by simp,by simp,?_,λx hx=>?_⟩
  ·show g<(wf w₁).heap.size
   rw[h3];exact(ht.rely h₁) g hg
  ·simp only[MemAct.ofEvent,MemAct.touch?,Option.some.injEq]at hx;subst hx;intro b hb;simp only[Lift.blk,Option.some.injEq]at hb;subst hb;exact⟨by simp,.inr (.inl hg)⟩
theorem Qc{u:World→Value}(ho:ops[i]?=some o)(hw:Region.wanted o (yielded ops a.tmps)=true)(hB:X.B≤w.heap.size)(hpay:PayAt X.C X.n w)
  (h:∀w₁,dh X c O w w₁→(execOp a.eval o).run X.P w₁=.ok .skip (w₁.setCell ⟨X.C,c,none⟩ (u w₁))∧(∀e∈(execOp a.eval o).events X.P w₁ #[],e=⟨.cell ⟨X.C,c,none⟩,true,false⟩))
  (hn:∀w₁,dh X c O w w₁→oJ X main c fn ops rest n Q (a.put o.dst undef) (w₁.setCell ⟨X.C,c,none⟩ (u w₁)) O):oJ X main c fn ops (i::rest) (n+1) Q a w O:=by
 refine sG ho hw λw₁ h₁ K hK=>?_;obtain⟨h1,h2⟩:=h w₁ h₁;have hC:=X.hC;have hB₁:=Nat.le_trans hB h₁.size;obtain⟨cs,k1,k2⟩:=h₁.pay hpay;have hset:=setCell_eq_setRow w₁ X.C c cs Payload.ety (0,0) (u w₁) k1;have hrow:=setRow_heap w₁ X.C cs (cs.setIfInBounds c (u w₁)) Payload.ety (0,0) k1;have hoth:∀b,b≠X.C→(w₁.setCell ⟨X.C,c,none⟩ (u w₁)).heap[b]?=w₁.heap[b]?:=λb hb=>(aside_setCell w₁ ⟨X.C,c,none⟩ (u w₁)).block b hb;have hsz:(w₁.setCell ⟨X.C,c,none⟩ (u w₁)).heap.size=w₁.heap.size:=(aside_setCell w₁ ⟨X.C,c,none⟩ (u w₁)).size;rw[h1];refine hK _ _ ⟨⟨by omega,λb _ _ hb=>hoth b hb,λ_=>⟨_,by rw[hset];exact hrow,by simpa using k2⟩,λj hj=>?_,λ_ hgd b ob hb=>?_,λe he=>?_,⟨(aside_setCell w₁ ⟨X.C,c,none⟩ (u w₁)).os,(aside_setCell w₁ ⟨X.C,c,none⟩ (u w₁)).output⟩⟩,O,D9.refl _ _ _,hn w₁ h₁⟩
 ·exact World.cell?_setCell_other _ _ _ _ (by simpa using λe=>hj e.symm)
 ·by_cases e:b=X.C
  ·subst e;rw[hset,hrow]at hb;cases hb;trivial
  ·rw[hoth b e]at hb;exact hgd b ob hb
 ·obtain rfl:=h2 e (mem_listed he);refine⟨by simp,by simp,by simp,?_,λx hx=>?_⟩
  ·show X.C<(w₁.setCell ⟨X.C,c,none⟩ (u w₁)).heap.size
   omega
  ·simp only[MemAct.ofEvent,MemAct.touch?,Option.some.injEq]at hx;subst hx;intro b hb;exact⟨by simp,.inr (.inr (.inr (.inl rfl)))⟩
end
end Crew
end
section
namespace Crew
set_option maxHeartbeats 1000000
set_option maxRecDepth 10000
open Go Go.Conc Go.ConcN Go.RowKit Go.Conc.Lib Go.ConcR.Gen Go.ConcN.Gen
open Go.ConcR (KK wgBlock WgAt stA smA rd wr mk Payload DC0)
variable [Payload] {L:WgLink}
theorem fl{X:Cf}{c:Nat}{O:Own}{F:World→Prop}(aQ:∀w w₁,dh X c O w w₁→F w→F w₁){w w₁:World}(h:F w∧WgLive X.ty X.Wg w)(r:dh X c O w w₁):F w₁∧WgLive X.ty X.Wg w₁:=⟨aQ _ _ r h.1,r.live h.2⟩
theorem NI{X:Cf}{c:Nat}{O:Own}{w:World}(hB:X.B≤w.heap.size)(m:Mark)(hm:m=.read (smA X.Wg)∨m=.write (smA X.Wg)):DO X true c O w w #[⟨.mark m,false,true⟩]:=by
 have hW:=X.hW;refine⟨ak _,λ_ _ _ _=>rfl,id,λ_ _=>rfl,λ_=>id,λe he=>?_,⟨rfl,rfl⟩⟩;simp only[List.mem_toArray,List.mem_cons,List.not_mem_nil,or_false]at he;subst he;rcases hm with rfl|rfl
 ·refine⟨by simp,by simp,by simp,?_,λx hx=>?_⟩
  ·show X.Wg<w.heap.size;omega
  ·simp only[MemAct.ofEvent,MemAct.touch?,Option.some.injEq]at hx;subst hx;intro b hb;simp only[Lift.blk,smA,Option.some.injEq]at hb;exact⟨by simp,.inr (.inr (.inr (.inr ⟨hb.symm,by simp,λ_=>rfl⟩)))⟩
 ·refine⟨by simp,by simp,by simp,?_,λx hx=>?_⟩
  ·show X.Wg<w.heap.size;omega
  ·simp only[MemAct.ofEvent,MemAct.touch?,Option.some.injEq]at hx;subst hx;intro b hb;simp only[Lift.blk,smA,Option.some.injEq]at hb;exact⟨by simp,.inr (.inr (.inr (.inr ⟨hb.symm,by simp,λ_=>rfl⟩)))⟩
section
variable {X:Cf} {j:Nat} {val:Nat→Value} {Next:Goroutine→World→Prop} {F:World→Prop} {O:Own} {b₀:Frame} {a₀:Act} {ops₀:Array Oper} {i₀:Nat} {rest₀:List Nat} {k₀:List Item} {cs:List Frame} {mT:Nat}
set_option maxRecDepth 100000 in
set_option maxHeartbeats 32000000 in
theorem addPos(H:WgLib X.P L)(hX:X.ty=L.tWg)(aQ:∀w w₁,dh X X.n O w w₁→F w→F w₁)(hFW:∀w v,F w→F (w.setCell (stA X.Wg) v))(hFB:∀w,F w→X.B≤w.heap.size)
  (hT:∀w,F w∧WgLive X.ty X.Wg w→GO X true X.n (AtGo X val j Next) mT (G (b₀.at (a₀.put ((ops₀[i₀]?).bind (·.dst)) (.tuple #[])) (.inRegion ops₀ rest₀::k₀)) cs) w O) (w:World) (hF:F w∧WgLive X.ty X.Wg w) :
  GO X true X.n (AtKdS X val j Next) 40
   (G ((base L.add).at ⟨#[.pointer (some ⟨X.Wg,0,none⟩),.int .i64 1,undef,undef,undef,undef,undef,undef,undef,undef,undef,undef,undef,undef,undef,undef,undef,undef,undef,undef,undef,undef,undef,undef,undef,undef,undef,undef,undef,undef,undef,undef,undef,undef,undef,undef,undef,undef,undef,undef,undef,undef,undef,undef,undef,undef,undef,undef,undef,undef,undef,undef,undef,undef,undef,undef,undef,undef,undef,undef,undef,undef,undef,undef,undef,undef,undef,undef,undef,undef,undef,undef,undef,undef,undef,undef,undef,undef,undef,undef,undef,undef,undef,undef,undef,undef,undef,undef,undef,undef,undef,undef,undef,undef,undef,undef,undef,undef,undef,undef,undef,undef,undef,undef,undef,undef,undef,undef,undef,undef,undef,undef,undef,undef,undef,undef,undef],[]⟩ [.code (body_add L)]) (b₀.at a₀ (.inRegion ops₀ (i₀::rest₀)::k₀)::cs)) w O:=by
 lib_facts
 simp only[body_add,addFn,Option.getD_some];refine GO.dY (m:=0) (k:=40) (λ_ _ h=>h) ?_
 u_c stepG_seq (fl aQ) hF;u_cond true (fl aQ) hF;u_c stepG_seq (fl aQ) hF;u_c stepG_seq (fl aQ) hF;u_reg (fl aQ) hF;u_op (fl aQ) hF;u_op (fl aQ) hF;u_c stepG_region_end (fl aQ) hF;u_cond false (fl aQ) hF;u_c stepG_skip (fl aQ) hF;u_c stepG_seq (fl aQ) hF;u_reg (fl aQ) hF
 refine Goes.stop λw1 h1=>GO.stop λv1 k1=>?_;replace hF:=fl aQ (fl aQ hF h1) k1;clear h1 k1;refine⟨rfl,_,stepG_mark0 .disable (by simp) rfl rfl (by k_ne) rfl H.f_disable (x_disable_n L) (x_disable_b L) (x_disable_x L) (x_disable_f L),0+100,GO.dY (λ_ _ h=>h) ?_⟩
 walk_nrm
 u_c stepG_region_end (fl aQ) hF;u_reg (fl aQ) hF
 u_defer (fl aQ) hF
 u_c stepG_region_end (fl aQ) hF;u_c stepG_seq (fl aQ) hF;u_reg (fl aQ) hF;u_op (fl aQ) hF;u_c stepG_region_end (fl aQ) hF;u_c stepG_seq (fl aQ) hF;u_c stepG_seq (fl aQ) hF;u_reg (fl aQ) hF
 u_bub (fl aQ) hF
 u_c stepG_region_end (fl aQ) hF;u_cond false (fl aQ) hF;u_c stepG_skip (fl aQ) hF;u_c stepG_seq (fl aQ) hF;u_reg (fl aQ) hF;u_op (fl aQ) hF;u_op (fl aQ) hF;u_op (fl aQ) hF;u_op (fl aQ) hF;u_op (fl aQ) hF;u_op (fl aQ) hF
 u_call H.f_uAdd (nm_uAdd L) uAddFn (fl aQ) hF
 u_c stepG_seq (fl aQ) hF;u_reg (fl aQ) hF;u_op (fl aQ) hF;u_c stepG_region_end (fl aQ) hF;u_c stepG_seq (fl aQ) hF;u_reg (fl aQ) hF;u_op (fl aQ) hF;u_op (fl aQ) hF;u_op (fl aQ) hF;u_op (fl aQ) hF
 refine Goes.stop λw2 h2=>GO.stop λv2 k2=>?_;replace hF:=fl aQ (fl aQ hF h2) k2;clear h2 k2;refine⟨rfl,λv hv hw=>?_⟩;rcases Nat.eq_zero_or_pos v with rfl|hvp
 ·
  replace hw:WgAt X.ty X.Wg v2 0 0:=by simpa using hw
  have z:(((0:Nat):Int)+1) * KK=KK:=by simp
  rw[z];have e0:IntKind.u64.wrap (0+4294967296)=KK:=by decide
  refine⟨_,(stepG_add_atomic rfl rfl (by k_ne) rfl H.f_addU64 (x_addU64_n L) (x_addU64_b L) (x_addU64_x L) .u64 (x_addU64_f L) rfl rfl hw.cellSt (hw.thaw 0)).trans (by rw[e0];rfl),200+mT+200,GO.dY (m:=200+mT) (k:=200) (λ_ _ h=>h) ?_⟩;replace hF:F (v2.setCell (stA X.Wg) (.int .u64 KK))∧WgLive X.ty X.Wg (v2.setCell (stA X.Wg) (.int .u64 KK)):=⟨hFW _ _ hF.1,⟨_,_,hw.setSt _⟩⟩
  clear hw;simp only[KK]at hF ⊢
  walk_nrm
  u_op (fl aQ) hF;u_c stepG_region_end (fl aQ) hF;u_c stepG_ret' (fl aQ) hF
  u_leave1 H.f_uAdd (fl aQ) hF
  u_op (fl aQ) hF;u_c stepG_region_end (fl aQ) hF;u_c stepG_seq (fl aQ) hF;u_c stepG_seq (fl aQ) hF;u_reg (fl aQ) hF;u_op (fl aQ) hF;u_op (fl aQ) hF;u_op (fl aQ) hF;u_op (fl aQ) hF;u_skip (fl aQ) hF;u_skip (fl aQ) hF;u_op (fl aQ) hF;u_c stepG_region_end (fl aQ) hF;u_cond false (fl aQ) hF;u_c stepG_skip (fl aQ) hF;u_c stepG_seq (fl aQ) hF;u_reg (fl aQ) hF;u_op (fl aQ) hF;u_op (fl aQ) hF;u_op (fl aQ) hF;u_op (fl aQ) hF;u_c stepG_region_end (fl aQ) hF;u_c stepG_seq (fl aQ) hF;u_reg (fl aQ) hF;u_op (fl aQ) hF;u_op (fl aQ) hF;u_op (fl aQ) hF;u_op (fl aQ) hF;u_c stepG_region_end (fl aQ) hF;u_c stepG_seq (fl aQ) hF;u_c stepG_seq (fl aQ) hF;u_reg (fl aQ) hF;u_op (fl aQ) hF;u_op (fl aQ) hF;u_op (fl aQ) hF;u_op (fl aQ) hF;u_op (fl aQ) hF;u_op (fl aQ) hF;u_op (fl aQ) hF;u_op (fl aQ) hF;u_op (fl aQ) hF;u_op (fl aQ) hF;u_c stepG_region_end (fl aQ) hF;u_cond true (fl aQ) hF;u_reg (fl aQ) hF;u_op (fl aQ) hF;u_op (fl aQ) hF;u_op (fl aQ) hF
  refine Goes.step rfl (λ_ h₁=>?_);replace hF:=fl aQ hF h₁;clear h₁;refine goes_oper_k rfl rfl (by k_ne) (λKx hKx=>?_);have hcv:=run_convert_to_unsafe (P:=X.P) H.underlying_tPU32 H.underlying_tUP H.room_tU32 (WgLive.cell1 hF.2).choose_spec;have hce:=λes=>events_convert_to_unsafe (P:=X.P) H.underlying_tPU32 H.underlying_tUP H.room_tU32 (WgLive.cell1 hF.2).choose_spec es
  go_simp
  refine hKx _ _ ⟨?_,?_⟩
  ·u_none
   intro ex hex;have hmx:=mem_listed hex;simp[go_sem,hce]at hmx
  clear hKx Kx hcv hce;refine Goes.stop λw3 h3=>?_;have e1:200+mT=(199+mT)+1:=by omega
  rw[e1];refine GO.step rfl λv3 k3=>?_;replace hF:=fl aQ (fl aQ hF h3) k3;clear h3 k3;rw[stepG_markAt .read (by simp) rfl rfl (by k_ne) rfl H.f_raceRead (x_raceRead_n L) (x_raceRead_b L) (x_raceRead_x L) (x_raceRead_f L) (ad:=⟨X.Wg,1,none⟩) (by simp[Act.eval])];simp only[goes_go];refine⟨NI (hFB _ hF.1) (.read (smA X.Wg)) (.inl rfl),?_⟩;have e2:199+mT=mT+199:=by omega
  rw[e2];refine GO.dY (m:=mT) (k:=199) (λ_ _ h=>h) ?_
  walk_nrm
  u_c stepG_region_end (fl aQ) hF;u_c stepG_seq (fl aQ) hF;u_c stepG_seq (fl aQ) hF;u_reg (fl aQ) hF;u_op (fl aQ) hF;u_op (fl aQ) hF;u_c stepG_region_end (fl aQ) hF;u_cond false (fl aQ) hF;u_c stepG_skip (fl aQ) hF;u_c stepG_seq (fl aQ) hF;u_c stepG_seq (fl aQ) hF;u_reg (fl aQ) hF;u_op (fl aQ) hF;u_op (fl aQ) hF;u_op (fl aQ) hF;u_skip (fl aQ) hF;u_skip (fl aQ) hF;u_op (fl aQ) hF;u_op (fl aQ) hF;u_skip (fl aQ) hF;u_skip (fl aQ) hF;u_skip (fl aQ) hF;u_skip (fl aQ) hF;u_op (fl aQ) hF;u_c stepG_region_end (fl aQ) hF;u_cond false (fl aQ) hF;u_c stepG_skip (fl aQ) hF;u_c stepG_seq (fl aQ) hF;u_c stepG_seq (fl aQ) hF;u_reg (fl aQ) hF;u_op (fl aQ) hF;u_op (fl aQ) hF;u_op (fl aQ) hF;u_skip (fl aQ) hF;u_skip (fl aQ) hF;u_op (fl aQ) hF;u_c stepG_region_end (fl aQ) hF;u_cond true (fl aQ) hF;u_c stepG_ret' (fl aQ) hF
  refine Goes.stop λw4 h4=>GO.stop λv4 k4=>?_;replace hF:=fl aQ (fl aQ hF h4) k4;clear h4 k4;refine⟨rfl,_,stepG_unwind_entry (v:=.tuple #[]) (evs:=#[mk .enable]) rfl H.f_enable (x_enable_n L) (x_enable_b L) (x_enable_x L) (x_enable_f L) (by simp[Extern.Race.none_]) (by simp[mk]) (by simp[mk]),mT+1,GO.dY (m:=mT) (k:=1) (λ_ _ h=>h) ?_⟩
  u_leave0 H.f_add (fl aQ) hF
  exact Goes.stop λw5 h5=>hT _ (fl aQ hF h5)
 ·
  obtain⟨V,hV⟩:∃V:Int,V=(v:Int)+1:=⟨_,rfl⟩
  obtain⟨S,hS⟩:∃S:Int,S=V * KK:=⟨_,rfl⟩
  have eS:IntKind.u64.wrap ((v:Int) * KK+4294967296)=S:=by rw[IntKind.wrap_u64,hS,hV];simp only[KK];omega
  rw[← hV,← hS];have a1:S / 4294967296=V:=by rw[hS];simp only[KK];omega
  have b1:bits .and .u64 S 2147483648=0:=by rw[hS,hV];have:=st_flag (v+1) 0 (by omega) (by omega);simpa[KK]using this
  have b2:bits .and .u64 S 2147483647=0:=by rw[hS,hV];have:=st_waiters (v+1) 0 (by omega) (by omega);simpa[KK]using this
  have c1:IntKind.i32.wrap V=V:=by rw[IntKind.wrap_i32];omega
  have hV1:1<V:=by omega
  have hV2:V<2147483648:=by omega
  have q1:(V==1)=false:=by simp;omega
  have q2:decide (V=1)=false:=decide_eq_false (by omega);have q3:decide (V<0)=false:=decide_eq_false (by omega);have q4:decide (0<V)=true:=decide_eq_true (by omega);have q5:(V==0)=false:=by simp;omega
  have q6:decide (V=0)=false:=decide_eq_false (by omega);refine⟨_,(stepG_add_atomic rfl rfl (by k_ne) rfl H.f_addU64 (x_addU64_n L) (x_addU64_b L) (x_addU64_x L) .u64 (x_addU64_f L) rfl rfl hw.cellSt (hw.thaw 0)).trans (by rw[eS];rfl),0+200,GO.dY (m:=0) (k:=200) (λ_ _ h=>h) ?_⟩;replace hF:F (v2.setCell (stA X.Wg) (.int .u64 S))∧WgLive X.ty X.Wg (v2.setCell (stA X.Wg) (.int .u64 S)):=⟨hFW _ _ hF.1,⟨_,_,hw.setSt _⟩⟩
  clear hw hS hV eS
  walk_nrm
  u_op (fl aQ) hF;u_c stepG_region_end (fl aQ) hF;u_c stepG_ret' (fl aQ) hF
  u_leave1 H.f_uAdd (fl aQ) hF
  u_op (fl aQ) hF;u_c stepG_region_end (fl aQ) hF;u_c stepG_seq (fl aQ) hF;u_c stepG_seq (fl aQ) hF;u_reg (fl aQ) hF;u_op (fl aQ) hF;u_op (fl aQ) hF;u_op (fl aQ) hF;u_op (fl aQ) hF;u_skip (fl aQ) hF;u_skip (fl aQ) hF;u_op (fl aQ) hF;u_c stepG_region_end (fl aQ) hF;u_cnd false (fl aQ) hF;u_c stepG_skip (fl aQ) hF;u_c stepG_seq (fl aQ) hF;u_reg (fl aQ) hF;u_op (fl aQ) hF;u_op (fl aQ) hF;u_op (fl aQ) hF;u_op (fl aQ) hF;u_c stepG_region_end (fl aQ) hF;u_c stepG_seq (fl aQ) hF;u_reg (fl aQ) hF;u_op (fl aQ) hF;u_op (fl aQ) hF;u_op (fl aQ) hF;u_op (fl aQ) hF;u_c stepG_region_end (fl aQ) hF;u_c stepG_seq (fl aQ) hF;u_c stepG_seq (fl aQ) hF;u_reg (fl aQ) hF;u_op (fl aQ) hF;u_op (fl aQ) hF;u_op (fl aQ) hF;u_op (fl aQ) hF;u_op (fl aQ) hF;u_op (fl aQ) hF;u_op (fl aQ) hF;u_op (fl aQ) hF;u_op (fl aQ) hF;u_op (fl aQ) hF;u_c stepG_region_end (fl aQ) hF;u_cnd false (fl aQ) hF;u_c stepG_skip (fl aQ) hF;u_c stepG_seq (fl aQ) hF;u_c stepG_seq (fl aQ) hF;u_reg (fl aQ) hF;u_op (fl aQ) hF;u_op (fl aQ) hF;u_c stepG_region_end (fl aQ) hF;u_cnd false (fl aQ) hF;u_c stepG_skip (fl aQ) hF;u_c stepG_seq (fl aQ) hF;u_c stepG_seq (fl aQ) hF;u_reg (fl aQ) hF;u_op (fl aQ) hF;u_op (fl aQ) hF;u_op (fl aQ) hF;u_skip (fl aQ) hF;u_skip (fl aQ) hF;u_op (fl aQ) hF;u_op (fl aQ) hF;u_skip (fl aQ) hF;u_skip (fl aQ) hF;u_skip (fl aQ) hF;u_skip (fl aQ) hF;u_op (fl aQ) hF;u_c stepG_region_end (fl aQ) hF;u_cnd false (fl aQ) hF;u_c stepG_skip (fl aQ) hF;u_c stepG_seq (fl aQ) hF;u_c stepG_seq (fl aQ) hF;u_reg (fl aQ) hF;u_op (fl aQ) hF;u_op (fl aQ) hF;u_op (fl aQ) hF;u_skip (fl aQ) hF;u_skip (fl aQ) hF;u_op (fl aQ) hF;u_c stepG_region_end (fl aQ) hF;u_cnd true (fl aQ) hF;u_c stepG_ret' (fl aQ) hF
  refine Goes.stop λw4 h4=>GO.stop λv4 k4=>?_;replace hF:=fl aQ (fl aQ hF h4) k4;clear h4 k4;refine⟨rfl,_,stepG_unwind_entry (v:=.tuple #[]) (evs:=#[mk .enable]) rfl H.f_enable (x_enable_n L) (x_enable_b L) (x_enable_x L) (x_enable_f L) (by simp[Extern.Race.none_]) (by simp[mk]) (by simp[mk]),mT+1,GO.dY (m:=mT) (k:=1) (λ_ _ h=>h) ?_⟩
  u_leave0 H.f_add (fl aQ) hF
  exact Goes.stop λw5 h5=>hT _ (fl aQ hF h5)
end
end Crew
end
section
namespace Crew
set_option maxHeartbeats 1000000
set_option maxRecDepth 10000
open Go Go.Conc Go.ConcN Go.RowKit Go.Conc.Lib Go.ConcR.Gen Go.ConcN.Gen
open Go.ConcR (KK wgBlock WgAt stA smA rd wr mk Payload DC0)
variable [Payload] {L:WgLink}
theorem qZ{P:Program}{R:World→World→Prop}{D:World→World→Array Event→Prop}{Stop:Goroutine→World→Prop}{s:Goroutine}{K:World→Prop}{w:World}(hr:R w w)(hno:∀g g',Stop g w→stepG P false g w≠.go g' w #[]) :
  ∀{k n:Nat} {g:Goroutine},Goes P false (λa b=>b=a) DC0 (λg w'=>g=s∧K w') k g w→Goes P false R D Stop n g w→∃m,Goes P false R D Stop m s w
 |0,n,g,h1,h2=>by obtain⟨rfl,_⟩:=h1 w rfl;exact⟨n,h2⟩
 |k+1,n,g,h1,h2=>by
  rcases h1 with h1|⟨_,h1⟩
  ·obtain⟨rfl,_⟩:=h1 w rfl;exact⟨n,h2⟩
  ·obtain⟨g',w',es,e1,⟨rfl,rfl⟩,h3⟩:=goes_elim (h1 w rfl);rcases Goes.cases h2 with h|⟨n',rfl,h⟩
   ·exact absurd e1 (hno g g' (h _ hr))
   ·obtain⟨g'',w'',es',e2,_,h4⟩:=h _ hr;rw[e1]at e2;cases e2;exact qZ hr hno h3 h4
set_option maxRecDepth 100000 in
set_option maxHeartbeats 32000000 in
theorem donePre{P:Program}(H:WgLib P L){Wg C n k:Nat}{val:Value}{c:Frame}{cs:List Frame}{qt:Nat}(hcm:c.mode=.returning)(hT:QuitsD P qt 0 (G c cs)) :
  ∃s:Goroutine,(∀(R:World→World→Prop) (_:∀w w₁,(WgLive L.tWg Wg w∧Has C (k-1) val w)→R w w₁→(WgLive L.tWg Wg w₁∧Has C (k-1) val w₁)) (w:World),(WgLive L.tWg Wg w∧Has C (k-1) val w)→
   Goes P false R DC0 (λg w'=>g=s∧(WgLive L.tWg Wg w'∧Has C (k-1) val w')) 40 (G ((baseD L.done).at ⟨#[.pointer (some ⟨Wg,0,none⟩),undef,undef,undef],[]⟩ [.code (body_done L)]) (c::cs)) w)∧
   ∀w,(WgLive L.tWg Wg w∧Has C (k-1) val w)→AtR0 P L.tWg Wg C n 0 k val s w:=by
 have hall:=@doneN _ L P H (λ_ _=>False) (λ_ _=>False) Wg C n 0 k val c cs qt hcm hT
 have hpre:∃s s1 s4:Goroutine,(∀(R:World→World→Prop) (_:∀w w₁,(WgLive L.tWg Wg w∧Has C (k-1) val w)→R w w₁→(WgLive L.tWg Wg w₁∧Has C (k-1) val w₁)) (w:World),(WgLive L.tWg Wg w∧Has C (k-1) val w)→
   Goes P false R DC0 (λg w'=>g=s∧(WgLive L.tWg Wg w'∧Has C (k-1) val w')) 40 (G ((baseD L.done).at ⟨#[.pointer (some ⟨Wg,0,none⟩),undef,undef,undef],[]⟩ [.code (body_done L)]) (c::cs)) w)∧
   (∀w,stepG P false s w=.go s1 w #[mk (.releaseMerge (stA Wg))])∧(∀w:World,Goes P false (λa b=>b=a) DC0 (λg (_:World)=>g=s4∧True) 10 s1 w)∧∀w,∃g',stepG P false s4 w=.go g' w #[mk .disable]:=by
  lib_facts
  simp only[body_done,doneFn,Option.getD_some];apply ah;apply ah;apply ah;refine⟨?a,?b,?c,?d⟩
  ·intro R hR w hK
   u_reg (hR _ _) hK;u_op (hR _ _) hK
   refine Goes.step rfl (λ_ h₁=>?_);replace hK:=hR _ _ hK h₁;clear h₁;refine goes_call rfl rfl (by k_ne) rfl H.f_add (nm_add L) rfl ⟨by u_nil,?_⟩
   walk_nrmf addFn
   u_c stepG_seq (hR _ _) hK;u_cond true (hR _ _) hK;u_c stepG_seq (hR _ _) hK;u_c stepG_seq (hR _ _) hK;u_reg (hR _ _) hK;u_op (hR _ _) hK;u_op (hR _ _) hK;u_c stepG_region_end (hR _ _) hK;u_cond true (hR _ _) hK;u_reg (hR _ _) hK;u_op (hR _ _) hK
   refine Goes.step rfl (λ_ h₁=>?_);replace hK:=hR _ _ hK h₁;clear h₁;refine goes_oper_k rfl rfl (by k_ne) (λKx hKx=>?_);have hcv:=run_convert_to_unsafe (P:=P) H.underlying_tWgP H.underlying_tUP H.room_tWg (WgLive.cell0 hK.1).choose_spec;have hce:=λes=>events_convert_to_unsafe (P:=P) H.underlying_tWgP H.underlying_tUP H.room_tWg (WgLive.cell0 hK.1).choose_spec es
   go_simp
   refine hKx _ _ ⟨?_,?_⟩
   ·u_none
    intro ex hex;have hmx:=mem_listed hex;simp[go_sem,hce]at hmx
   clear hKx Kx hcv hce;exact Goes.stop λw₁ h₁=>⟨rfl,hR _ _ hK h₁⟩
  ·intro w;exact stepG_markAt .releaseMerge (by simp) rfl rfl (by k_ne) rfl H.f_relMerge (x_relMerge_n L) (x_relMerge_b L) (x_relMerge_x L) (x_relMerge_f L) (by simp[Act.eval,stA])
  ·intro w;have hK:True:=trivial
   walk_nrm
   u_c stepG_region_end (λ(h:True) _=>h) hK;u_c stepG_seq (λ(h:True) _=>h) hK;u_reg (λ(h:True) _=>h) hK
   exact Goes.stop λ_ _=>⟨rfl,trivial⟩
  ·intro w;exact⟨_,stepG_mark0 .disable (by simp) rfl rfl (by k_ne) rfl H.f_disable (x_disable_n L) (x_disable_b L) (x_disable_x L) (x_disable_f L)⟩
 obtain⟨s,s1,s4,h1,h2,h3,h4⟩:=hpre;have hne:∀w g g',AtR0 P L.tWg Wg C n 0 k val g w→stepG P false g w≠.go g' w #[]:=λw g g' hs e=>by
  obtain⟨_,_,g2,e2,_⟩:=hs;rw[e]at e2;cases e2
 refine⟨s,h1,λw hK=>?_⟩;obtain⟨m,hm⟩:=qZ (RW.refl w) (hne w) (h1 (λa b=>b=a) (λ_ _ h e=>e▸h) w hK) (hall w hK);rcases Goes.cases hm with h|⟨m',rfl,h⟩
 ·exact h w (RW.refl w)
 ·obtain⟨g',w',es,e1,_,h5⟩:=h w (RW.refl w);rw[h2 w]at e1;cases e1;obtain⟨m2,hm2⟩:=qZ (RW.refl w) (hne w) (h3 w) h5;obtain⟨g4,e4⟩:=h4 w;rcases Goes.cases hm2 with h|⟨m3,rfl,h⟩
  ·obtain⟨_,_,g2,e2,_⟩:=h w (RW.refl w);rw[e4]at e2;cases e2
  ·obtain⟨g6,w6,es6,e6,hD,_⟩:=h w (RW.refl w);rw[e4]at e6;cases e6;exact absurd rfl ((hD.2 (mk .disable) (by simp)).2.1)
end Crew
end
