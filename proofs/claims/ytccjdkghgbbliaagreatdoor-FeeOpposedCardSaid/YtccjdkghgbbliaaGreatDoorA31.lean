/- held, from its entry to its return, beside leavers: printed by x22.py. -/
import Derived.Test.YtccjdkghgbbliaaGreatDoorA30
set_option linter.all false
namespace Go.Proofs.YtccjdkghgbbliaaGreatDoor
section
namespace Crew
set_option maxHeartbeats 1000000
set_option maxRecDepth 10000
open Go Go.Conc Go.ConcN Go.RowKit Go.Conc.Lib Go.ConcR.Gen Go.ConcN.Gen
open Go.ConcR (Payload DC0 WgAt KK wgBlock stA smA rd wr mk)
open Go.Proofs.YtccjdkghgbbliaaGreatDoor.Lift (blk Good Shn Poi)
section
variable {P:Program} {S:Nat→Prop} {Bd n:Nat} {Stop:Goroutine→World→Prop} {g g':Goroutine} {w:World}
def DA(S:Nat→Prop)(Bd:Nat)(_ _:World)(es:Array Event):Prop:=∀e∈es,EvL (Shn S) Bd e
abbrev GA(P:Program)(S:Nat→Prop)(Bd:Nat)(Stop:Goroutine→World→Prop):Nat→Goroutine→World→Prop:=Goes P true AtRel (DA S Bd) Stop
theorem dn(hs:g.status=.running)(h:∀w,stepG P true g w=.go g' w)(hg:∀d,GA P S Bd Stop n g' (w.at d)):GA P S Bd Stop (n+1) g w:=
 Goes.step hs λw₁ ⟨d,h₁⟩=>by subst h₁;rw[h];exact⟨λe he=>by simp at he,hg d⟩
theorem evA{b p:Nat}{wr:Bool}(hS:¬S b)(hb:b<Bd):EvL (Shn S) Bd ⟨.cell ⟨b,p,none⟩,wr,false⟩:=by
 refine⟨λx hx hs=>?_,by simp,by simp,?_⟩
 ·exfalso;have:x.loc=.cell ⟨b,p,none⟩:=by cases wr<;>simp[MemAct.ofEvent,MemAct.touch?]at hx<;>rw[← hx]
  rw[this]at hs;obtain⟨b',h1,h2⟩:=hs;simp only[blk,Option.some.injEq]at h1;exact hS (h1▸h2)
 ·cases wr<;>exact hb
variable {b:Frame} {a:Act} {k:List Item} {cs:List Frame} {ops:Array Oper} {i:Nat} {rest:List Nat} {o:Oper} {v:Value}
theorem uV{x:Next}{v:Value}{f:Nat→World}(ho:ops[i]?=some o)(hw:Region.wanted o (yielded ops a.tmps)=true)(hk:b.kind≠.early)(hx:x=.value v∨(x=.skip∧v=undef))
  (h:∀d,(execOp a.eval o).run P (w.at d)=.ok x (f d)∧∀e∈(execOp a.eval o).events P (w.at d) #[],EvL (Shn S) Bd e) (hn:∀d,GA P S Bd Stop n (G (b.at (a.put o.dst v) (.inRegion ops rest::k)) cs) (f d)) :
  GA P S Bd Stop (n+1) (G (b.at a (.inRegion ops (i::rest)::k)) cs) w:=by
 refine Goes.step rfl λw₁ ⟨d,h₁⟩=>?_;subst h₁;refine goes_oper ho hw hk ?_;obtain⟨h1,h2⟩:=h d;rw[h1];rcases hx with rfl|⟨rfl,rfl⟩
 ·exact⟨λe he=>h2 e (mem_listed he),hn d⟩
 ·exact⟨λe he=>h2 e (mem_listed he),hn d⟩
theorem iL(ho:ops[i]?=some o)(hw:Region.wanted o (yielded ops a.tmps)=true)(hk:b.kind≠.early)
  (h:∀d,(execOp a.eval o).run P (w.at d)=.ok (.value v) (w.at d)∧∀e∈(execOp a.eval o).events P (w.at d) #[],EvL (Shn S) Bd e) (hn:∀d,GA P S Bd Stop n (G (b.at (a.put o.dst v) (.inRegion ops rest::k)) cs) (w.at d)) :
  GA P S Bd Stop (n+1) (G (b.at a (.inRegion ops (i::rest)::k)) cs) w:=uV ho hw hk (.inl rfl) h hn
theorem rZ{cells:Array Value}{ty:TypeId}(ho:ops[i]?=some o)(hw:Region.wanted o (yielded ops a.tmps)=true)(hk:b.kind≠.early)
  (h:∀d,(execOp a.eval o).run P (w.at d)=.ok (.value (.pointer (some ⟨(w.at d).heap.size,0,none⟩))) ((w.at d).alloc (.cells cells ty))∧(execOp a.eval o).events P (w.at d) #[]=#[])
  (hn:∀d,GA P S Bd Stop n (G (b.at (a.put o.dst (.pointer (some ⟨w.heap.size,0,none⟩))) (.inRegion ops rest::k)) cs) ((w.at d).alloc (.cells cells ty))) :
  GA P S Bd Stop (n+1) (G (b.at a (.inRegion ops (i::rest)::k)) cs) w:=
 uV (x:=.value (.pointer (some ⟨w.heap.size,0,none⟩))) ho hw hk (.inl rfl) (λd=>⟨(h d).1,λe he=>by rw[(h d).2]at he;simp at he⟩) hn
end
structure Ox (Ok:Nat→Prop) (t:Til) (w:World):Prop where
 sT:Ok t.T
 book:w.rangeAt t.T 0 t.book
 zY:w.cell? ⟨t.T,4,none⟩=some (.slice t.qY t.n t.scap)
 st:∀c,c<t.n→∃b o,t.qY=some ⟨b,o,none⟩∧Ok b∧w.rangeAt b (o+c * 4) (t.row c)
 ks:∀c,c<t.n→t.tar c<t.nT∧∃b o,t.EC=some ⟨b,o,none⟩∧Ok b∧w.cell? ⟨b,o+c * 6+1,none⟩=some (.int .i64 (t.tar c))
 ts:∀j,j<t.nT→∃b o,t.E5=some ⟨b,o,none⟩∧Ok b∧w.cell? ⟨b,o+j * 5+1,none⟩=some (.int .i64 (t.bg j))
structure A4 (t:Til) (N₀:Nat) (w0:World) (k:Nat) (w:World):Prop where
 size:w.heap.size=N₀+k
 old:∀b,b<N₀→w.heap[b]?=w0.heap[b]?
 box:0<k→w.heap[N₀]?=some (.cells #[.pointer (some ⟨t.T,0,none⟩)] 134)
 res:1<k→w.heap[N₀+1]?=some (.cells #[.int .i64 0,.int .i64 0,.int .i64 0] 131)
 out:2<k→w.heap[N₀+2]?=some (.cells #[.int .i64 0,.int .i64 0,.int .i64 0] 131)
 grp:3<k→w.heap[N₀+3]?=some (.cells #[.int .u64 0,.int .u32 0] 268)
 good:Gd Tryz.prog w
 env:w.os=w0.os∧w.output=w0.output
section
variable {t:Til} {N₀ k:Nat} {w0 w:World}
theorem A4.at(h:A4 t N₀ w0 k w)(d:Nat):A4 t N₀ w0 k (w.at d):=⟨h.size,h.old,h.box,h.res,h.out,h.grp,h.good,h.env⟩
theorem A4.push(h:A4 t N₀ w0 k w)(c:Array Value)(ty:TypeId):(∀b,b<N₀+k→(w.alloc (.cells c ty)).heap[b]?=w.heap[b]?)∧(w.alloc (.cells c ty)).heap[N₀+k]?=some (.cells c ty)∧(w.alloc (.cells c ty)).heap.size=N₀+(k+1)∧Gd Tryz.prog (w.alloc (.cells c ty)):=by
 have hs:=h.size;have hold:∀b,b<N₀+k→(w.alloc (.cells c ty)).heap[b]?=w.heap[b]?:=λb hb=>by
  show(w.heap.push _)[b]?=_
  rw[Array.getElem?_push,if_neg (by omega)]
 have hnew:(w.alloc (.cells c ty)).heap[N₀+k]?=some (.cells c ty):=by
  rw[← hs];exact Array.getElem?_push_size
 have hsz:(w.alloc (.cells c ty)).heap.size=N₀+(k+1):=by show(w.heap.push _).size=_;simp;omega
 refine⟨hold,hnew,hsz,λb o hb=>?_⟩;have hlt:=(Array.getElem?_eq_some_iff.1 hb).1;by_cases e:b=N₀+k
 ·rw[e,hnew]at hb;cases hb;trivial
 ·rw[hold b (by omega)]at hb;exact h.good b o hb
theorem A4.new0(h:A4 t N₀ w0 0 w):A4 t N₀ w0 1 (w.alloc (.cells #[.pointer (some ⟨t.T,0,none⟩)] 134)):=by
 obtain⟨h1,h2,h3,h4⟩:=h.push #[.pointer (some ⟨t.T,0,none⟩)] 134;exact⟨h3,λb hb=>(h1 b (by omega)).trans (h.old b hb),λ_=>h2,λh=>by omega,λh=>by omega,λh=>by omega,h4,h.env⟩
theorem A4.new1(h:A4 t N₀ w0 1 w):A4 t N₀ w0 2 (w.alloc (.cells #[.int .i64 0,.int .i64 0,.int .i64 0] 131)):=by
 obtain⟨h1,h2,h3,h4⟩:=h.push #[.int .i64 0,.int .i64 0,.int .i64 0] 131;exact⟨h3,λb hb=>(h1 b (by omega)).trans (h.old b hb),λ_=>(h1 _ (by omega)).trans (h.box (by omega)),λ_=>h2,λh=>by omega,λh=>by omega,h4,h.env⟩
theorem A4.new2(h:A4 t N₀ w0 2 w):A4 t N₀ w0 3 (w.alloc (.cells #[.int .i64 0,.int .i64 0,.int .i64 0] 131)):=by
 obtain⟨h1,h2,h3,h4⟩:=h.push #[.int .i64 0,.int .i64 0,.int .i64 0] 131;exact⟨h3,λb hb=>(h1 b (by omega)).trans (h.old b hb),λ_=>(h1 _ (by omega)).trans (h.box (by omega)),λ_=>(h1 _ (by omega)).trans (h.res (by omega)),λ_=>h2,λh=>by omega,h4,h.env⟩
theorem A4.new3(h:A4 t N₀ w0 3 w):A4 t N₀ w0 4 (w.alloc (.cells #[.int .u64 0,.int .u32 0] 268)):=by
 obtain⟨h1,h2,h3,h4⟩:=h.push #[.int .u64 0,.int .u32 0] 268;exact⟨h3,λb hb=>(h1 b (by omega)).trans (h.old b hb),λ_=>(h1 _ (by omega)).trans (h.box (by omega)),λ_=>(h1 _ (by omega)).trans (h.res (by omega)),λ_=>(h1 _ (by omega)).trans (h.out (by omega)),λ_=>h2,h4,h.env⟩
end
set_option maxRecDepth 100000 in
theorem segA{S:Nat→Prop}(t:Til)(nw N₀:Nat)(cb:Option Addr)(KJ:Nat)(hvc:t.vc=.slice cb nw KJ)(cs:List Frame)(w:World)(hs:w.heap.size=N₀)(hS:∀b,S b→b<N₀)(hT:t.T<N₀)(hTS:¬S t.T)(hbook:w.rangeAt t.T 0 t.book)(hgd:Gd Tryz.prog w) :
  ∃n,GA Tryz.prog S (N₀+4) (λg' w'=>∃a,g'=Hd a cs∧ShJ { t with b1:=N₀ } (N₀+3) (N₀+2) (N₀+1) nw 0 a∧A4 t N₀ w 4 w') n (G (b60.at ⟨#[.pointer (some ⟨t.T,0,none⟩),undef,undef,undef,undef,undef,undef,undef,undef,undef,undef,undef,undef,undef,undef,undef,undef,undef,undef,undef,undef],[]⟩ [.code (Tryz.f80.body.getD .skip)]) cs) w:=by
 refine⟨40,?_⟩;have hA:A4 t N₀ w 0 w:=⟨hs,λ_ _=>rfl,λh=>by omega,λh=>by omega,λh=>by omega,λh=>by omega,hgd,⟨rfl,rfl⟩⟩
 have hvc1:w.cell? ⟨t.T,0,none⟩=some (.slice cb nw KJ):=by
  have:=hbook 0 _ rfl;simpa[hvc]using this
 obtain⟨w0,hw0⟩:∃w0,w0=w:=⟨_,rfl⟩
 have hcell:∀{k:Nat} {w':World},A4 t N₀ w0 k w'→w'.cell? ⟨t.T,0,none⟩=some (.slice cb nw KJ):=λh=>by
  simp only[World.cell?,h.old t.T hT];rw[← hw0]at hvc1;simpa[World.cell?]using hvc1
 rw[← hw0]at hA;have hA:A4 t N₀ w0 0 w:=hw0▸hA;clear hbook hgd hs hvc1
 suffices H:∀w,A4 t N₀ w0 0 w→GA Tryz.prog S (N₀+4) (λg' w'=>∃a,g'=Hd a cs∧ShJ { t with b1:=N₀ } (N₀+3) (N₀+2) (N₀+1) nw 0 a∧A4 t N₀ w0 4 w') 40 (G (b60.at ⟨#[.pointer (some ⟨t.T,0,none⟩),undef,undef,undef,undef,undef,undef,undef,undef,undef,undef,undef,undef,undef,undef,undef,undef,undef,undef,undef,undef],[]⟩ [.code (Tryz.f80.body.getD .skip)]) cs) w by
  rw[← hw0]at hA ⊢;exact H _ hA
 clear hA hw0;intro w hA;simp only[Tryz.f80,Option.getD_some];refine dn rfl (λw=>stepG_seq) (λd=>?_);replace hA:=hA.at d;generalize w.at d=w at hA ⊢;refine dn rfl (λw=>stepG_region) (λd=>?_);replace hA:=hA.at d;generalize w.at d=w at hA ⊢;simp only[aG,aC,aF,Nat.reduceAdd,Nat.zero_add,List.range,List.range.loop];refine rZ (cells:=#[.pointer (some ⟨t.T,0,none⟩)]) (ty:=134) rfl (by rfl) (by decide) (λd=>⟨by simp[execOp,Instr.box,Instr.alloc,newVar,newRow,go_sem,Act.eval],by simp[execOp,Instr.box,Instr.alloc,newVar,newRow,go_sem,Act.eval]⟩) (λd=>?_);rw[show w.heap.size=N₀+0 from hA.size];replace hA:=(hA.at d).new0
 try simp only[Nat.add_zero]
 generalize World.alloc (w.at d) _=w at hA ⊢
 try walk_nrm
 refine rZ (cells:=#[.int .i64 0,.int .i64 0,.int .i64 0]) (ty:=131) rfl (by rfl) (by decide) (λd=>⟨by simp[execOp,Instr.box,Instr.alloc,newVar,newRow,go_sem,Act.eval],by simp[execOp,Instr.box,Instr.alloc,newVar,newRow,go_sem,Act.eval]⟩) (λd=>?_);rw[show w.heap.size=N₀+1 from hA.size];replace hA:=(hA.at d).new1
 try simp only[Nat.add_zero]
 generalize World.alloc (w.at d) _=w at hA ⊢
 try walk_nrm
 refine dn rfl (λw=>stepG_region_end) (λd=>?_);replace hA:=hA.at d;generalize w.at d=w at hA ⊢;refine dn rfl (λw=>stepG_seq) (λd=>?_);replace hA:=hA.at d;generalize w.at d=w at hA ⊢;refine dn rfl (λw=>stepG_region) (λd=>?_);replace hA:=hA.at d;generalize w.at d=w at hA ⊢;simp only[aG,aC,aF,Nat.reduceAdd,Nat.zero_add,List.range,List.range.loop];refine rZ (cells:=#[.int .i64 0,.int .i64 0,.int .i64 0]) (ty:=131) rfl (by rfl) (by decide) (λd=>⟨by simp[execOp,Instr.box,Instr.alloc,newVar,newRow,go_sem,Act.eval],by simp[execOp,Instr.box,Instr.alloc,newVar,newRow,go_sem,Act.eval]⟩) (λd=>?_);rw[show w.heap.size=N₀+2 from hA.size];replace hA:=(hA.at d).new2
 try simp only[Nat.add_zero]
 generalize World.alloc (w.at d) _=w at hA ⊢
 try walk_nrm
 refine dn rfl (λw=>stepG_region_end) (λd=>?_);replace hA:=hA.at d;generalize w.at d=w at hA ⊢;refine dn rfl (λw=>stepG_seq) (λd=>?_);replace hA:=hA.at d;generalize w.at d=w at hA ⊢;refine dn rfl (λw=>stepG_region) (λd=>?_);replace hA:=hA.at d;generalize w.at d=w at hA ⊢;simp only[aG,aC,aF,Nat.reduceAdd,Nat.zero_add,List.range,List.range.loop];refine rZ (cells:=#[.int .u64 0,.int .u32 0]) (ty:=268) rfl (by rfl) (by decide) (λd=>⟨by simp[execOp,Instr.box,Instr.alloc,newVar,newRow,go_sem,Act.eval],by simp[execOp,Instr.box,Instr.alloc,newVar,newRow,go_sem,Act.eval]⟩) (λd=>?_);rw[show w.heap.size=N₀+3 from hA.size];replace hA:=(hA.at d).new3
 try simp only[Nat.add_zero]
 generalize World.alloc (w.at d) _=w at hA ⊢
 try walk_nrm
 refine dn rfl (λw=>stepG_region_end) (λd=>?_)
 iterate 2
  replace hA:=hA.at d;generalize w.at d=w at hA ⊢;refine dn rfl (λw=>stepG_seq) (λd=>?_)
 replace hA:=hA.at d;generalize w.at d=w at hA ⊢;refine dn rfl (λw=>stepG_region) (λd=>?_);replace hA:=hA.at d;generalize w.at d=w at hA ⊢;simp only[aG,aC,aF,Nat.reduceAdd,Nat.zero_add,List.range,List.range.loop];refine iL (v:=.pointer (some ⟨t.T,0,none⟩)) rfl (by rfl) (by decide) (λd=>?_) (λd=>?_)
 ·have hc:w.cell? ⟨N₀,0,none⟩=some (.pointer (some ⟨t.T,0,none⟩)):=by simp[World.cell?,hA.box (by omega)]
  exact⟨by simp[execOp,go_sem,Act.eval, *],λe he=>by
   simp[execOp,go_sem,Act.eval, *]at he;subst he;exact evA (λh=>by have:=hS _ h;omega) (by omega)⟩
 iterate 4
  replace hA:=hA.at d;generalize w.at d=w at hA ⊢
  try walk_nrm
  refine iL (v:=.pointer (some ⟨t.T,0,none⟩)) rfl (by rfl) (by decide) (λd=>?_) (λd=>?_)
  ·skip;exact⟨by simp[execOp,go_sem,Act.eval, *],λe he=>by
    simp[execOp,go_sem,Act.eval, *]at he;skip⟩
 replace hA:=hA.at d;generalize w.at d=w at hA ⊢
 try walk_nrm
 refine iL (v:=.slice cb nw KJ) rfl (by rfl) (by decide) (λd=>?_) (λd=>?_)
 ·have hc:=hcell hA;exact⟨by simp[execOp,go_sem,Act.eval, *],λe he=>by
   simp[execOp,go_sem,Act.eval, *]at he;subst he;exact evA hTS (by omega)⟩
 replace hA:=hA.at d;generalize w.at d=w at hA ⊢
 try walk_nrm
 refine iL (v:=.int .i64 nw) rfl (by rfl) (by decide) (λd=>?_) (λd=>?_)
 ·skip;exact⟨by simp[execOp,go_sem,Act.eval, *],λe he=>by
   simp[execOp,go_sem,Act.eval, *]at he;skip⟩
 replace hA:=hA.at d;generalize w.at d=w at hA ⊢
 try walk_nrm
 refine iL (v:=.int .i64 0) rfl (by rfl) (by decide) (λd=>?_) (λd=>?_)
 ·skip;exact⟨by simp[execOp,go_sem,Act.eval, *],λe he=>by
   simp[execOp,go_sem,Act.eval, *]at he;skip⟩
 replace hA:=hA.at d;generalize w.at d=w at hA ⊢
 try walk_nrm
 refine dn rfl (λw=>stepG_region_end) (λd=>?_);replace hA:=hA.at d;generalize w.at d=w at hA ⊢;refine dn rfl (λw=>stepG_block) (λd=>?_);replace hA:=hA.at d;generalize w.at d=w at hA ⊢;refine dn rfl (λw=>stepG_loop) (λd=>?_);replace hA:=hA.at d;generalize w.at d=w at hA ⊢;refine Goes.stop λw₁ ⟨d,h₁⟩=>?_;subst h₁;refine⟨_,rfl,⟨_,_,_,_,_,_,_,_,_,_,_,_,_,_,rfl⟩,hA.at d⟩
end Crew
end
section
namespace Crew
set_option maxHeartbeats 1000000
set_option maxRecDepth 10000
open Go Go.Conc Go.ConcN Go.RowKit Go.Conc.Lib Go.ConcR.Gen Go.ConcN.Gen
open Go.ConcR (Payload DC0 WgAt KK wgBlock stA smA rd wr mk)
open Go.Proofs.YtccjdkghgbbliaaGreatDoor.Lift (blk Good Shn Poi)
theorem Hq{P:Program}{main:Bool}{b:Frame}{a:Act}{cs:List Frame}{w:World}{fn:Func}{todo:List Item}{c:Frame}{v:Value}(hn:b.kind=.normal)(hd:a.defers=[])(hf:P.funcs[b.fn]?=some fn)
  (hr:(results fn a.tmps).run P w=.ok v w):stepG P main (G { b.at a todo with mode:=.returning } (c::cs)) w=.go (G (c.finish v) cs) w (seen P b.fn ((results fn a.tmps).events P w #[])):=by
 simp[G,stepG,unwind,doReturn,Frame.at,hn,hd,hf,hr,GStep.after]
structure AR (vs:Value) (S':Nat→Prop) (Bd R C:Nat) (w0:World) (v0 v1 v2:Value) (w:World):Prop where
 size:w.heap.size=Bd
 old:∀b,b≠R→w.heap[b]?=w0.heap[b]?
 out:w.heap[C]?=some (.cells #[v0,v1,v2] 131 (0,0))
 res:∃cs,w.heap[R]?=some (.cells cs 131 (0,0))∧cs.size=3
 good:Gd Tryz.prog w
 env:w.os=w0.os∧w.output=w0.output
theorem AR.at{vs:Value}{S':Nat→Prop}{Bd R C:Nat}{w0 w:World}{v0 v1 v2:Value}(h:AR vs S' Bd R C w0 v0 v1 v2 w)(d:Nat):AR vs S' Bd R C w0 v0 v1 v2 (w.at d):=⟨h.size,h.old,h.out,h.res,h.good,h.env⟩
theorem uY:(Tryz.prog.info? 131).map (·.size)=some 3:=by kernel_rfl
noncomputable abbrev Xd:Cf:=cf (λ_=>False) 0 1 2 (by decide) (by decide) (by decide)
theorem KW{b p:Nat}{ty:TypeId}{cs:List Value}{d:TypeDesc}{w:World}(hc:w.rangeAt b p cs)(hu:Tryz.prog.underlying ty=some d)(hd:d.isRow=true)(hi:(Tryz.prog.info? ty).map (·.size)=some cs.length) :
  ∀e∈(loadVar ty ⟨b,p,none⟩).events Tryz.prog w #[],∃j,e=⟨.cell ⟨b,p+j,none⟩,false,false⟩:=by
 intro e he;obtain⟨inf,hq,hs⟩:∃inf,Tryz.prog.info? ty=some inf∧inf.size=cs.length:=by
  cases hq:Tryz.prog.info? ty with
  |none=>simp[hq]at hi
  |some inf=>exact⟨inf,rfl,by simpa[hq]using hi⟩
 have hagg:=uy hu hd w;have hev:=nZ hu hd w;have add:∀j,(⟨b,p,none⟩:Addr).add j=⟨b,p+j,none⟩:=Addr.add_mid b p;have he2:e∈(loadCellsFrom ⟨b,p,none⟩ 0 cs.length #[]).events Tryz.prog w #[]:=by
  simpa[Sem.events_bind,Sem.run_bind,loadVar,hagg,hev,sizeOf,typeInfo,hq,hs,loadCells,go_sem]using he
 rcases o8 (X:=Xd) ⟨b,p,none⟩ cs.length 0 #[] w #[] (λj hj=>by
  rw[add,Nat.zero_add,hc j cs[j] (List.getElem?_eq_getElem hj)];rfl) e he2 with h|⟨j,h⟩
 ·simp at h
 ·exact⟨j,by rw[h,add]⟩
theorem load_A{S':Nat→Prop}{Bd:Nat}{a:Act}{o:Oper}{w:World}{b p:Nat}{ty:TypeId}{cs:List Value}{d:TypeDesc}{x:Operand}(hop:o.op=.load ty x)(hx:a.eval x=.pointer (some ⟨b,p,none⟩))(hc:w.rangeAt b p cs)(hu:Tryz.prog.underlying ty=some d)(hd:d.isRow=true)
  (hi:(Tryz.prog.info? ty).map (·.size)=some cs.length) (hS:¬S' b) (hb:b<Bd):(execOp a.eval o).run Tryz.prog w=.ok (.value (.agg cs.toArray)) w∧∀e∈(execOp a.eval o).events Tryz.prog w #[],EvL (Shn S') Bd e:=by
 obtain⟨h1,h2⟩:=Ji (X:=Xd) hop hx hc hu hd hi;refine⟨h1,λe he=>?_⟩;obtain⟨j,rfl⟩:=h2 e he;exact evA hS hb
theorem store_A{S':Nat→Prop}{Bd:Nat}{a:Act}{o:Oper}{w:World}{g:Nat}{ty t:TypeId}{x y:Operand}{old:Array Value}{cells:List Value}(hop:o.op=.store ty x y)(hx:a.eval x=.pointer (some ⟨g,0,none⟩))(hy:a.eval y=.agg cells.toArray)
  (hg:w.heap[g]?=some (.cells old t (0,0))) (ho:old.size=cells.length) (hi:(Tryz.prog.info? ty).map (·.size)=some cells.length) (h1:∀v∈cells,v.oneCell'=true) (hS:¬S' g) (hb:g<Bd) :
  (execOp a.eval o).run Tryz.prog w=.ok .skip (w.setRow g cells.toArray)∧∀e∈(execOp a.eval o).events Tryz.prog w #[],EvL (Shn S') Bd e:=by
 obtain⟨h1,h2⟩:=EZ (Y:=Xd) hop hx hy hg ho hi h1;refine⟨h1,λe he=>?_⟩;obtain⟨j,rfl⟩:=h2 e he;exact evA hS hb
set_option maxRecDepth 100000 in
theorem segB{S':Nat→Prop}{t:Til}{Wg C R Bd:Nat}{a:Act}(hsh:Sh t Wg C R a)(c:Frame)(cs:List Frame){w0:World}{v0 v1 v2:Value}(hSC:¬S' C)(hSR:¬S' R)(hC:C<Bd)(hR:R<Bd)(hCR:C≠R)(h1:∀v∈[v0,v1,v2],v.oneCell'=true):∀w,AR (.tuple #[]) S' Bd R C w0 v0 v1 v2 w→
  GA Tryz.prog S' Bd (λg' w'=>g'=G (c.finish (.agg #[v0,v1,v2])) cs∧AR (.tuple #[]) S' Bd R C w0 v0 v1 v2 w') 40 (G (b60.at a (.inRegion ops9 []::[.code r10])) (c::cs)) w:=by
 obtain⟨t5,t6,t7,t8,t9,t10,t11,t12,t13,t14,t15,t16,t17,t18,t19,t20,rfl⟩:=hsh;intro w hA;refine dn rfl (λw=>stepG_region_end) (λd=>?_);replace hA:=hA.at d;generalize w.at d=w at hA ⊢;simp only[r10,xP,Tryz.f80];refine dn rfl (λw=>stepG_seq) (λd=>?_);replace hA:=hA.at d;generalize w.at d=w at hA ⊢;refine dn rfl (λw=>stepG_region) (λd=>?_);replace hA:=hA.at d;generalize w.at d=w at hA ⊢;simp only[aG,aC,aF,Nat.reduceAdd,Nat.zero_add,List.range,List.range.loop];have hrow:∀{w:World},AR (.tuple #[]) S' Bd R C w0 v0 v1 v2 w→w.rangeAt C 0 [v0,v1,v2]:=λhA j v hv=>by
  rw[Nat.zero_add];simp only[World.cell?,hA.out];simpa using hv
 refine iL (v:=.agg [v0,v1,v2].toArray) rfl (by rfl) (by decide) (λd=>load_A (x:=.tmp 3) rfl rfl (hrow (hA.at d)) Tryz.underlying131 rfl uY hSC hC) (λd=>?_);replace hA:=hA.at d;generalize w.at d=w at hA ⊢
 try walk_nrm
 obtain⟨old,hold,hsz⟩:=hA.res;refine uV (x:=.skip) (v:=undef) (f:=λd=>(w.at d).setRow R [v0,v1,v2].toArray) rfl (by rfl) (by decide) (.inr ⟨rfl,rfl⟩) (λd=>store_A (x:=.tmp 2) (y:=.tmp 20) rfl rfl rfl (show(w.at d).heap[R]?=_ from hold) hsz uY h1 hSR hR) (λd=>?_);have hnew:=setRow_heap (w.at d) R old [v0,v1,v2].toArray 131 (0,0) hold;have hA':AR (.tuple #[]) S' Bd R C w0 v0 v1 v2 ((w.at d).setRow R [v0,v1,v2].toArray):=⟨by rw[setRow_size];exact hA.size,λb hb=>(setRow_other _ _ _ _ hb).trans (hA.old b hb),(setRow_other _ _ _ _ hCR).trans hA.out,⟨_,hnew,rfl⟩,λb o hb=>by
  by_cases e:b=R
  ·subst e;rw[hnew]at hb;cases hb;trivial
  ·rw[setRow_other _ _ _ _ e]at hb;exact hA.good b o hb,hA.env⟩
 clear hA hold;generalize (w.at d).setRow R [v0,v1,v2].toArray=w at hA' hnew ⊢
 try walk_nrm
 have hA:AR (.tuple #[]) S' Bd R C w0 v0 v1 v2 w∧w.heap[R]?=some (.cells #[v0,v1,v2] 131 (0,0)):=⟨hA',hnew⟩
 clear hA' hnew;refine dn rfl (λw=>stepG_region_end) (λd=>?_);replace hA:=(⟨hA.1.at d,hA.2⟩:AR (.tuple #[]) S' Bd R C w0 v0 v1 v2 (w.at d)∧(w.at d).heap[R]?=some (.cells #[v0,v1,v2] 131 (0,0)))
 generalize w.at d=w at hA ⊢;refine dn rfl (λw=>stepG_ret') (λd=>?_);replace hA:=(⟨hA.1.at d,hA.2⟩:AR (.tuple #[]) S' Bd R C w0 v0 v1 v2 (w.at d)∧(w.at d).heap[R]?=some (.cells #[v0,v1,v2] 131 (0,0)))
 generalize w.at d=w at hA ⊢;refine Goes.step rfl λw₁ ⟨d,h₁⟩=>?_;subst h₁;have hres:Tryz.f80.results=#[.cell 2 131]:=rfl;rw[Hq (v:=.agg #[v0,v1,v2]) (fn:=Tryz.f80) rfl rfl Tryz.func80 (results_cell_row hres _ _ R 131 #[v0,v1,v2] (0,0) _ (by rfl) (show(w.at d).heap[R]?=_ from hA.2) Tryz.underlying131 rfl uY)];refine⟨λe he=>?_,Goes.stop λw₂ ⟨d2,h₂⟩=>?_⟩
 ·have he:=mem_seen he;have hrng:(w.at d).rangeAt R 0 [v0,v1,v2]:=λj v hv=>by
   rw[Nat.zero_add];simp only[World.cell?,show(w.at d).heap[R]?=_ from hA.2];simpa using hv
  have he2:e∈(loadVar 131 ⟨R,0,none⟩).events Tryz.prog (w.at d) #[]:=by
   simpa[results,hres,asAddr,Sem.events_bind,Sem.run_bind,go_sem,run_loadVar_mid (P:=Tryz.prog) (w.at d) R 0 131 [v0,v1,v2] _ hrng Tryz.underlying131 rfl uY]using he
  obtain⟨j,rfl⟩:=KW hrng Tryz.underlying131 rfl uY e he2;exact evA hSR hR
 ·subst h₂;exact⟨rfl,(hA.1.at d).at d2⟩
end Crew
end
