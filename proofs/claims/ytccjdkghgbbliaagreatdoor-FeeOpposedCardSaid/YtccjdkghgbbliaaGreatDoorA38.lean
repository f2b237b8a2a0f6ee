/- Whether a book has a move; whether all cases that are kept in a book are kept in another one: inside the fence. -/
import Derived.Test.YtccjdkghgbbliaaGreatDoorA36
import Derived.Test.YtccjdkghgbbliaaGreatDoorA37
set_option linter.all false
namespace Go.Proofs.YtccjdkghgbbliaaGreatDoor
section
set_option maxHeartbeats 1000000
set_option maxRecDepth 10000
open Go Go.RowKit Lift
def Book.keeps(b:Book)(c:Nat):Bool:=((b.after 9999).cases c).state==1&&((b.after 9999).cases c).held==0
end
section
set_option maxHeartbeats 1000000
set_option maxRecDepth 10000
open Go Go.RowKit Lift
theorem Tryz.infoP:(Tryz.prog.info? 93).map (λi=>(i.zero,i.size,i.bytes))=some (some (.agg #[.int .i64 0,.int .i64 0,.int .i64 0,.int .i64 0,.int .i64 0]),5,40):=by kernel_rfl
theorem Blk.gr{w w':World}{B:Nat}{ty:TypeId}{cs:Array Value}(h:Blk w B ty cs)(hg:Grow w.heap.size w w'):Blk w' B ty cs:=h.grow hg h.lt
theorem eY.gr{w w':World}{v:Value}{xs:List Int}(h:eY w v xs)(hg:Grow w.heap.size w w'):eY w' v xs:=h.grow hg
theorem bQ.gr{N:Nat}{l:Lay}{b:aO}{w w':World}(h:bQ N l b w)(hg:Grow w.heap.size w w'):bQ N l b w':=h.grow hg
def bU(ps:List dI):List Value:=ps.flatMap dI.row
theorem jZ:∀ps:List dI,(bU ps).length=ps.length * 5
 | []=>rfl
 |p::ps=>by
  have:=jZ ps;unfold bU at this ⊢;rw[List.flatMap_cons,List.length_append,this];simp[dI.row];omega
theorem zk(xs ys:List dI):bU (xs++ys)=bU xs++bU ys:=by unfold bU;rw[List.flatMap_append]
theorem yP:∀(ps:List dI) (i:Nat) (p:dI) (j:Nat) (v:Value),ps[i]?=some p→p.row[j]?=some v→(bU ps)[i * 5+j]?=some v
 | [],i,p,j,v,h,_=>by simp at h
 |q::ps,i,p,j,v,h,hv=>by
  have hj:j<5:=by have:=(List.getElem?_eq_some_iff.1 hv).1;simpa[dI.row]using this
  unfold bU;rw[List.flatMap_cons];cases i with
  |zero=>
   obtain rfl:q=p:=by simpa using h
   rw[List.getElem?_append_left (by simp[dI.row];omega)];simpa using hv
  |succ i=>
   have h':ps[i]?=some p:=by simpa using h
   have hl:q.row.length=5:=by simp[dI.row]
   rw[List.getElem?_append_right (by rw[hl];omega),hl,show(i+1) * 5+j-5=i * 5+j by omega];exact yP ps i p j v h' hv
theorem GU{ps:List dI}{v:Value}(h:v∈bU ps):v.oneCell'=true:=by
 unfold bU at h;obtain⟨p,_,hv⟩:=List.mem_flatMap.1 h;simp only[dI.row,List.mem_cons,List.not_mem_nil,or_false]at hv;rcases hv with rfl|rfl|rfl|rfl|rfl<;>simp[Value.oneCell']
theorem qW:∀(ps:List dI) (k:Nat) (v:Value),(bU ps)[k]?=some v→∃i p j,ps[i]?=some p∧p.row[j]?=some v∧k=i * 5+j
 | [],k,v,h=>by simp[bU]at h
 |q::ps,k,v,h=>by
  have hl:q.row.length=5:=by simp[dI.row]
  unfold bU at h;rw[List.flatMap_cons]at h;by_cases hk:k<5
  ·rw[List.getElem?_append_left (by omega)]at h;exact⟨0,q,k,rfl,h,by omega⟩
  ·rw[List.getElem?_append_right (by omega),hl]at h;obtain⟨i,p,j,h1,h2,h3⟩:=qW ps (k - 5) v h;exact⟨i+1,p,j,by simpa using h1,h2,by omega⟩
theorem JH{w w':World}{N n size:Nat}{e:TypeId}{v:Value}{xs:List Value}(h:w.ownsRow N e size v n xs)(hg:w.grownBy w' v.ownBlock)(hN:N≤w.heap.size):Below N w w':=by
 refine(Below.refl N w).grown hg hN (λk e=>?_);rcases h.2 with⟨rfl,_⟩|⟨g,cap,cur,rfl,hb,_⟩
 ·cases e
 ·cases e;exact hb
def zQ(w:World)(v:Value)(ps:List dI):Prop:=∃base cap,v=.slice base ps.length cap∧bD w.heap.size base 5 (ps.map dI.row) w
theorem zQ.cells{w:World}{a:Addr}{ps:List dI}(h:bD w.heap.size (some a) 5 (ps.map dI.row) w)(_:ps≠[]):∀j u,(bU ps)[j]?=some u→w.cell? (a.add j)=some u:=λj u hu=>by
 obtain⟨i,p,k,h1,h2,rfl⟩:=qW ps j u hu;obtain⟨b,o,e1,e2,e3⟩:=h i p.row (by rw[List.getElem?_map,h1];rfl);cases e1;have:=e3 k u h2;rw[Addr.add_mid,← Nat.add_assoc];exact this
theorem ER{w:World}{N n:Nat}{v:Value}{ps:List dI}(h:w.ownsRow N 93 5 v n (bU ps)):n=ps.length∧zQ w v ps:=by
 have hn:n=ps.length:=by have:=h.1;rw[jZ]at this;omega
 subst hn;refine⟨rfl,?_⟩;rcases h.2 with⟨rfl,hn⟩|⟨g,cap,cur,rfl,h1,h2⟩
 ·obtain rfl:=List.eq_nil_of_length_eq_zero hn;exact⟨none,0,rfl,λi r hr=>by simp at hr⟩
 ·obtain⟨hg,_,_,_,ht⟩:=h2;refine⟨_,cap,rfl,λi r hr=>?_⟩;rw[List.getElem?_map]at hr;obtain⟨p,hp,rfl⟩:=Option.map_eq_some_iff.1 hr;refine⟨g,0,rfl,(Array.getElem?_eq_some_iff.1 hg).1,λj u hu=>?_⟩;have e:=yP ps i p j u hp hu;rw[← ht]at e;have hlt:i * 5+j<ps.length * 5:=by
   have h1:=(List.getElem?_eq_some_iff.1 hp).1;have h2:=(List.getElem?_eq_some_iff.1 hu).1;simp only[dI.row,aC,aF]at h2;omega
  rw[List.getElem?_take_of_lt hlt,Array.getElem?_toList]at e;simp[World.cell?,hg,e]
theorem bD.mono{N N':Nat}{base:Option Addr}{size:Nat}{rows:List (List Value)}{w:World}(h:bD N base size rows w)(hN:N≤N'):bD N' base size rows w:=λi r hr=>by
 obtain⟨b,o,h1,h2,h3⟩:=h i r hr;exact⟨b,o,h1,aB h2 hN,h3⟩
theorem bQ.paysAt{N:Nat}{l:Lay}{b:aO}{w:World}(h:bQ N l b w):zQ w (.slice l.pb b.ps.length l.pc) b.ps:=⟨_,_,rfl,h.ps.mono h.hN⟩
section
variable {F:Fence} {n:Nat}
theorem wQ{w:World}{t ty e:TypeId}{i:TypeInfo}(ht:Tryz.prog.underlying t=some (.slice e))(hi:Tryz.prog.info? e=some i){v:Value}{k size base c:Nat}{xs:List Value}(hown:w.ownsRow base e size v k xs) :
  (Builtin.append_ #[t,t] ty #[v,.slice none 0 c]).run Tryz.prog w=.ok v w:=by
 rcases hown.2 with⟨rfl,_⟩|⟨g,cap,cur,rfl,_,hg,hnc,_,_⟩
 ·simp[Builtin.append_,run_underlying ht,sizeOf,typeInfo,hi,Builtin.lenOf,Builtin.firstCells,loadCells,loadCellsFrom]
 ·simp[Builtin.append_,run_underlying ht,sizeOf,typeInfo,hi,Builtin.lenOf,Builtin.firstCells,loadCells,loadCellsFrom,hnc,storeCells]
theorem yh{w:World}{o:Oper}{a:Act}{K:Act→World→Prop}{Q:Exit→Act→World→Prop}(s x:Operand)(hop:o.op=.call { callee:=.builtin .append,args:=#[s,x],argTypes:=#[25,25] })
  {base k:Nat} {v u:Value} {xs ys:List dI} (hs:a.eval s=v) (hown:w.ownsRow base 93 5 v k (bU xs)) (hx:a.eval x=u) (hy:zQ w u ys) (hk:k+ys.length≤1000000) (hb:base≤w.heap.size)
  (hK:∀v' w',w'.ownsRow base 93 5 v' (k+ys.length) (bU (xs++ys))→w.grownBy w' v.ownBlock→K (a.put o.dst v') w'):o.wpIn F n Tryz.prog a w K Q:=by
 obtain⟨i0,hi0,hz0,hz1,hz2⟩:=info_parts Tryz.infoP;obtain⟨b0,cap,rfl,hr⟩:=hy;have fin:∀v' w',(Builtin.append_ #[25,25] o.type #[v,.slice b0 ys.length cap]).run Tryz.prog w=.ok v' w'→K (a.put o.dst v') w'→o.wpIn F n Tryz.prog a w K Q:=λv' w' hrun h=>by
  unfold Oper.wpIn;refine⟨?_,?_⟩
  ·simp[Oper.about,hop,resolve,Target.leads,Sem.run_pure]
  ·rw[Oper.semAt_plain F _ _ (by rw[hop];intro c hc';cases hc')];simp[execOp,hop,resolve,invoke,builtin,hs,hx,hrun,Result.andThen];exact h
 rw[zk]at hK;cases b0 with
 |none=>
  have hnil:ys=[]:=by
   cases ys with
   |nil=>rfl
   |cons y ys=>obtain⟨_,_,e,_⟩:=hr 0 y.row rfl;cases e
  subst hnil;refine fin _ _ (wQ Tryz.underlying25 hi0 hown) (hK v w ?_ ⟨rfl,rfl,rfl,ak _,λ_ _ _=>rfl⟩);simpa[bU]using hown
 |some ad=>
  by_cases hne:ys=[]
  ·subst hne;obtain⟨v',w',hrun,r1,r2,r3⟩:=run_append_own (P:=Tryz.prog) w base 25 o.type 93 i0 _ 5 40 Tryz.underlying25 hi0 hz0 hz1 hz2 rfl (by decide) v k _ hown ad 0 cap [] rfl (λj u h=>by simp at h) (λu h=>by simp at h) (by unfold maxLen;simp at hk;omega) (by simp at hk;omega) hb;refine fin v' w' hrun (hK v' w' ?_ r2);simpa[bU]using r1
  ·obtain⟨v',w',hrun,r1,r2,r3⟩:=run_append_own (P:=Tryz.prog) w base 25 o.type 93 i0 _ 5 40 Tryz.underlying25 hi0 hz0 hz1 hz2 rfl (by decide) v k _ hown ad ys.length cap (bU ys) (jZ ys) (zQ.cells hr hne) (λu h=>GU h) (by unfold maxLen;omega) (by omega) hb;exact fin v' w' hrun (hK v' w' r1 r2)
end
end
section
set_option maxHeartbeats 1000000
set_option maxRecDepth 10000
open Go Go.RowKit Lift
theorem Qe{w:World}{N n size BO j:Nat}{e:TypeId}{v u:Value}{xs:List Value}(h:w.ownsRow N e size v n xs)(hB:BO<N):(w.setCell ⟨BO,j,none⟩ u).ownsRow N e size v n xs:=by
 refine⟨h.1,?_⟩;rcases h.2 with hn|⟨g,cap,cur,rfl,hb,hg,rest⟩
 ·exact .inl hn
 ·exact .inr ⟨g,cap,cur,rfl,hb,(Below.heap_setCell w ⟨BO,j,none⟩ u g (λe=>by simp at e;omega)).trans hg,rest⟩
section
variable {w0 w w1:World} {S0 S:Blks} {B BO j:Nat} {l:Lay} {b:aO} {v:Value}
theorem jO.poke(E:jO w0 S0 w0.heap.size l b B w S)(h0:0<w0.heap.size)(hb:Below w.heap.size w w1)(hlo:w0.heap.size≤BO)(hne:BO≠B):jO w0 S0 w0.heap.size l b B (w1.setCell ⟨BO,j,none⟩ v) S:=by
 have hbM:Below w0.heap.size w (w1.setCell ⟨BO,j,none⟩ v):=(hb.mono E.g.size).setCell (p:=⟨BO,j,none⟩) hlo v;exact⟨E.g.trans (Grow.of hbM).s,E.bk.below hbM,(E.bx.below hb).set hne v,E.lo,E.kd.below hbM h0⟩
theorem bQ.with_{N N':Nat}{base:Option Addr}{cap:Nat}{ps':List dI}(h:bQ N l b w)(hN:N≤N')(hN':N'≤w.heap.size)(hv:bD N' base 5 (ps'.map dI.row) w) :
  bQ N' { l with pb:=base,pc:=cap } { b with ps:=ps' } w:=⟨hN',h.cs.mono hN,h.ts.mono hN,h.ks.mono hN,hv⟩
end
end
section
set_option maxHeartbeats 1000000
set_option maxRecDepth 10000
open Go Go.RowKit Lift
structure Ix where
 i1:Nat
 i2:Nat
 i3:Nat
 i4:Nat
 i5:Nat
 s1:Tmp
 s2:Tmp
 s3:Tmp
 s4:Tmp
def Ix.ok(ix:Ix):Bool:=decide [ix.i1,ix.i2,ix.i3,ix.i4,ix.i5].Nodup&&decide [ix.s1,ix.s2,ix.s3,ix.s4].Nodup
theorem vI{w w':World}{N n size:Nat}{e:TypeId}{v:Value}{xs:List Value}{row:Option Nat}(h:w.ownsRow N e size v n xs)(hg:w.grownBy w' row)(hne:v.ownBlock≠row∨v.ownBlock=none):w'.ownsRow N e size v n xs:=by
 refine⟨h.1,?_⟩;rcases h.2 with hn|⟨g,cap,cur,rfl,hb,hg0,rest⟩
 ·exact .inl hn
 ·refine .inr ⟨g,cap,cur,rfl,hb,?_,rest⟩;have hlt:=(Array.getElem?_eq_some_iff.1 hg0).1;have hne':some g≠row:=by
   rcases hne with h|h
   ·exact h
   ·cases h
  rw[hg.block g hlt hne'];exact hg0
theorem Og{w:World}{N n size:Nat}{e:TypeId}{v:Value}{xs:List Value}(h:w.ownsRow N e size v n xs){k:Nat}(hk:v.ownBlock=some k):k<w.heap.size:=by
 rcases h.2 with⟨rfl,_⟩|⟨g,cap,cur,rfl,hb,hg,_⟩
 ·cases hk
 ·cases hk;exact(Array.getElem?_eq_some_iff.1 hg).1
theorem ES{w:World}{N n size:Nat}{e:TypeId}{v:Value}{xs:List Value}(h:w.ownsRow N e size v (n+1) xs):∃g cap,v=.slice (some ⟨g,0,none⟩) (n+1) cap:=by
 rcases h.2 with⟨_,h⟩|⟨g,cap,cur,rfl,_⟩
 ·cases h
 ·exact⟨g,cap,rfl⟩
structure WAA (ix:Ix) (w0:World) (BO:Nat) (xs:List dI) (m:dI) (D:Nat→Bool) (x:Tmp→Value) (w:World):Prop where
 fin:D ix.i5=true→∃w1,Below w0.heap.size w0 w1∧w1.ownsRow w0.heap.size 93 5 (x ix.s4) (xs.length+1) (bU (xs++[m]))∧w=w1.setCell ⟨BO,3,none⟩ (x ix.s4)
 bel:D ix.i5=false→Below w0.heap.size w0 w
 o1:D ix.i5=false→D ix.i1=true→D ix.i2=false→w.ownsRow w0.heap.size 93 5 (x ix.s1) 0 (bU [])
 o2:D ix.i5=false→D ix.i2=true→D ix.i4=false→w.ownsRow w0.heap.size 93 5 (x ix.s2) xs.length (bU xs)
 o3:D ix.i5=false→D ix.i3=true→D ix.i4=false→w.ownsRow w0.heap.size 93 5 (x ix.s3) 1 (bU [m])
 o4:D ix.i5=false→D ix.i4=true→w.ownsRow w0.heap.size 93 5 (x ix.s4) (xs.length+1) (bU (xs++[m]))
 ne:D ix.i5=false→D ix.i1=true→D ix.i2=false→D ix.i3=true→D ix.i4=false→(x ix.s1).ownBlock≠(x ix.s3).ownBlock∨(x ix.s3).ownBlock=none
 cl2:D ix.i2=true→D ix.i1=true
 cl4:D ix.i4=true→D ix.i2=true∧D ix.i3=true
theorem Gs{p q:Bool}(h:p=true→q=true)(hq:q=false):p=false:=by cases p with|false=>rfl|true=>rw[h rfl]at hq;cases hq
theorem nof{p:Bool}{α:Prop}(h:p=false)(q:p=true):α:=by rw[h]at q;cases q
section
variable {ix:Ix} {w0 w w':World} {BO:Nat} {xs:List dI} {m:dI} {D:Nat→Bool} {x:Tmp→Value}
theorem WAA.start:WAA ix w0 BO xs m (λ_=>false) (λ_=>undef) { w0 with drawn:=w0.drawn+1 }:=
 ⟨λh=>by(cases h),λ_=>⟨rfl,rfl,rfl,ak _,λ_ _=>rfl⟩,λ_ h=>by(cases h),λ_ h=>by(cases h),λ_ h=>by(cases h),λ_ h=>by(cases h),λ_ h=>by(cases h),λh=>by(cases h),λh=>by(cases h)⟩
theorem cO{D:Nat→Bool}{i k:Nat}(h:k≠i):aX D i k=D k:=by simp[aX,h]
theorem gY{D:Nat→Bool}{i:Nat}:aX D i i=true:=by simp[aX]
theorem sO{x:Tmp→Value}{g k:Tmp}{u:Value}(h:k≠g):iq x g u k=x k:=by simp[iq,h]
theorem sN{x:Tmp→Value}{g:Tmp}{u:Value}:iq x g u g=u:=by simp[iq]
theorem WAA.pure(h:WAA ix w0 BO xs m D x w){i:Nat}(hi:i∉[ix.i1,ix.i2,ix.i3,ix.i4,ix.i5]):WAA ix w0 BO xs m (aX D i) x w:=by
 simp only[List.mem_cons,List.not_mem_nil,or_false,not_or]at hi;obtain⟨h1,h2,h3,h4,h5⟩:=hi;have e1:=cO (D:=D) (Ne.symm h1);have e2:=cO (D:=D) (Ne.symm h2);have e3:=cO (D:=D) (Ne.symm h3);have e4:=cO (D:=D) (Ne.symm h4);have e5:=cO (D:=D) (Ne.symm h5);exact⟨by rw[e5];exact h.fin,by rw[e5];exact h.bel,by rw[e5,e1,e2];exact h.o1,by rw[e5,e2,e4];exact h.o2,by rw[e5,e3,e4];exact h.o3,by rw[e5,e4];exact h.o4,by rw[e5,e1,e2,e3,e4];exact h.ne,by rw[e2,e1];exact h.cl2,by rw[e4,e2,e3];exact h.cl4⟩
section
variable (hok:ix.ok=true)
include hok
theorem Ix.ok.to:(ix.i1≠ix.i2∧ix.i1≠ix.i3∧ix.i1≠ix.i4∧ix.i1≠ix.i5)∧(ix.i2≠ix.i3∧ix.i2≠ix.i4∧ix.i2≠ix.i5)∧(ix.i3≠ix.i4∧ix.i3≠ix.i5)∧ix.i4≠ix.i5∧(ix.s1≠ix.s2∧ix.s1≠ix.s3∧ix.s1≠ix.s4)∧(ix.s2≠ix.s3∧ix.s2≠ix.s4)∧ix.s3≠ix.s4:=by
 unfold Ix.ok at hok;simp only[Bool.and_eq_true,decide_eq_true_eq,List.nodup_cons,List.mem_cons,List.not_mem_nil,or_false,not_or,not_false_eq_true,List.nodup_nil,and_true]at hok;obtain⟨⟨⟨a1,a2,a3,a4⟩,⟨b1,b2,b3⟩,⟨c1,c2⟩,d1⟩,⟨s1,s2,s3⟩,⟨t1,t2⟩,u1⟩:=hok;exact⟨⟨a1,a2,a3,a4⟩,⟨b1,b2,b3⟩,⟨c1,c2⟩,d1,⟨s1,s2,s3⟩,⟨t1,t2⟩,u1⟩
theorem WAA.build0(h:WAA ix w0 BO xs m D x w)(d1':D ix.i1=false)(d5:D ix.i5=false):WAA ix w0 BO xs m (aX D ix.i1) (iq x ix.s1 (.slice (some ⟨w.heap.size,0,none⟩) 0 0)) (w.alloc (.cells #[] 93)):=by
 obtain⟨⟨a1,a2,a3,a4⟩,⟨b1,b2,b3⟩,⟨c1,c2⟩,d1,⟨s1,s2,s3⟩,⟨t1,t2⟩,u1⟩:=Ix.ok.to hok;have hb:=h.bel d5;have d2:=Gs h.cl2 d1';have d4:=Gs (λq=>(h.cl4 q).1) d2;have e2:aX D ix.i1 ix.i2=D ix.i2:=cO (Ne.symm a1);have e3:aX D ix.i1 ix.i3=D ix.i3:=cO (Ne.symm a2);have e4:aX D ix.i1 ix.i4=D ix.i4:=cO (Ne.symm a3);have e5:aX D ix.i1 ix.i5=D ix.i5:=cO (Ne.symm a4);refine⟨λq=>nof (e5.trans d5) q,λ_=>hb.alloc hb.size _,λ_ _ _=>?_,λ_ q=>nof (e2.trans d2) q,λ_ q q'=>?_,λ_ q=>nof (e4.trans d4) q,λ_ _ _ q q'=>?_,λ_=>gY,λq=>nof (e4.trans d4) q⟩
 ·rw[sN];exact World.ownsRow_lit w #[] 0 hb.size (by decide) rfl
 ·rw[e3]at q;rw[e4]at q';rw[sO (Ne.symm s2)];exact(h.o3 d5 q q').alloc _
 ·rw[e3]at q;rw[e4]at q';rw[sN,sO (Ne.symm s2)];cases hv:(x ix.s3).ownBlock with
  |none=>exact .inr rfl
  |some k=>
   have:=Og (h.o3 d5 q q') hv;exact .inl λe=>by simp[Value.ownBlock]at e;omega
theorem WAA.build1(h:WAA ix w0 BO xs m D x w)(d3':D ix.i3=false)(d5:D ix.i5=false):WAA ix w0 BO xs m (aX D ix.i3) (iq x ix.s3 (.slice (some ⟨w.heap.size,0,none⟩) 1 1)) (w.alloc (.cells m.row.toArray 93)):=by
 obtain⟨⟨a1,a2,a3,a4⟩,⟨b1,b2,b3⟩,⟨c1,c2⟩,d1,⟨s1,s2,s3⟩,⟨t1,t2⟩,u1⟩:=Ix.ok.to hok;have hb:=h.bel d5;have d4:=Gs (λq=>(h.cl4 q).2) d3';have e1:aX D ix.i3 ix.i1=D ix.i1:=cO a2;have e2:aX D ix.i3 ix.i2=D ix.i2:=cO b1;have e4:aX D ix.i3 ix.i4=D ix.i4:=cO (Ne.symm c1);have e5:aX D ix.i3 ix.i5=D ix.i5:=cO (Ne.symm c2);refine⟨λq=>nof (e5.trans d5) q,λ_=>hb.alloc hb.size _,λ_ q q'=>?_,λ_ q q'=>?_,λ_ _ _=>?_,λ_ q=>nof (e4.trans d4) q,λ_ q q' _ _=>?_,λq=>by rw[e2]at q;rw[e1];exact h.cl2 q,λq=>nof (e4.trans d4) q⟩
 ·rw[e1]at q;rw[e2]at q';rw[sO s2];exact(h.o1 d5 q q').alloc _
 ·rw[e2]at q;rw[sO t1];exact(h.o2 d5 q d4).alloc _
 ·rw[sN];have:=World.ownsRow_lit (e:=93) (base:=w0.heap.size) (size:=5) w m.row.toArray 1 hb.size (by decide) rfl;simpa[bU]using this
 ·rw[e1]at q;rw[e2]at q';rw[sN,sO s2];refine .inl λe=>?_;have:=Og (h.o1 d5 q q') (k:=w.heap.size) (by rw[e];rfl);omega
theorem WAA.app1(h:WAA ix w0 BO xs m D x w)(q1:D ix.i1=true)(d2:D ix.i2=false)(d5:D ix.i5=false){v:Value}(hown:w'.ownsRow w0.heap.size 93 5 v (0+xs.length) (bU ([]++xs)))(hg:w.grownBy w' (x ix.s1).ownBlock) :
  WAA ix w0 BO xs m (aX D ix.i2) (iq x ix.s2 v) w':=by
 obtain⟨⟨a1,a2,a3,a4⟩,⟨b1,b2,b3⟩,⟨c1,c2⟩,d1,⟨s1,s2,s3⟩,⟨t1,t2⟩,u1⟩:=Ix.ok.to hok;have hb:=h.bel d5;have d4:=Gs (λq=>(h.cl4 q).1) d2;have e1:aX D ix.i2 ix.i1=D ix.i1:=cO a1;have e3:aX D ix.i2 ix.i3=D ix.i3:=cO (Ne.symm b1);have e4:aX D ix.i2 ix.i4=D ix.i4:=cO (Ne.symm b2);have e5:aX D ix.i2 ix.i5=D ix.i5:=cO (Ne.symm b3);rw[Nat.zero_add,List.nil_append]at hown;refine⟨λq=>nof (e5.trans d5) q,λ_=>hb.trans (JH (h.o1 d5 q1 d2) hg hb.size),λ_ _ q=>nof q gY,λ_ _ _=>by rw[sN];exact hown,λ_ q _=>?_,λ_ q=>nof (e4.trans d4) q,λ_ _ q=>nof q gY,λ_=>e1.trans q1,λq=>nof (e4.trans d4) q⟩;rw[e3]at q;rw[sO (Ne.symm t1)];refine vI (h.o3 d5 q d4) hg ?_;rcases h.ne d5 q1 d2 q d4 with e|e
 ·exact .inl (Ne.symm e)
 ·exact .inr e
theorem WAA.app2(h:WAA ix w0 BO xs m D x w)(q2:D ix.i2=true)(q3:D ix.i3=true)(d4:D ix.i4=false)(d5:D ix.i5=false){v:Value}(hown:w'.ownsRow w0.heap.size 93 5 v (xs.length+1) (bU (xs++[m])))(hg:w.grownBy w' (x ix.s2).ownBlock) :
  WAA ix w0 BO xs m (aX D ix.i4) (iq x ix.s4 v) w':=by
 obtain⟨⟨a1,a2,a3,a4⟩,⟨b1,b2,b3⟩,⟨c1,c2⟩,d1,⟨s1,s2,s3⟩,⟨t1,t2⟩,u1⟩:=Ix.ok.to hok;have hb:=h.bel d5;have e1:aX D ix.i4 ix.i1=D ix.i1:=cO a3;have e3:aX D ix.i4 ix.i3=D ix.i3:=cO c1;have e2:aX D ix.i4 ix.i2=D ix.i2:=cO b2;have e5:aX D ix.i4 ix.i5=D ix.i5:=cO (Ne.symm d1);exact⟨λq=>nof (e5.trans d5) q,λ_=>hb.trans (JH (h.o2 d5 q2 d4) hg hb.size),λ_ _ q=>nof q (e2.trans q2),λ_ _ q=>nof q gY,λ_ _ q=>nof q gY,λ_ _=>by rw[sN];exact hown,λ_ _ _ _ q=>nof q gY,λq=>by rw[e2]at q;rw[e1];exact h.cl2 q,λ_=>⟨e2.trans q2,e3.trans q3⟩⟩
theorem WAA.store(h:WAA ix w0 BO xs m D x w)(q4:D ix.i4=true)(d5:D ix.i5=false):WAA ix w0 BO xs m (aX D ix.i5) x (w.setCell ⟨BO,3,none⟩ (x ix.s4)):=by
 obtain⟨⟨a1,a2,a3,a4⟩,⟨b1,b2,b3⟩,⟨c1,c2⟩,d1,-⟩:=Ix.ok.to hok;have e1:aX D ix.i5 ix.i1=D ix.i1:=cO a4;have e2:aX D ix.i5 ix.i2=D ix.i2:=cO b3;have e3:aX D ix.i5 ix.i3=D ix.i3:=cO c2;have e4:aX D ix.i5 ix.i4=D ix.i4:=cO d1;exact⟨λ_=>⟨w,h.bel d5,h.o4 d5 q4,rfl⟩,λq=>nof q gY,λq=>nof q gY,λq=>nof q gY,λq=>nof q gY,λq=>nof q gY,λq=>nof q gY,by rw[e2,e1];exact h.cl2,by rw[e4,e2,e3];exact h.cl4⟩
end
end
end
section
set_option maxHeartbeats 1000000
set_option maxRecDepth 10000
open Go Go.RowKit Lift
theorem OC{o:Oper}{a:Act}{w:World}{K:Act→World→Prop}{Q:Exit→Act→World→Prop}(hop:o.op=.buildSlice 25 0 #[])(h:K (a.put o.dst (.slice (some ⟨w.heap.size,0,none⟩) 0 0)) (w.alloc (.cells #[] 93))):o.wpIn Fz 0 Tryz.prog a w K Q:=by
 obtain⟨d,op,ty,ps,af,gd⟩:=o;simp only at hop h;subst hop;gi_wp2
 all_goals exact h
theorem OD{o:Oper}{a:Act}{w:World}{K:Act→World→Prop}{Q:Exit→Act→World→Prop}{t:Tmp}{m:dI}(hop:o.op=.buildSlice 25 1 #[(0,.tmp t)])(hs:a.eval (.tmp t)=.agg m.row.toArray)(h:K (a.put o.dst (.slice (some ⟨w.heap.size,0,none⟩) 1 1)) (w.alloc (.cells m.row.toArray 93))):o.wpIn Fz 0 Tryz.prog a w K Q:=by
 obtain⟨d,op,ty,ps,af,gd⟩:=o;simp only at hop h;subst hop;obtain⟨k,dy,co,am,ca⟩:=m;have hs':a.tmps[t]?.getD undef=.agg #[.int .i64 k,.int .i64 dy,.int .i64 co,.int .i64 am,.int .i64 ca]:=by
  rw[← aH];exact hs
 clear hs;simp only[dI.row]at h;gi_wp2
 all_goals exact h
end
section
set_option maxHeartbeats 1000000
set_option maxRecDepth 10000
open Go Go.RowKit Lift
section
variable {size:Nat}
theorem wP:∀{rows:List (List Value)},(∀r∈rows,r.length=size)→rows.flatten.length=rows.length * size
 | [],_=>by simp
 |r::rows,h=>by
  rw[List.flatten_cons,List.length_append,h r (by simp),wP λq hq=>h q (by simp[hq]),aC,Nat.add_mul];omega
theorem JR:∀{rows:List (List Value)} (_:∀r∈rows,r.length=size) (i:Nat) (r:List Value) (j:Nat) (v:Value),rows[i]?=some r→r[j]?=some v→rows.flatten[i * size+j]?=some v
 | [],_,i,r,j,v,h,_=>by simp at h
 |q::rows,hs,i,r,j,v,h,hv=>by
  have hq:=hs q (by simp);rw[List.flatten_cons];cases i with
  |zero=>
   obtain rfl:q=r:=by simpa using h
   have hj:=(List.getElem?_eq_some_iff.1 hv).1;rw[List.getElem?_append_left (by omega)];simpa using hv
  |succ i=>
   have h':rows[i]?=some r:=by simpa using h
   rw[List.getElem?_append_right (by rw[hq,Nat.add_mul];omega),hq,show(i+1) * size+j-size=i * size+j by rw[Nat.add_mul];omega];exact JR (λx hx=>hs x (by simp[hx])) i r j v h' hv
theorem Qg{w:World}{N n:Nat}{e:TypeId}{v:Value}{rows:List (List Value)}(hs:∀r∈rows,r.length=size)(h:w.ownsRow N e size v n rows.flatten)(hn:n=rows.length):∃base cap,v=.slice base rows.length cap∧bD w.heap.size base size rows w:=by
 subst hn;rcases h.2 with⟨rfl,hn⟩|⟨g,cap,cur,rfl,h1,h2⟩
 ·obtain rfl:=List.eq_nil_of_length_eq_zero hn;exact⟨none,0,rfl,λi r hr=>by simp at hr⟩
 ·obtain⟨hg,_,_,_,ht⟩:=h2;refine⟨_,cap,rfl,λi r hr=>⟨g,0,rfl,(Array.getElem?_eq_some_iff.1 hg).1,λj u hu=>?_⟩⟩;have e1:=JR hs i r j u hr hu;have hlt:=(List.getElem?_eq_some_iff.1 e1).1;rw[wP hs]at hlt;rw[← ht,List.getElem?_take_of_lt hlt,Array.getElem?_toList]at e1;simp[World.cell?,hg,e1]
theorem bD.poke{N g BO j:Nat}{rows:List (List Value)}{w:World}{v:Value}(h:bD N (some ⟨g,0,none⟩) size rows w)(hne:BO≠g):bD N (some ⟨g,0,none⟩) size rows (w.setCell ⟨BO,j,none⟩ v):=λi r hr=>by
 obtain⟨b,o,h1,h2,h3⟩:=h i r hr;cases h1;have hh:=Below.heap_setCell w ⟨BO,j,none⟩ v g (λe=>by simp at e;omega);refine⟨g,0,rfl,h2,λk u hu=>?_⟩;have:=h3 k u hu;unfold World.cell? at this ⊢;rw[hh];exact this
end
end
section
set_option maxHeartbeats 1000000
set_option maxRecDepth 10000
open Go Go.RowKit Lift
theorem Uw{b:aO}(hR:b.Right)(h:∀p∈b.ps,p.kind≠2):b.to.still:=λp hp=>by
 obtain⟨r,hr,rfl⟩:=List.mem_map.1 hp;have:=h r hr;have:=(hR.p r hr).1;simp only[dI.to];omega
def aO.early(b:aO)(k:Nat)(n:Int):aO:={ b with ps:=b.ps.set k { b.aV k with day:=max 0 ((b.aV k).day-n) } }
end
