/- A region 'x.f = append(append([]P{}, xs...), m)', whatever order it draws: what stands on the way. -/
import Derived.Test.YtnkejaohnhpbpaaGreatDoorA47
set_option linter.all false
namespace Go.Proofs.YtnkejaohnhpbpaaGreatDoor
section
open Go Go.RowKit Lift
structure Ix where
 i1:Nat
 i2:Nat
 i3:Nat
 i4:Nat
 i5:Nat
 s1:Tmp
 s2:Tmp
 s3:Tmp
 s4:Tmp
def Ix.ok(ix:Ix):Bool:=decide [ix.i1,ix.i2,ix.i3,ix.i4,ix.i5].Nodup&&decide [ix.s1,ix.s2,ix.s3,ix.s4].Nodup
theorem Dv{w w':World}{N n size:Nat}{e:TypeId}{v:Value}{xs:List Value}{row:Option Nat}(h:w.ownsRow N e size v n xs)(hg:w.grownBy w' row)(hne:v.ownBlock≠row∨v.ownBlock=none):w'.ownsRow N e size v n xs:=by
 refine⟨h.1,?_⟩;rcases h.2 with hn|⟨g,cap,cur,rfl,hb,hg0,rest⟩
 ·exact .inl hn
 ·refine .inr ⟨g,cap,cur,rfl,hb,?_,rest⟩;have hlt:=(Array.getElem?_eq_some_iff.1 hg0).1;have hne':some g≠row:=by
   rcases hne with h|h
   ·exact h
   ·cases h
  rw[hg.block g hlt hne'];exact hg0
theorem AY{w:World}{N n size:Nat}{e:TypeId}{v:Value}{xs:List Value}(h:w.ownsRow N e size v n xs){k:Nat}(hk:v.ownBlock=some k):k<w.heap.size:=by
 rcases h.2 with⟨rfl,_⟩|⟨g,cap,cur,rfl,hb,hg,_⟩
 ·cases hk
 ·cases hk;exact(Array.getElem?_eq_some_iff.1 hg).1
theorem QG{w:World}{N n size:Nat}{e:TypeId}{v:Value}{xs:List Value}(h:w.ownsRow N e size v (n+1) xs):∃g cap,v=.slice (some ⟨g,0,none⟩) (n+1) cap:=by
 rcases h.2 with⟨_,h⟩|⟨g,cap,cur,rfl,_⟩
 ·cases h
 ·exact⟨g,cap,rfl⟩
structure WAA (ix:Ix) (w0:World) (BO:Nat) (xs:List dM) (m:dM) (D:Nat→Bool) (x:Tmp→Value) (w:World):Prop where
 fin:D ix.i5=true→∃w1,Below w0.heap.size w0 w1∧w1.ownsRow w0.heap.size 56 5 (x ix.s4) (xs.length+1) (dh (xs++[m]))∧w=w1.setCell ⟨BO,3,none⟩ (x ix.s4)
 bel:D ix.i5=false→Below w0.heap.size w0 w
 o1:D ix.i5=false→D ix.i1=true→D ix.i2=false→w.ownsRow w0.heap.size 56 5 (x ix.s1) 0 (dh [])
 o2:D ix.i5=false→D ix.i2=true→D ix.i4=false→w.ownsRow w0.heap.size 56 5 (x ix.s2) xs.length (dh xs)
 o3:D ix.i5=false→D ix.i3=true→D ix.i4=false→w.ownsRow w0.heap.size 56 5 (x ix.s3) 1 (dh [m])
 o4:D ix.i5=false→D ix.i4=true→w.ownsRow w0.heap.size 56 5 (x ix.s4) (xs.length+1) (dh (xs++[m]))
 ne:D ix.i5=false→D ix.i1=true→D ix.i2=false→D ix.i3=true→D ix.i4=false→(x ix.s1).ownBlock≠(x ix.s3).ownBlock∨(x ix.s3).ownBlock=none
 SK:D ix.i2=true→D ix.i1=true
 SL:D ix.i4=true→D ix.i2=true∧D ix.i3=true
theorem sQ{p q:Bool}(h:p=true→q=true)(hq:q=false):p=false:=by cases p with|false=>rfl|true=>rw[h rfl]at hq;cases hq
theorem nof{p:Bool}{α:Prop}(h:p=false)(q:p=true):α:=by rw[h]at q;cases q
section
variable {ix:Ix} {w0 w w':World} {BO:Nat} {xs:List dM} {m:dM} {D:Nat→Bool} {x:Tmp→Value}
theorem WAA.start:WAA ix w0 BO xs m (λ_=>false) (λ_=>undef) { w0 with drawn:=w0.drawn+1 }:=
 ⟨λh=>by(cases h),λ_=>⟨rfl,rfl,rfl,ay _,λ_ _=>rfl⟩,λ_ h=>by(cases h),λ_ h=>by(cases h),λ_ h=>by(cases h),λ_ h=>by(cases h),λ_ h=>by(cases h),λh=>by(cases h),λh=>by(cases h)⟩
theorem aT{D:Nat→Bool}{i k:Nat}(h:k≠i):aQ D i k=D k:=by simp[aQ,h]
theorem bJ{D:Nat→Bool}{i:Nat}:aQ D i i=true:=by simp[aQ]
theorem dN{x:Tmp→Value}{g k:Tmp}{u:Value}(h:k≠g):iU x g u k=x k:=by simp[iU,h]
theorem eH{x:Tmp→Value}{g:Tmp}{u:Value}:iU x g u g=u:=by simp[iU]
theorem WAA.pure(h:WAA ix w0 BO xs m D x w){i:Nat}(hi:i∉[ix.i1,ix.i2,ix.i3,ix.i4,ix.i5]):WAA ix w0 BO xs m (aQ D i) x w:=by
 simp only[List.mem_cons,List.not_mem_nil,or_false,not_or]at hi;obtain⟨h1,h2,h3,h4,h5⟩:=hi;have e1:=aT (D:=D) (Ne.symm h1);have e2:=aT (D:=D) (Ne.symm h2);have e3:=aT (D:=D) (Ne.symm h3);have e4:=aT (D:=D) (Ne.symm h4);have e5:=aT (D:=D) (Ne.symm h5);exact⟨by rw[e5];exact h.fin,by rw[e5];exact h.bel,by rw[e5,e1,e2];exact h.o1,by rw[e5,e2,e4];exact h.o2,by rw[e5,e3,e4];exact h.o3,by rw[e5,e4];exact h.o4,by rw[e5,e1,e2,e3,e4];exact h.ne,by rw[e2,e1];exact h.SK,by rw[e4,e2,e3];exact h.SL⟩
section
variable (hok:ix.ok=true)
include hok
theorem Ix.ok.to:(ix.i1≠ix.i2∧ix.i1≠ix.i3∧ix.i1≠ix.i4∧ix.i1≠ix.i5)∧(ix.i2≠ix.i3∧ix.i2≠ix.i4∧ix.i2≠ix.i5)∧(ix.i3≠ix.i4∧ix.i3≠ix.i5)∧ix.i4≠ix.i5∧(ix.s1≠ix.s2∧ix.s1≠ix.s3∧ix.s1≠ix.s4)∧(ix.s2≠ix.s3∧ix.s2≠ix.s4)∧ix.s3≠ix.s4:=by
 unfold Ix.ok at hok;simp only[Bool.and_eq_true,decide_eq_true_eq,List.nodup_cons,List.mem_cons,List.not_mem_nil,or_false,not_or,not_false_eq_true,List.nodup_nil,and_true]at hok;obtain⟨⟨⟨a1,a2,a3,a4⟩,⟨b1,b2,b3⟩,⟨c1,c2⟩,d1⟩,⟨s1,s2,s3⟩,⟨t1,t2⟩,u1⟩:=hok;exact⟨⟨a1,a2,a3,a4⟩,⟨b1,b2,b3⟩,⟨c1,c2⟩,d1,⟨s1,s2,s3⟩,⟨t1,t2⟩,u1⟩
theorem WAA.SA(h:WAA ix w0 BO xs m D x w)(d1':D ix.i1=false)(d5:D ix.i5=false):WAA ix w0 BO xs m (aQ D ix.i1) (iU x ix.s1 (.slice (some ⟨w.heap.size,0,none⟩) 0 0)) (w.alloc (.cells #[] 56)):=by
 obtain⟨⟨a1,a2,a3,a4⟩,⟨b1,b2,b3⟩,⟨c1,c2⟩,d1,⟨s1,s2,s3⟩,⟨t1,t2⟩,u1⟩:=Ix.ok.to hok;have hb:=h.bel d5;have d2:=sQ h.SK d1';have d4:=sQ (λq=>(h.SL q).1) d2;have e2:aQ D ix.i1 ix.i2=D ix.i2:=aT (Ne.symm a1);have e3:aQ D ix.i1 ix.i3=D ix.i3:=aT (Ne.symm a2);have e4:aQ D ix.i1 ix.i4=D ix.i4:=aT (Ne.symm a3);have e5:aQ D ix.i1 ix.i5=D ix.i5:=aT (Ne.symm a4);refine⟨λq=>nof (e5.trans d5) q,λ_=>hb.alloc hb.size _,λ_ _ _=>?_,λ_ q=>nof (e2.trans d2) q,λ_ q q'=>?_,λ_ q=>nof (e4.trans d4) q,λ_ _ _ q q'=>?_,λ_=>bJ,λq=>nof (e4.trans d4) q⟩
 ·rw[eH];exact World.ownsRow_lit w #[] 0 hb.size (by decide) rfl
 ·rw[e3]at q;rw[e4]at q';rw[dN (Ne.symm s2)];exact(h.o3 d5 q q').alloc _
 ·rw[e3]at q;rw[e4]at q';rw[eH,dN (Ne.symm s2)];cases hv:(x ix.s3).ownBlock with
  |none=>exact .inr rfl
  |some k=>
   have:=AY (h.o3 d5 q q') hv;exact .inl λe=>by simp[Value.ownBlock]at e;omega
theorem WAA.SB(h:WAA ix w0 BO xs m D x w)(d3':D ix.i3=false)(d5:D ix.i5=false):WAA ix w0 BO xs m (aQ D ix.i3) (iU x ix.s3 (.slice (some ⟨w.heap.size,0,none⟩) 1 1)) (w.alloc (.cells m.row.toArray 56)):=by
 obtain⟨⟨a1,a2,a3,a4⟩,⟨b1,b2,b3⟩,⟨c1,c2⟩,d1,⟨s1,s2,s3⟩,⟨t1,t2⟩,u1⟩:=Ix.ok.to hok;have hb:=h.bel d5;have d4:=sQ (λq=>(h.SL q).2) d3';have e1:aQ D ix.i3 ix.i1=D ix.i1:=aT a2;have e2:aQ D ix.i3 ix.i2=D ix.i2:=aT b1;have e4:aQ D ix.i3 ix.i4=D ix.i4:=aT (Ne.symm c1);have e5:aQ D ix.i3 ix.i5=D ix.i5:=aT (Ne.symm c2);refine⟨λq=>nof (e5.trans d5) q,λ_=>hb.alloc hb.size _,λ_ q q'=>?_,λ_ q q'=>?_,λ_ _ _=>?_,λ_ q=>nof (e4.trans d4) q,λ_ q q' _ _=>?_,λq=>by rw[e2]at q;rw[e1];exact h.SK q,λq=>nof (e4.trans d4) q⟩
 ·rw[e1]at q;rw[e2]at q';rw[dN s2];exact(h.o1 d5 q q').alloc _
 ·rw[e2]at q;rw[dN t1];exact(h.o2 d5 q d4).alloc _
 ·rw[eH];have:=World.ownsRow_lit (e:=56) (base:=w0.heap.size) (size:=5) w m.row.toArray 1 hb.size (by decide) rfl;simpa[dh]using this
 ·rw[e1]at q;rw[e2]at q';rw[eH,dN s2];refine .inl λe=>?_;have:=AY (h.o1 d5 q q') (k:=w.heap.size) (by rw[e];rfl);omega
theorem WAA.app1(h:WAA ix w0 BO xs m D x w)(q1:D ix.i1=true)(d2:D ix.i2=false)(d5:D ix.i5=false){v:Value}(hown:w'.ownsRow w0.heap.size 56 5 v (0+xs.length) (dh ([]++xs)))(hg:w.grownBy w' (x ix.s1).ownBlock) :
  WAA ix w0 BO xs m (aQ D ix.i2) (iU x ix.s2 v) w':=by
 obtain⟨⟨a1,a2,a3,a4⟩,⟨b1,b2,b3⟩,⟨c1,c2⟩,d1,⟨s1,s2,s3⟩,⟨t1,t2⟩,u1⟩:=Ix.ok.to hok;have hb:=h.bel d5;have d4:=sQ (λq=>(h.SL q).1) d2;have e1:aQ D ix.i2 ix.i1=D ix.i1:=aT a1;have e3:aQ D ix.i2 ix.i3=D ix.i3:=aT (Ne.symm b1);have e4:aQ D ix.i2 ix.i4=D ix.i4:=aT (Ne.symm b2);have e5:aQ D ix.i2 ix.i5=D ix.i5:=aT (Ne.symm b3);rw[Nat.zero_add,List.nil_append]at hown;refine⟨λq=>nof (e5.trans d5) q,λ_=>hb.trans (eY (h.o1 d5 q1 d2) hg hb.size),λ_ _ q=>nof q bJ,λ_ _ _=>by rw[eH];exact hown,λ_ q _=>?_,λ_ q=>nof (e4.trans d4) q,λ_ _ q=>nof q bJ,λ_=>e1.trans q1,λq=>nof (e4.trans d4) q⟩;rw[e3]at q;rw[dN (Ne.symm t1)];refine Dv (h.o3 d5 q d4) hg ?_;rcases h.ne d5 q1 d2 q d4 with e|e
 ·exact .inl (Ne.symm e)
 ·exact .inr e
theorem WAA.app2(h:WAA ix w0 BO xs m D x w)(q2:D ix.i2=true)(q3:D ix.i3=true)(d4:D ix.i4=false)(d5:D ix.i5=false){v:Value}(hown:w'.ownsRow w0.heap.size 56 5 v (xs.length+1) (dh (xs++[m])))(hg:w.grownBy w' (x ix.s2).ownBlock) :
  WAA ix w0 BO xs m (aQ D ix.i4) (iU x ix.s4 v) w':=by
 obtain⟨⟨a1,a2,a3,a4⟩,⟨b1,b2,b3⟩,⟨c1,c2⟩,d1,⟨s1,s2,s3⟩,⟨t1,t2⟩,u1⟩:=Ix.ok.to hok;have hb:=h.bel d5;have e1:aQ D ix.i4 ix.i1=D ix.i1:=aT a3;have e3:aQ D ix.i4 ix.i3=D ix.i3:=aT c1;have e2:aQ D ix.i4 ix.i2=D ix.i2:=aT b2;have e5:aQ D ix.i4 ix.i5=D ix.i5:=aT (Ne.symm d1);exact⟨λq=>nof (e5.trans d5) q,λ_=>hb.trans (eY (h.o2 d5 q2 d4) hg hb.size),λ_ _ q=>nof q (e2.trans q2),λ_ _ q=>nof q bJ,λ_ _ q=>nof q bJ,λ_ _=>by rw[eH];exact hown,λ_ _ _ _ q=>nof q bJ,λq=>by rw[e2]at q;rw[e1];exact h.SK q,λ_=>⟨e2.trans q2,e3.trans q3⟩⟩
theorem WAA.store(h:WAA ix w0 BO xs m D x w)(q4:D ix.i4=true)(d5:D ix.i5=false):WAA ix w0 BO xs m (aQ D ix.i5) x (w.setCell ⟨BO,3,none⟩ (x ix.s4)):=by
 obtain⟨⟨a1,a2,a3,a4⟩,⟨b1,b2,b3⟩,⟨c1,c2⟩,d1,-⟩:=Ix.ok.to hok;have e1:aQ D ix.i5 ix.i1=D ix.i1:=aT a4;have e2:aQ D ix.i5 ix.i2=D ix.i2:=aT b3;have e3:aQ D ix.i5 ix.i3=D ix.i3:=aT c2;have e4:aQ D ix.i5 ix.i4=D ix.i4:=aT d1;exact⟨λ_=>⟨w,h.bel d5,h.o4 d5 q4,rfl⟩,λq=>nof q bJ,λq=>nof q bJ,λq=>nof q bJ,λq=>nof q bJ,λq=>nof q bJ,λq=>nof q bJ,by rw[e2,e1];exact h.SK,by rw[e4,e2,e3];exact h.SL⟩
end
end
end
section
open Go Go.RowKit Lift
end
