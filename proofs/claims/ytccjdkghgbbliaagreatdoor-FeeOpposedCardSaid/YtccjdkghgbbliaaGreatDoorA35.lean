/- What the layer answers at the example's book, in plain words. -/
import Derived.Test.YtccjdkghgbbliaaGreatDoorA21
import Derived.Test.YtccjdkghgbbliaaGreatDoorA34
set_option linter.all false
namespace Go.Proofs.YtccjdkghgbbliaaGreatDoor
section
set_option maxHeartbeats 1000000
set_option maxRecDepth 10000
open Go Go.RowKit Go.Sort
theorem KY:bf.lacks (bf.after 5) 0 5 3=[(0,10),(2,100)]:=by decide +kernel
theorem KZ:bf.lacks (bf.after 5) 1 5 3=[(1,50)]:=by decide +kernel
theorem La:bf.lacks (bf.after 8) 0 8 3=[(0,10),(2,100)]:=by decide +kernel
theorem Lc:bf.lacks (bf.after 8) 1 8 3=[(1,50)]:=by decide +kernel
theorem ex_acc5:((bf.after 5).acc 0,(bf.after 5).acc 1)=(0,0):=by decide +kernel
theorem IJ:((bf.after 8).acc 0,(bf.after 8).acc 1)=(40,30):=by decide +kernel
theorem EX(x:Int×Int):sortL [x]=[x]:=by
 unfold sortL Sort.insertionSort;rw[insOuter,if_neg (by simp)]
theorem EY:sortL [(0,10),(2,100)]=[(0,10),(2,100)]:=by
 unfold sortL Sort.insertionSort;rw[insOuter,if_pos (by simp),insOuter,if_neg (by simp)];decide +kernel
theorem QA:jT [0,1]=[0,1]:=by
 unfold jT Sort.insertionSort;rw[insOuter,if_pos (by simp),insOuter,if_neg (by simp)];decide +kernel
theorem EW(x:Int):jT [x]=[x]:=by
 unfold jT Sort.insertionSort;rw[insOuter,if_neg (by simp)]
theorem Qz:jT []=[]:=by
 unfold jT Sort.insertionSort;rw[insOuter,if_neg (by simp)]
theorem Qy:jT [0,2,1]=[0,1,2]:=by
 unfold jT Sort.insertionSort;rw[insOuter,if_pos (by simp),insOuter,if_pos (by simp),insOuter,if_neg (by simp)];decide +kernel
theorem Ah:bf.short (bf.after 5) 5 0=[(0,10),(2,100)]:=by
 unfold Book.short;rw[show bf.cs.length=3 from rfl,KY,EY]
theorem Ai:bf.short (bf.after 5) 5 1=[(1,50)]:=by
 unfold Book.short;rw[show bf.cs.length=3 from rfl,KZ,EX]
theorem uP:bf.short (bf.after 8) 8 0=[(0,10),(2,100)]:=by
 unfold Book.short;rw[show bf.cs.length=3 from rfl,La,EY]
theorem uQ:bf.short (bf.after 8) 8 1=[(1,50)]:=by
 unfold Book.short;rw[show bf.cs.length=3 from rfl,Lc,EX]
theorem vO{x:Int×Int}{L:List (Int×Int)}{left:Int}{k:Nat}(h:Took (x::L) left k)(hx:left<x.2):k=0:=by
 rcases k with _|k
 ·rfl
 ·have:=h.had 0 (by omega);simp[lefts]at this;omega
theorem J5{x y:Int×Int}{left:Int}{k:Nat}(h:Took [x,y] left k)(hx:x.2≤left)(hy:wrap64 (left-x.2)<y.2):k=1:=by
 have hle:=h.le;simp at hle;rcases(show k=0∨k=1∨k=2 by omega)with rfl|rfl|rfl
 ·have:=h.not (by simp);simp[lefts]at this;omega
 ·rfl
 ·have:=h.had 1 (by omega);simp[lefts]at this;omega
theorem Sm{cs ps:List Int}(h:rW bf (bf.after 5) 5 2 cs ps):cs=[]∧ps=[0,1]:=by
 obtain⟨cs1,ps1,k1,⟨cs0,ps0,k0,⟨rfl,rfl⟩,h0,rfl,rfl⟩,h1,rfl,rfl⟩:=h;have ha:=ex_acc5;simp only[Prod.mk.injEq]at ha;rw[Ah,ha.1]at h0;rw[Ai,ha.2]at h1;obtain rfl:=vO h0 (by decide);obtain rfl:=vO h1 (by decide);rw[Ah,Ai];simp
theorem Sr{cs ps:List Int}(h:rW bf (bf.after 8) 8 2 cs ps):cs=[0]∧ps=[0,2,1]:=by
 obtain⟨cs1,ps1,k1,⟨cs0,ps0,k0,⟨rfl,rfl⟩,h0,rfl,rfl⟩,h1,rfl,rfl⟩:=h;have ha:=IJ;simp only[Prod.mk.injEq]at ha;rw[uP,ha.1]at h0;rw[uQ,ha.2]at h1;obtain rfl:=J5 h0 (by decide) (by decide +kernel);obtain rfl:=vO h1 (by decide);rw[uP,uQ];simp
theorem OY:bf.proves (bf.after 8) 8 [0] [0,1,2]=true:=by
 unfold Book.proves;have ha:=IJ;simp only[Prod.mk.injEq]at ha;have h1:bf.dF (bf.after 8) [0] 1=true:=by decide +kernel
 have h2:bf.dF (bf.after 8) [0,1,2] 3=true:=by decide +kernel
 have h3:(List.range 2).all (λc=>nN [0] [0,1,2] (bf.short (bf.after 8) 8 c) ((bf.after 8).acc c))=true:=by
  simp only[List.range,List.range.loop,List.all_cons,List.all_nil,uP,uQ,ha.1,ha.2];decide +kernel
 simp only[aC,aF,Nat.zero_add,Nat.reduceAdd,h1,h2,Bool.true_and];exact h3
theorem KX:bf.ji (bf.after 8) 0=150:=by decide +kernel
theorem IK:bf.ji (bf.after 12) 0=0:=by decide +kernel
end
section
set_option maxHeartbeats 1000000
set_option maxRecDepth 10000
open Go Go.RowKit Lift
theorem bY.of{s:ByteArray}(h1:1≤s.size)(h2:s.size≤10)(h3:s.data.toList.head?.all (λx=>decide (97≤x.toNat∧x.toNat≤122))=true)(h4:s.data.toList.all jl=true):bY s:=by
 refine⟨h1,h2,λx hx=>?_,λj x hx=>List.all_eq_true.1 h4 x (List.mem_of_getElem? hx)⟩;rw[List.head?_eq_getElem?,hx]at h3;simpa using h3
theorem jC:Full bf:=by
 refine⟨Sz,?_,by decide +kernel,?_,by decide +kernel,?_,by decide +kernel,?_⟩
 ·intro s hs;simp only[bf,List.mem_cons,List.not_mem_nil,or_false]at hs;rcases hs with rfl|rfl<;>exact bY.of (by decide +kernel) (by decide +kernel) (by decide +kernel) (by decide +kernel)
 ·intro t ht;simp only[bf,List.mem_cons,List.not_mem_nil,or_false]at ht;rcases ht with rfl|rfl<;>exact bY.of (by decide +kernel) (by decide +kernel) (by decide +kernel) (by decide +kernel)
 ·intro t ht;simp only[bf,List.mem_cons,List.not_mem_nil,or_false]at ht;rcases ht with rfl|rfl|rfl<;>exact bY.of (by decide +kernel) (by decide +kernel) (by decide +kernel) (by decide +kernel)
 ·intro p hp;simp only[bf,List.mem_cons,List.not_mem_nil,or_false]at hp;rcases hp with rfl|rfl|rfl|rfl|rfl|rfl<;>decide +kernel
section
variable {M:Nat} {l:Lay} {w:World} {V:Value}
theorem exFee11(hbk:dZ M l bf w)(hV:l.val bf=V):CallsIn Fz 0 Tryz.prog 23 #[V,.int .i64 0,.int .i64 11] w λe w'=>e=.returned (.tuple #[.int .i64 180,.bool true,.int .i64 0])∧Below w.heap.size w w':=by
 subst hV;have h:=QU hbk jC (c:=0) (by decide) (day:=11) (by decide) (by decide);rw[Sj]at h;exact h
theorem exFee16(hbk:dZ M l bf w)(hV:l.val bf=V):CallsIn Fz 0 Tryz.prog 23 #[V,.int .i64 0,.int .i64 16] w λe w'=>e=.returned (.tuple #[.int .i64 0,.bool false,.int .i64 0])∧Below w.heap.size w w':=by
 subst hV;have h:=QU hbk jC (c:=0) (by decide) (day:=16) (by decide) (by decide);rw[Sl]at h;exact h
theorem RU(hbk:dZ M l bf w)(hkd:bK w)(hV:l.val bf=V):CallsIn Fz 0 Tryz.prog 32 #[V,.int .i64 0,.int .i64 8] w λe w'=>e=.returned (.tuple #[.int .i64 0,.int .i64 150,.int .i64 0])∧Below w.heap.size w w':=by
 subst hV;have h:=zS hbk jC hkd (c:=0) (by decide) (day:=8) (by decide) (by decide);have e:=OZ;simp only[Std.four,Prod.mk.injEq]at e;rw[e.1,e.2.1]at h;exact h
theorem RX(hbk:dZ M l bf w)(hkd:bK w)(hV:l.val bf=V):CallsIn Fz 0 Tryz.prog 32 #[V,.int .i64 1,.int .i64 9] w λe w'=>(∃h:Int,e=.returned (.tuple #[.int .i64 2,.int .i64 h,.int .i64 0]))∧Below w.heap.size w w':=by
 subst hV;have h:=zS hbk jC hkd (c:=1) (by decide) (day:=9) (by decide) (by decide);rw[O4]at h;exact h.mono λe w' h=>⟨⟨_,h.1⟩,h.2⟩
theorem exKept(hbk:dZ M l bf w)(hkd:bK w)(hV:l.val bf=V):CallsIn Fz 0 Tryz.prog 15 #[V,.int .i64 0] w λe w'=>e=.returned (.tuple #[.int .i64 9,.int .i64 160,.bool true,.int .i64 0])∧Below w.heap.size w w':=by
 subst hV;have h:=Kept_in hbk jC hkd (c:=0) (by decide);have e:=ex_kept;simp only[Std.four,Prod.mk.injEq]at e;rw[e.1,e.2.1,e.2.2.1,e.2.2.2]at h;exact h
theorem qV{w:World}{N n:Nat}{v:Value}{xs:List Int}(h:w.ownsRow N 3 1 v n (ints xs))(hn:n=xs.length):eY w v xs:=by
 subst hn;rcases h.2 with⟨rfl,hn⟩|⟨g,cap,cur,rfl,h1,h2⟩
 ·obtain rfl:=List.eq_nil_of_length_eq_zero hn;exact⟨none,0,0,rfl,λi hi=>absurd hi (by simp)⟩
 ·obtain⟨hg,_,_,_,ht⟩:=h2;refine⟨some ⟨g,0,none⟩,0,cap,rfl,λi hi=>⟨g,rfl,(Array.getElem?_eq_some_iff.1 hg).1,?_⟩⟩;have e:(ints xs)[i]?=some (.int .i64 (xs.getD i 0)):=by simp[ints,hi]
  rw[← ht,Nat.mul_one,List.getElem?_take_of_lt hi,Array.getElem?_toList]at e;simp[World.cell?,hg,e]
theorem exVoids(hbk:dZ M l bf w)(hkd:bK w)(hV:l.val bf=V):CallsIn Fz 0 Tryz.prog 34 #[V] w λe w'=>(∃v,e=.returned (.tuple #[v,.int .i64 0])∧eY w' v [4])∧Below w.heap.size w w':=by
 subst hV;have h:=QZ hbk jC hkd (by rw[IL];decide);rw[IL,EW]at h;exact h.mono λe w' ⟨v,h1,h2,h3⟩=>⟨⟨v,h1,qV (xs:=[4]) h2 rfl⟩,h3⟩
theorem exPlan5(hbk:dZ M l bf w)(hkd:bK w)(hV:l.val bf=V):CallsIn Fz 0 Tryz.prog 35 #[V,.int .i64 5] w λe w'=>(∃vc vp,e=.returned (.tuple #[vc,vp,.int .i64 0])∧eY w' vc []∧eY w' vp [0,1])∧Below w.heap.size w w':=by
 subst hV;have h:=Nz hbk jC hkd (day:=5) (by decide) (by decide);refine h.mono λe w' ⟨vc,vp,cs,ps,h1,hp,h2,h3,hb⟩=>?_;obtain⟨rfl,rfl⟩:=Sm hp;rw[Qz]at h2;rw[QA]at h3;exact⟨⟨vc,vp,h1,qV h2 rfl,qV h3 rfl⟩,hb⟩
theorem exPlan8(hbk:dZ M l bf w)(hkd:bK w)(hV:l.val bf=V):CallsIn Fz 0 Tryz.prog 35 #[V,.int .i64 8] w λe w'=>(∃vc vp,e=.returned (.tuple #[vc,vp,.int .i64 0])∧eY w' vc [0]∧eY w' vp [0,1,2])∧Below w.heap.size w w':=by
 subst hV;have h:=Nz hbk jC hkd (day:=8) (by decide) (by decide);refine h.mono λe w' ⟨vc,vp,cs,ps,h1,hp,h2,h3,hb⟩=>?_;obtain⟨rfl,rfl⟩:=Sr hp;rw[EW]at h2;rw[Qy]at h3;exact⟨⟨vc,vp,h1,qV h2 rfl,qV h3 rfl⟩,hb⟩
theorem RS(hbk:dZ M l bf w)(hkd:bK w)(hV:l.val bf=V){vc vp:Value}(hc:eY w vc [0])(hp:eY w vp [0,1,2]):CallsIn Fz 0 Tryz.prog 36 #[V,.int .i64 8,vc,vp] w λe w'=>e=.returned (.tuple #[.bool true,.int .i64 0])∧Below w.heap.size w w':=by
 subst hV;have h:=Ov hbk jC hkd (day:=8) (by decide) (by decide) hc hp (by decide) (by decide);rw[OY]at h;exact h
end
section
variable [Keep] {Q:Qr} {a:Act} {w:World} {S:Blks}
theorem exBal8{M:Nat}{l:Lay}{V:Value}(hbk:dZ M l bf w)(hkd:bK w)(hV:l.val bf=V)(hlim:Keep.lim≤w.heap.size):CallsR Tryz.prog Inside 33 #[V,.int .i64 0,.int .i64 8] w S λv w' S'=>v=.tuple #[.agg #[.int .i64 40,.int .i64 150,.int .i64 0,.int .i64 190],.int .i64 0]∧fK w.heap.size w S w' S':=by
 subst hV;have h:=D7 (S:=S) hbk jC hkd hlim (c:=0) (by decide) (day:=8) (by decide) (by decide);have e:=ex_acc8;simp only[Prod.mk.injEq]at e;rw[e.1,e.2.1,e.2.2,KX]at h;exact h
theorem exBal12{M:Nat}{l:Lay}{V:Value}(hbk:dZ M l bf w)(hkd:bK w)(hV:l.val bf=V)(hlim:Keep.lim≤w.heap.size):CallsR Tryz.prog Inside 33 #[V,.int .i64 0,.int .i64 12] w S λv w' S'=>v=.tuple #[.agg #[.int .i64 35,.int .i64 0,.int .i64 160,.int .i64 195],.int .i64 0]∧fK w.heap.size w S w' S':=by
 subst hV;have h:=D7 (S:=S) hbk jC hkd hlim (c:=0) (by decide) (day:=12) (by decide) (by decide);have e:=RY;simp only[Prod.mk.injEq]at e;rw[e.1,e.2.1,e.2.2,IK]at h;exact h
theorem fQ{x y:Code}(h:∀w',iE w w'→x.wpIn Fz 0 Tryz.prog (λe a' w''=>yS (λa w S=>wpR Tryz.prog Inside y Q a w S) Q e a' w'' S) a w'):wpR Tryz.prog Inside (.seq x y) Q a w S:=UL fit h
theorem QG{c:Code}(h:∀w',iE w w'→c.wpIn Fz 0 Tryz.prog (λe a' w''=>Q e a' w'' S) a w'):wpR Tryz.prog Inside c Q a w S:=Kq fit h
theorem bZ{ops:Array Oper}{i:Nat}{rest:List Nat}{o:Oper}(ho:ops[i]?=some o)(hw:Region.wanted o (yielded ops a.tmps)=true)
  (h:∀w',iE w w'→o.wpIn Fz 0 Tryz.prog a w' (λa' w''=>nM Tryz.prog Inside ops rest Q a' w'' S) (λ_ _ _=>False)):nM Tryz.prog Inside ops (i::rest) Q a w S:=Qd fit ho hw h
theorem lK{ops:Array Oper}{i:Nat}{rest:List Nat}{o:Oper}{f:FuncId}{fn:Func}{body:Code}{args:Array Operand}{ats:Array TypeId}{R:Value→World→Blks→Prop}{vals:Array Value}
  (ho:ops[i]?=some o) (hw:Region.wanted o (yielded ops a.tmps)=true) (hop:o.op=.call { callee:=.value (.func f),args,argTypes:=ats }) (hf:Tryz.prog.funcs[f]?=some fn) (hname:(fn.name == "runtime.NumGoroutine")=false) (hb:fn.body=some body)
  (hargs:args.map a.eval=vals) (hcall:CallsR Tryz.prog Inside f vals w S R) (hnext:∀v w' S',R v w' S'→nM Tryz.prog Inside ops rest Q (a.put o.dst v) w' S'):nM Tryz.prog Inside ops (i::rest) Q a w S:=by
 subst hargs;exact EN fit ho hw hop hf hname hb hcall hnext
theorem Rt:Tryz.f33.body=some (Tryz.f33.body.getD .skip):=rfl
end
end
