/- What the layer answers at the example's book, in plain words. -/
import Derived.Test.YtccjdkghgbbliaaGreatDoorA21
import Derived.Test.YtccjdkghgbbliaaGreatDoorA34
set_option linter.all false
namespace Go.Proofs.YtccjdkghgbbliaaGreatDoor
section
set_option maxHeartbeats 1000000
set_option maxRecDepth 10000
open Go Go.RowKit Go.Sort
theorem KU:aY.lacks (aY.after 5) 0 5 3=[(0,10),(2,100)]:=by decide +kernel
theorem KW:aY.lacks (aY.after 5) 1 5 3=[(1,50)]:=by decide +kernel
theorem KX:aY.lacks (aY.after 8) 0 8 3=[(0,10),(2,100)]:=by decide +kernel
theorem KY:aY.lacks (aY.after 8) 1 8 3=[(1,50)]:=by decide +kernel
theorem ex_acc5:((aY.after 5).acc 0,(aY.after 5).acc 1)=(0,0):=by decide +kernel
theorem Iy:((aY.after 8).acc 0,(aY.after 8).acc 1)=(40,30):=by decide +kernel
theorem EM(x:Int×Int):sortL [x]=[x]:=by
 unfold sortL Sort.insertionSort;rw[insOuter,if_neg (by simp)]
theorem EO:sortL [(0,10),(2,100)]=[(0,10),(2,100)]:=by
 unfold sortL Sort.insertionSort;rw[insOuter,if_pos (by simp),insOuter,if_neg (by simp)];decide +kernel
theorem Qh:jV [0,1]=[0,1]:=by
 unfold jV Sort.insertionSort;rw[insOuter,if_pos (by simp),insOuter,if_neg (by simp)];decide +kernel
theorem EL(x:Int):jV [x]=[x]:=by
 unfold jV Sort.insertionSort;rw[insOuter,if_neg (by simp)]
theorem Qg:jV []=[]:=by
 unfold jV Sort.insertionSort;rw[insOuter,if_neg (by simp)]
theorem Qe:jV [0,2,1]=[0,1,2]:=by
 unfold jV Sort.insertionSort;rw[insOuter,if_pos (by simp),insOuter,if_pos (by simp),insOuter,if_neg (by simp)];decide +kernel
theorem Ai:aY.short (aY.after 5) 5 0=[(0,10),(2,100)]:=by
 unfold Book.short;rw[show aY.cs.length=3 from rfl,KU,EO]
theorem Aj:aY.short (aY.after 5) 5 1=[(1,50)]:=by
 unfold Book.short;rw[show aY.cs.length=3 from rfl,KW,EM]
theorem uJ:aY.short (aY.after 8) 8 0=[(0,10),(2,100)]:=by
 unfold Book.short;rw[show aY.cs.length=3 from rfl,KX,EO]
theorem uK:aY.short (aY.after 8) 8 1=[(1,50)]:=by
 unfold Book.short;rw[show aY.cs.length=3 from rfl,KY,EM]
theorem vG{x:Int×Int}{L:List (Int×Int)}{left:Int}{k:Nat}(h:Took (x::L) left k)(hx:left<x.2):k=0:=by
 rcases k with _|k
 ·rfl
 ·have:=h.had 0 (by omega);simp[lefts]at this;omega
theorem JY{x y:Int×Int}{left:Int}{k:Nat}(h:Took [x,y] left k)(hx:x.2≤left)(hy:wrap64 (left-x.2)<y.2):k=1:=by
 have hle:=h.le;simp at hle;rcases(show k=0∨k=1∨k=2 by omega)with rfl|rfl|rfl
 ·have:=h.not (by simp);simp[lefts]at this;omega
 ·rfl
 ·have:=h.had 1 (by omega);simp[lefts]at this;omega
theorem RJ{cs ps:List Int}(h:rZ aY (aY.after 5) 5 2 cs ps):cs=[]∧ps=[0,1]:=by
 obtain⟨cs1,ps1,k1,⟨cs0,ps0,k0,⟨rfl,rfl⟩,h0,rfl,rfl⟩,h1,rfl,rfl⟩:=h;have ha:=ex_acc5;simp only[Prod.mk.injEq]at ha;rw[Ai,ha.1]at h0;rw[Aj,ha.2]at h1;obtain rfl:=vG h0 (by decide);obtain rfl:=vG h1 (by decide);rw[Ai,Aj];simp
theorem RN{cs ps:List Int}(h:rZ aY (aY.after 8) 8 2 cs ps):cs=[0]∧ps=[0,2,1]:=by
 obtain⟨cs1,ps1,k1,⟨cs0,ps0,k0,⟨rfl,rfl⟩,h0,rfl,rfl⟩,h1,rfl,rfl⟩:=h;have ha:=Iy;simp only[Prod.mk.injEq]at ha;rw[uJ,ha.1]at h0;rw[uK,ha.2]at h1;obtain rfl:=JY h0 (by decide) (by decide +kernel);obtain rfl:=vG h1 (by decide);rw[uJ,uK];simp
theorem OM:aY.proves (aY.after 8) 8 [0] [0,1,2]=true:=by
 unfold Book.proves;have ha:=Iy;simp only[Prod.mk.injEq]at ha;have h1:aY.dF (aY.after 8) [0] 1=true:=by decide +kernel
 have h2:aY.dF (aY.after 8) [0,1,2] 3=true:=by decide +kernel
 have h3:(List.range 2).all (λc=>nK [0] [0,1,2] (aY.short (aY.after 8) 8 c) ((aY.after 8).acc c))=true:=by
  simp only[List.range,List.range.loop,List.all_cons,List.all_nil,uJ,uK,ha.1,ha.2];decide +kernel
 simp only[aC,aG,Nat.zero_add,Nat.reduceAdd,h1,h2,Bool.true_and];exact h3
theorem KT:aY.jg (aY.after 8) 0=150:=by decide +kernel
theorem Iz:aY.jg (aY.after 12) 0=0:=by decide +kernel
end
section
set_option maxHeartbeats 1000000
set_option maxRecDepth 10000
open Go Go.RowKit Lift
theorem dB.of{s:ByteArray}(h1:1≤s.size)(h2:s.size≤10)(h3:s.data.toList.head?.all (λx=>decide (97≤x.toNat∧x.toNat≤122))=true)(h4:s.data.toList.all jA=true):dB s:=by
 refine⟨h1,h2,λx hx=>?_,λj x hx=>List.all_eq_true.1 h4 x (List.mem_of_getElem? hx)⟩;rw[List.head?_eq_getElem?,hx]at h3;simpa using h3
theorem jB:Full aY:=by
 refine⟨RP,?_,by decide +kernel,?_,by decide +kernel,?_,by decide +kernel,?_⟩
 ·intro s hs;simp only[aY,List.mem_cons,List.not_mem_nil,or_false]at hs;rcases hs with rfl|rfl<;>exact dB.of (by decide +kernel) (by decide +kernel) (by decide +kernel) (by decide +kernel)
 ·intro t ht;simp only[aY,List.mem_cons,List.not_mem_nil,or_false]at ht;rcases ht with rfl|rfl<;>exact dB.of (by decide +kernel) (by decide +kernel) (by decide +kernel) (by decide +kernel)
 ·intro t ht;simp only[aY,List.mem_cons,List.not_mem_nil,or_false]at ht;rcases ht with rfl|rfl|rfl<;>exact dB.of (by decide +kernel) (by decide +kernel) (by decide +kernel) (by decide +kernel)
 ·intro p hp;simp only[aY,List.mem_cons,List.not_mem_nil,or_false]at hp;rcases hp with rfl|rfl|rfl|rfl|rfl|rfl<;>decide +kernel
section
variable {M:Nat} {l:Lay} {w:World} {V:Value}
theorem exFee11(hbk:dU M l aY w)(hV:l.val aY=V):CallsIn Fz 0 Tryz.prog 23 #[V,.int .i64 0,.int .i64 11] w λe w'=>e=.returned (.tuple #[.int .i64 180,.bool true,.int .i64 0])∧Below w.heap.size w w':=by
 subst hV;have h:=Ku hbk jB (c:=0) (by decide) (day:=11) (by decide) (by decide);rw[RH]at h;exact h
theorem exFee16(hbk:dU M l aY w)(hV:l.val aY=V):CallsIn Fz 0 Tryz.prog 23 #[V,.int .i64 0,.int .i64 16] w λe w'=>e=.returned (.tuple #[.int .i64 0,.bool false,.int .i64 0])∧Below w.heap.size w w':=by
 subst hV;have h:=Ku hbk jB (c:=0) (by decide) (day:=16) (by decide) (by decide);rw[RI]at h;exact h
theorem Ry(hbk:dU M l aY w)(hkd:bU w)(hV:l.val aY=V):CallsIn Fz 0 Tryz.prog 32 #[V,.int .i64 0,.int .i64 8] w λe w'=>e=.returned (.tuple #[.int .i64 0,.int .i64 150,.int .i64 0])∧Below w.heap.size w w':=by
 subst hV;have h:=Hu hbk jB hkd (c:=0) (by decide) (day:=8) (by decide) (by decide);have e:=OO;simp only[Std.four,Prod.mk.injEq]at e;rw[e.1,e.2.1]at h;exact h
theorem Rz(hbk:dU M l aY w)(hkd:bU w)(hV:l.val aY=V):CallsIn Fz 0 Tryz.prog 32 #[V,.int .i64 1,.int .i64 9] w λe w'=>(∃h:Int,e=.returned (.tuple #[.int .i64 2,.int .i64 h,.int .i64 0]))∧Below w.heap.size w w':=by
 subst hV;have h:=Hu hbk jB hkd (c:=1) (by decide) (day:=9) (by decide) (by decide);rw[OQ]at h;exact h.mono λe w' h=>⟨⟨_,h.1⟩,h.2⟩
theorem exKept(hbk:dU M l aY w)(hkd:bU w)(hV:l.val aY=V):CallsIn Fz 0 Tryz.prog 15 #[V,.int .i64 0] w λe w'=>e=.returned (.tuple #[.int .i64 9,.int .i64 160,.bool true,.int .i64 0])∧Below w.heap.size w w':=by
 subst hV;have h:=Fa hbk jB hkd (c:=0) (by decide);have e:=ex_kept;simp only[Std.four,Prod.mk.injEq]at e;rw[e.1,e.2.1,e.2.2.1,e.2.2.2]at h;exact h
theorem lN{w:World}{N n:Nat}{v:Value}{xs:List Int}(h:w.ownsRow N 3 1 v n (ints xs))(hn:n=xs.length):cZ w v xs:=by
 subst hn;rcases h.2 with⟨rfl,hn⟩|⟨g,cap,cur,rfl,h1,h2⟩
 ·obtain rfl:=List.eq_nil_of_length_eq_zero hn;exact⟨none,0,0,rfl,λi hi=>absurd hi (by simp)⟩
 ·obtain⟨hg,_,_,_,ht⟩:=h2;refine⟨some ⟨g,0,none⟩,0,cap,rfl,λi hi=>⟨g,rfl,(Array.getElem?_eq_some_iff.1 hg).1,?_⟩⟩;have e:(ints xs)[i]?=some (.int .i64 (xs.getD i 0)):=by simp[ints,hi]
  rw[← ht,Nat.mul_one,List.getElem?_take_of_lt hi,Array.getElem?_toList]at e;simp[World.cell?,hg,e]
theorem exVoids(hbk:dU M l aY w)(hkd:bU w)(hV:l.val aY=V):CallsIn Fz 0 Tryz.prog 34 #[V] w λe w'=>(∃v,e=.returned (.tuple #[v,.int .i64 0])∧cZ w' v [4])∧Below w.heap.size w w':=by
 subst hV;have h:=QM hbk jB hkd (by rw[IB];decide);rw[IB,EL]at h;exact h.mono λe w' ⟨v,h1,h2,h3⟩=>⟨⟨v,h1,lN (xs:=[4]) h2 rfl⟩,h3⟩
theorem exPlan5(hbk:dU M l aY w)(hkd:bU w)(hV:l.val aY=V):CallsIn Fz 0 Tryz.prog 35 #[V,.int .i64 5] w λe w'=>(∃vc vp,e=.returned (.tuple #[vc,vp,.int .i64 0])∧cZ w' vc []∧cZ w' vp [0,1])∧Below w.heap.size w w':=by
 subst hV;have h:=Ns hbk jB hkd (day:=5) (by decide) (by decide);refine h.mono λe w' ⟨vc,vp,cs,ps,h1,hp,h2,h3,hb⟩=>?_;obtain⟨rfl,rfl⟩:=RJ hp;rw[Qg]at h2;rw[Qh]at h3;exact⟨⟨vc,vp,h1,lN h2 rfl,lN h3 rfl⟩,hb⟩
theorem exPlan8(hbk:dU M l aY w)(hkd:bU w)(hV:l.val aY=V):CallsIn Fz 0 Tryz.prog 35 #[V,.int .i64 8] w λe w'=>(∃vc vp,e=.returned (.tuple #[vc,vp,.int .i64 0])∧cZ w' vc [0]∧cZ w' vp [0,1,2])∧Below w.heap.size w w':=by
 subst hV;have h:=Ns hbk jB hkd (day:=8) (by decide) (by decide);refine h.mono λe w' ⟨vc,vp,cs,ps,h1,hp,h2,h3,hb⟩=>?_;obtain⟨rfl,rfl⟩:=RN hp;rw[EL]at h2;rw[Qe]at h3;exact⟨⟨vc,vp,h1,lN h2 rfl,lN h3 rfl⟩,hb⟩
theorem Rx(hbk:dU M l aY w)(hkd:bU w)(hV:l.val aY=V){vc vp:Value}(hc:cZ w vc [0])(hp:cZ w vp [0,1,2]):CallsIn Fz 0 Tryz.prog 36 #[V,.int .i64 8,vc,vp] w λe w'=>e=.returned (.tuple #[.bool true,.int .i64 0])∧Below w.heap.size w w':=by
 subst hV;have h:=Oi hbk jB hkd (day:=8) (by decide) (by decide) hc hp (by decide) (by decide);rw[OM]at h;exact h
end
section
variable [Keep] {Q:Qr} {a:Act} {w:World} {S:Blks}
theorem exBal8{M:Nat}{l:Lay}{V:Value}(hbk:dU M l aY w)(hkd:bU w)(hV:l.val aY=V)(hlim:Keep.lim≤w.heap.size):CallsR Tryz.prog Inside 33 #[V,.int .i64 0,.int .i64 8] w S λv w' S'=>v=.tuple #[.agg #[.int .i64 40,.int .i64 150,.int .i64 0,.int .i64 190],.int .i64 0]∧dN w.heap.size w S w' S':=by
 subst hV;have h:=DW (S:=S) hbk jB hkd hlim (c:=0) (by decide) (day:=8) (by decide) (by decide);have e:=ex_acc8;simp only[Prod.mk.injEq]at e;rw[e.1,e.2.1,e.2.2,KT]at h;exact h
theorem exBal12{M:Nat}{l:Lay}{V:Value}(hbk:dU M l aY w)(hkd:bU w)(hV:l.val aY=V)(hlim:Keep.lim≤w.heap.size):CallsR Tryz.prog Inside 33 #[V,.int .i64 0,.int .i64 12] w S λv w' S'=>v=.tuple #[.agg #[.int .i64 35,.int .i64 0,.int .i64 160,.int .i64 195],.int .i64 0]∧dN w.heap.size w S w' S':=by
 subst hV;have h:=DW (S:=S) hbk jB hkd hlim (c:=0) (by decide) (day:=12) (by decide) (by decide);have e:=RD;simp only[Prod.mk.injEq]at e;rw[e.1,e.2.1,e.2.2,Iz]at h;exact h
theorem fJ{x y:Code}(h:∀w',eX w w'→x.wpIn Fz 0 Tryz.prog (λe a' w''=>CG (λa w S=>wpR Tryz.prog Inside y Q a w S) Q e a' w'' S) a w'):wpR Tryz.prog Inside (.seq x y) Q a w S:=UL fit h
theorem Qs{c:Code}(h:∀w',eX w w'→c.wpIn Fz 0 Tryz.prog (λe a' w''=>Q e a' w'' S) a w'):wpR Tryz.prog Inside c Q a w S:=J6 fit h
theorem bD{ops:Array Oper}{i:Nat}{rest:List Nat}{o:Oper}(ho:ops[i]?=some o)(hw:Region.wanted o (yielded ops a.tmps)=true)
  (h:∀w',eX w w'→o.wpIn Fz 0 Tryz.prog a w' (λa' w''=>pJ Tryz.prog Inside ops rest Q a' w'' S) (λ_ _ _=>False)):pJ Tryz.prog Inside ops (i::rest) Q a w S:=PZ fit ho hw h
theorem pK{ops:Array Oper}{i:Nat}{rest:List Nat}{o:Oper}{f:FuncId}{fn:Func}{body:Code}{args:Array Operand}{ats:Array TypeId}{R:Value→World→Blks→Prop}{vals:Array Value}
  (ho:ops[i]?=some o) (hw:Region.wanted o (yielded ops a.tmps)=true) (hop:o.op=.call { callee:=.value (.func f),args,argTypes:=ats }) (hf:Tryz.prog.funcs[f]?=some fn) (hname:(fn.name == "runtime.NumGoroutine")=false) (hb:fn.body=some body)
  (hargs:args.map a.eval=vals) (hcall:CallsR Tryz.prog Inside f vals w S R) (hnext:∀v w' S',R v w' S'→pJ Tryz.prog Inside ops rest Q (a.put o.dst v) w' S'):pJ Tryz.prog Inside ops (i::rest) Q a w S:=by
 subst hargs;exact xH fit ho hw hop hf hname hb hcall hnext
theorem QZ:Tryz.f33.body=some (Tryz.f33.body.getD .skip):=rfl
end
end
