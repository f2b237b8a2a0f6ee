/- A map with one entry: its operations in a walk; a range over it: inside the fence. -/
import Derived.Test.YtccjdkghgbbliaaGreatDoorA53
set_option linter.all false
namespace Go.Proofs.YtccjdkghgbbliaaGreatDoor
section
set_option maxHeartbeats 1000000
set_option maxRecDepth 10000
set_option maxHeartbeats 16000000
set_option maxRecDepth 100000
open Go Go.RowKit Lift Go.ChangeMaps Go.MapKept
section
variable {F:Fence} {n:Nat} {w:World} {o:Oper} {a:Act} {K:Act→World→Prop} {Q:Exit→Act→World→Prop} {M:Nat} {st:Array Value} {e:Bool} {v:Int} {l:Lit}
theorem BI(m x:Operand)(hop:o.op=.lookup 318 m x false)(hm:a.eval m=.map (some M))(hx:a.eval x=.agg st)(h:dW w M st e v)(hk:keyOf Tryz.prog 322 (.agg st)=some l)(hK:K (a.put o.dst (.int .i64 v)) w):o.wpIn F n Tryz.prog a w K Q:=by
 unfold Oper.wpIn;refine⟨by simp[Oper.about,hop],?_⟩;rw[Oper.semAt_eq _ _ _ (by rw[hop];intro c hc;cases hc)];simp[execOp,hop,hm,hx,Jk h hk,Result.andThen,Oper.uponIn];exact hK
theorem DN(m x:Operand)(hop:o.op=.mapEntry 318 m x)(hm:a.eval m=.map (some M))(hx:a.eval x=.agg st)(h:dW w M st e v)(hk:keyOf Tryz.prog 322 (.agg st)=some l)
  (hK:∀w',dW w' M st true v→w.grownBy w' (some M)→w'.heap.size=w.heap.size→K (a.put o.dst (.tuple #[.int .i64 v,.int .i64 0])) w'):o.wpIn F n Tryz.prog a w K Q:=by
 obtain⟨w',hr,h1,h2,h3⟩:=LM h hk;unfold Oper.wpIn;refine⟨by simp[Oper.about,hop],?_⟩;rw[Oper.semAt_eq _ _ _ (by rw[hop];intro c hc;cases hc)];simp[execOp,hop,hm,hx,hr,Result.andThen,Oper.uponIn];exact hK w' h1 h2 h3
theorem DR(m s x:Operand){v':Int}(hop:o.op=.entryStore 318 m s x)(hm:a.eval m=.map (some M))(hs:a.eval s=.int .i64 0)(hx:a.eval x=.int .i64 v')(h:dW w M st true v)
  (hK:∀w',dW w' M st true v'→w.grownBy w' (some M)→w'.heap.size=w.heap.size→K (a.put o.dst undef) w'):o.wpIn F n Tryz.prog a w K Q:=by
 obtain⟨w',hr,h1,h2,h3⟩:=LQ h v';unfold Oper.wpIn;refine⟨by simp[Oper.about,hop],?_⟩;rw[Oper.semAt_eq _ _ _ (by rw[hop];intro c hc;cases hc)];simp[execOp,hop,hm,hs,hx,hr,Result.andThen,Oper.uponIn];exact hK w' h1 h2 h3
end
def iD(w:World)(R M:Nat)(d:Bool):Prop:=w.heap[R]?=some (.mapIter (some M) 1 (if d then #[0]else #[]) 1)
section
variable {w:World} {R M:Nat} {d:Bool} {st:Array Value} {v:Int}
theorem iD.same{w':World}(h:iD w R M d)(hs:w'.heap[R]?=w.heap[R]?):iD w' R M d:=hs.trans h
theorem iD.lt(h:iD w R M d):R<w.heap.size:=(Array.getElem?_eq_some_iff.1 h).1
theorem LP(h:dW w M st true v):(Instr.range 318 (.map (some M))).run Tryz.prog w=.ok (.pointer (some ⟨w.heap.size,0,none⟩)) (w.alloc (.mapIter (some M) 1 #[] 1)):=by
 have hb:=h.at_;simp only[if_true]at hb;exact run_range_map w 318 322 3 M _ 1 CJ hb
theorem PN(h:dW w M st true v)(hi:iD w R M d)(ty:TypeId):(d=true∧(Instr.next (.pointer (some ⟨R,0,none⟩)) false ty).run Tryz.prog w=.ok (.tuple #[.bool false]) w)∨
  (d=false∧∃w',(Instr.next (.pointer (some ⟨R,0,none⟩)) false ty).run Tryz.prog w=.ok (.tuple #[.bool true,.agg st,.int .i64 v]) w'∧iD w' R M true∧dW w' M st true v∧w.grownBy w' (some R)∧w'.heap.size=w.heap.size):=by
 have hb:=h.at_;simp only[if_true]at hb;have hR:=hi.lt;have hne:M≠R:=λq=>by rw[q]at hb;unfold iD at hi;rw[hb]at hi;cases hi
 have hent:(ents st true v)=#[{ key:=.agg st,val:=.int .i64 v,born:=0 }]:=rfl;rw[hent]at hb;have hl1:(leftOf #[{ key:=.agg st,val:=.int .i64 v,born:=0 }] (if d then #[0]else #[])).toList=(if d then[]else[({ key:=.agg st,val:=.int .i64 v,born:=0 }:MapEntry)]):=by
  cases d<;>simp[leftOf]
 rcases run_next_at (P:=Tryz.prog) w ty R M 1 1 (if d then #[0]else #[]) _ 1 hi hb (by simp) (ak _)with⟨h0,hr⟩|⟨x,hx,w1,hw1,hr⟩
 ·refine .inl ⟨?_,hr⟩;cases d with
  |true=>rfl
  |false=>rw[← Array.length_toList,hl1]at h0;simp at h0
 ·cases d with
  |true=>rw[hl1]at hx;simp at hx
  |false=>
   rw[hl1]at hx;simp at hx;subst hx;refine .inr ⟨rfl,_,hr,?_,?_,?_,?_⟩
   ·unfold iD setBlock;rcases hw1 with rfl|rfl<;>simp[hR]
   ·refine h.same ?_;unfold setBlock;rcases hw1 with rfl|rfl<;>simp only<;>rw[aA (Ne.symm hne)]<;>rfl
   ·have:=lF w1 R (.mapIter (some M) 1 #[0] 1);rcases hw1 with rfl|rfl
    ·exact this
    ·exact⟨this.os,this.tape,this.output,this.size,this.block⟩
   ·rcases hw1 with rfl|rfl<;>simp[setBlock]<;>rfl
theorem many_at(h:dW w M st true v)(hi:iD w R M true):(Instr.entry (.pointer (some ⟨R,0,none⟩))).run Tryz.prog w=.ok (.tuple #[.agg st,.int .i64 v]) w:=by
 have hb:=h.at_;simp only[if_true]at hb;unfold iD at hi;simp[Instr.entry,getObj,Sem.run_bind,Sem.run,hi,hb,Result.andThen,ents]
variable {F:Fence} {n:Nat} {ops:Array Oper} {rest:List Oper} {o:Oper} {a:Act} {Q:Exit→Act→World→Prop}
theorem tH(hg:o.guard=none)(m:Operand)(hop:o.op=.range 318 m)(hm:a.eval m=.map (some M))(h:dW w M st true v)
  (hK:wpListIn F n Tryz.prog ops Q rest (a.put o.dst (.pointer (some ⟨w.heap.size,0,none⟩))) (w.alloc (.mapIter (some M) 1 #[] 1))):wpListIn F n Tryz.prog ops Q (o::rest) a w:=by
 refine wpListIn_plain hg λK' hK'=>?_;unfold Oper.wpIn;refine⟨by simp[Oper.about,hop],?_⟩;rw[Oper.semAt_eq _ _ _ (by rw[hop];intro c hc;cases hc)];simp[execOp,hop,hm,LP h,Result.andThen];exact hK' _ _ hK
theorem mO(hg:o.guard=none)(it:Operand)(hop:o.op=.next it false)(hit:a.eval it=.pointer (some ⟨R,0,none⟩))(h:dW w M st true v)(hi:iD w R M d)
  (hDone:d=true→wpListIn F n Tryz.prog ops Q rest (a.put o.dst (.tuple #[.bool false])) w)
  (hMore:d=false→∀w',iD w' R M true→dW w' M st true v→w.grownBy w' (some R)→w'.heap.size=w.heap.size→wpListIn F n Tryz.prog ops Q rest (a.put o.dst (.tuple #[.bool true,.agg st,.int .i64 v])) w'):wpListIn F n Tryz.prog ops Q (o::rest) a w:=by
 refine wpListIn_plain hg λK' hK'=>?_;unfold Oper.wpIn;refine⟨by simp[Oper.about,hop],?_⟩;rw[Oper.semAt_eq _ _ _ (by rw[hop];intro c hc;cases hc)];rcases PN h hi o.type with⟨hd,hr⟩|⟨hd,w',hr,h1,h2,h3,h4⟩
 ·simp[execOp,hop,hit,hr,Result.andThen];exact hK' _ _ (hDone hd)
 ·simp[execOp,hop,hit,hr,Result.andThen];exact hK' _ _ (hMore hd w' h1 h2 h3 h4)
end
end
section
set_option maxHeartbeats 1000000
set_option maxRecDepth 10000
set_option maxHeartbeats 64000000
set_option maxRecDepth 100000
open Go Go.RowKit Lift
theorem Cb{n:Nat}(hn:n≤6)(w:World):(Instr.makeSlice 28 (.int .i64 n) (.int .i64 n)).run Tryz.prog w=.ok (.slice (some ⟨w.heap.size,0,none⟩) n n) (w.alloc (.cells (Array.replicate n (.int .i64 0)) 3)):=by
 obtain⟨i0,hi,hz0,hz1,hz2⟩:=info_parts Tryz.AA;have:=run_make (P:=Tryz.prog) w 28 3 i0 _ Tryz.underlying28 hi hz0 .i64 .i64 n n (by omega) (Int.le_refl _) (by rw[hz2];omega) (by omega);rw[hz1]at this;have e:madeCells (Value.int IntKind.i64 0).cells (n * 1)=Array.replicate n (.int .i64 0):=by
  apply Array.ext_getElem?;intro k;by_cases hk:k<n
  ·simp[madeCells,Value.cells,hk,Nat.mod_one]
  ·rw[Array.getElem?_eq_none (by rw[size_madeCells];omega),Array.getElem?_eq_none (by simp;omega)]
 simp only[Int.toNat_natCast]at this;rw[e]at this;exact this
theorem runs_at(b:RV)(w:World):CallsIn Fz 0 Tryz.prog 200 #[.agg b.arr] w λe w'=>e=.returned (.func (.func 248) #[] #[.pointer (some ⟨w.heap.size,0,none⟩)])∧w'=w.alloc (.cells b.arr 252):=by
 gi_enter Tryz.func200,Tryz.ntmps200
 gi_wp2;go_ret;exact⟨rfl,rfl⟩
def Nums(cur:Array Value)(n:Nat):Prop:=cur.size=n∧∀j,j<n→∃x:Int,cur[j]?=some (.int .i64 x)
theorem Nums.put{cur:Array Value}{n:Nat}(h:Nums cur n)(j:Nat)(x:Int):Nums (cur.setIfInBounds j (.int .i64 x)) n:=
 ⟨by simpa using h.1,λi hi=>by
  by_cases e:j=i
  ·subst e;exact⟨x,Array.getElem?_setIfInBounds_self_of_lt (by rw[h.1];exact hi)⟩
  ·obtain⟨y,hy⟩:=h.2 i hi;exact⟨y,by rw[aA e];exact hy⟩⟩
structure QS where
 X:Nat
 M:Nat
 A4:Nat
 V:Nat
 A5:Nat
 A6:Nat
 X2:Nat
structure nD (N:Nat) (b:RV) (w:World) (p:QS) (ka km:Nat) (e:Bool) (W:World):Prop where
 bel:Below w.heap.size w W
 hN:N≤w.heap.size
 o0:w.heap.size≤p.X
 o1:p.X<p.M
 o2:p.M<p.A4
 o3:p.A4<p.V
 o4:p.V<p.A5
 o5:p.A5<p.A6
 o6:p.A6<p.X2
 bk:nP N b W
 x:Blk W p.X 252 b.arr
 many:dW W p.M (stS b.cs.isEmpty b.rights.length) e km
 mv:Blk W p.A4 318 #[.map (some p.M)]
 won:∃cur,Blk W p.V 3 cur∧Nums cur b.cs.length
 wv:Blk W p.A5 28 #[.slice (some ⟨p.V,0,none⟩) b.cs.length b.cs.length]
 all:Blk W p.A6 3 #[.int .i64 ka]
 x2:Blk W p.X2 252 b.arr
section
variable {N:Nat} {b:RV} {w W W':World} {p:QS} {ka km:Nat} {e:Bool}
theorem nD.below(h:nD N b w p ka km e W)(hb:Below W.heap.size W W'):nD N b w p ka km e W':=
 let ⟨cur,c1,c2⟩:=h.won
 ⟨h.bel.trans (hb.mono h.bel.size),h.hN,h.o0,h.o1,h.o2,h.o3,h.o4,h.o5,h.o6,h.bk.below (hb.mono h.bk.hN),h.x.below hb,h.many.same (hb.block _ h.many.lt),h.mv.below hb,⟨cur,c1.below hb,c2⟩,h.wv.below hb,h.all.below hb,h.x2.below hb⟩
theorem nD.Rk{C:Nat}(h:nD N b w p ka km e W)(hb:Below C W W')(hC:p.X2<C):nD N b w p ka km e W':=by
 obtain⟨h1,h2,o0,o1,o2,o3,o4,o5,o6,hk,hx,hm,hmv,⟨cur,c1,c2⟩,hwv,hall,hx2⟩:=h;have hs:∀{B:Nat} {t:TypeId} {c:Array Value},Blk W B t c→B<C→Blk W' B t c:=λhB hlt=>(hb.block _ hlt).trans hB;exact⟨h1.trans (hb.mono (by omega)),h2,o0,o1,o2,o3,o4,o5,o6,hk.below (hb.mono (by omega)),hs hx (by omega),hm.same (hb.block _ (by omega)),hs hmv (by omega),⟨cur,hs c1 (by omega),c2⟩,hs hwv (by omega),hs hall (by omega),hs hx2 (by omega)⟩
theorem nD.count(h:nD N b w p ka km e W)(ka':Nat):nD N b w p ka' km e (W.setCell ⟨p.A6,0,none⟩ (.int .i64 ka')):=by
 obtain⟨h1,h2,o0,o1,o2,o3,o4,o5,o6,hk,hx,hm,hmv,⟨cur,c1,c2⟩,hwv,hall,hx2⟩:=h;have hbb:=h1.setCell (p:=⟨p.A6,0,none⟩) (show w.heap.size≤p.A6 by omega) (.int .i64 ka');refine⟨hbb,h2,o0,o1,o2,o3,o4,o5,o6,hk.below ((Below.refl N W).setCell (p:=⟨p.A6,0,none⟩) (show N≤p.A6 by omega) _),hx.set (by omega) _,hm.same (Below.heap_setCell W ⟨p.A6,0,none⟩ _ _ (show p.M≠p.A6 by omega)),hmv.set (by omega) _,⟨cur,c1.set (by omega) _,c2⟩,hwv.set (by omega) _,hall.put 0 _,hx2.set (by omega) _⟩
theorem nD.turn{km':Nat}{e':Bool}(h:nD N b w p ka km e W)(hg:W.grownBy W' (some p.M))(hm':dW W' p.M (stS b.cs.isEmpty b.rights.length) e' km'):nD N b w p ka km' e' W':=by
 obtain⟨h1,h2,o0,o1,o2,o3,o4,o5,o6,hk,hx,hm,hmv,⟨cur,c1,c2⟩,hwv,hall,hx2⟩:=h;have hbb:=h1.grown hg h1.size (λr q=>by cases q;omega);have hs:∀{B:Nat} {t:TypeId} {c:Array Value},Blk W B t c→B≠p.M→Blk W' B t c:=λhB hne=>(hg.block _ hB.lt (λq=>hne (by cases q;rfl))).trans hB;exact⟨hbb,h2,o0,o1,o2,o3,o4,o5,o6,hk.below ((Below.refl N W).grown hg hk.hN (λr q=>by cases q;omega)),hs hx (by omega),hm',hs hmv (by omega),⟨cur,hs c1 (by omega),c2⟩,hs hwv (by omega),hs hall (by omega),hs hx2 (by omega)⟩
theorem nD.put(h:nD N b w p ka km e W)(j:Nat)(x:Int):nD N b w p ka km e (W.setCell ⟨p.V,j,none⟩ (.int .i64 x)):=by
 obtain⟨h1,h2,o0,o1,o2,o3,o4,o5,o6,hk,hx,hm,hmv,⟨cur,c1,c2⟩,hwv,hall,hx2⟩:=h;have hbb:=h1.setCell (p:=⟨p.V,j,none⟩) (show w.heap.size≤p.V by omega) (.int .i64 x);refine⟨hbb,h2,o0,o1,o2,o3,o4,o5,o6,hk.below ((Below.refl N W).setCell (p:=⟨p.V,j,none⟩) (show N≤p.V by omega) _),hx.set (by omega) _,hm.same (Below.heap_setCell W ⟨p.V,j,none⟩ _ _ (show p.M≠p.V by omega)),hmv.set (by omega) _,⟨_,c1.put j _,c2.put j x⟩,hwv.set (by omega) _,hall.set (by omega) _,hx2.set (by omega) _⟩
end
end
section
set_option maxHeartbeats 1000000
set_option maxRecDepth 10000
set_option maxHeartbeats 16000000
set_option maxRecDepth 100000
open Go Go.RowKit Lift
theorem RP(w:World){xs ys:Array Value}{la lb:Lit}(ha:keyOf Tryz.prog 322 (.agg xs)=some la)(hb:keyOf Tryz.prog 322 (.agg ys)=some lb):∃r:Bool,(binOp .eql 322 (.agg xs) (.agg ys)).run Tryz.prog w=.ok (.bool r) w∧(r=true↔xs=ys):=by
 obtain⟨r,h1,h2⟩:=run_equal_deep w (m:=2) (by decide) (k:=322) (by kernel_rfl) (by kernel_rfl) ha hb;refine⟨r,?_,h2.trans ⟨λe=>?_,λe=>?_⟩⟩
 ·rw[run_eql_struct];have:(Op.equalIn 10000 322 (.agg xs) (.agg ys)).run Tryz.prog w=.ok r w:=h1;rw[this];rfl
 ·subst e;have:=ou.inj ha hb;injection this
 ·subst e;rw[ha]at hb;injection hb
theorem rX(w:World)(a b c d e f:Bool):(binOp .eql 322 (.agg (six a b c d e f)) (.agg (six a b c d e f))).run Tryz.prog w=.ok (.bool true) w:=by
 obtain⟨l,hl⟩:=Gl a b c d e f;obtain⟨r,h1,h2⟩:=RP w hl hl;rw[h1,h2.2 rfl]
theorem eql_no(w:World){a a':Bool}(h:a≠a')(b c d e f:Bool):(binOp .eql 322 (.agg (six a b c d e f)) (.agg (six a' b c d e f))).run Tryz.prog w=.ok (.bool false) w:=by
 obtain⟨l,hl⟩:=Gl a b c d e f;obtain⟨l',hl'⟩:=Gl a' b c d e f;obtain⟨r,h1,h2⟩:=RP w hl hl';cases r
 ·exact h1
 ·have:=h2.1 rfl;simp[six]at this;exact absurd this h
end
section
set_option maxHeartbeats 1000000
set_option maxRecDepth 10000
set_option maxHeartbeats 64000000
set_option maxRecDepth 100000
open Go Go.RowKit Lift
attribute [local go_sem] Oper.semAt_some
structure W7r (N:Nat) (b:RV) (w:World) (p:QS) (k B0 C0:Nat) (run:Array Value) (W6:World) (D:Nat→Bool) (x:Tmp→Value) (w':World):Prop where
 c43:D 4=true→D 3=true
 c74:D 7=true→D 4=true
 c76:D 7=true→D 6=true
 c65:D 6=true→D 5=true
 at_:nD N b w p (k+1) (if D 7 then k+1 else k) (decide (0<k)||D 5) w'
 run:Blk w' B0 324 run
 keep:aT C0 W6 w'
section
variable {N:Nat} {b:RV} {w:World} {p:QS} {k B0 C0 i:Nat} {run:Array Value} {W6:World} {D:Nat→Bool} {x:Tmp→Value} {w' w'':World}
theorem W7r.n7(h:W7r N b w p k B0 C0 run W6 D x w')(hi:D 4=false∨D 3=false∨D 5=false∨D 6=false):D 7=false:=by
 cases q:D 7
 ·rfl
 ·have q4:=h.c74 q;have q3:=h.c43 q4;have q6:=h.c76 q;have q5:=h.c65 q6;rw[q3,q4,q5,q6]at hi;simp at hi
theorem W7r.no7(h:W7r N b w p k B0 C0 run W6 D x w')(d7:D 7=false):dW w' p.M (stS b.cs.isEmpty b.rights.length) (decide (0<k)||D 5) k:=by
 have:=h.at_.many;rw[d7]at this;exact this
theorem W7r.yes5(h:W7r N b w p k B0 C0 run W6 D x w')(d5:D 5=true)(d7:D 7=false):dW w' p.M (stS b.cs.isEmpty b.rights.length) true k:=by
 have:=h.no7 d7;rw[d5,Bool.or_true]at this;exact this
theorem W7r.step(h:W7r N b w p k B0 C0 run W6 D x w')(h5:i≠5)(h7:i≠7)(h3:i≠7)(h4:i=4→D 3=true)(h6:i=6→D 5=true):W7r N b w p k B0 C0 run W6 (aX D i) x w':=by
 have e5:=dS (D:=D) h5;have e7:=dS (D:=D) h7;have mo:∀j,D j=true→aX D i j=true:=λj hj=>by simp[aX,hj]
 refine⟨λq=>?_,λq=>?_,λq=>?_,λq=>?_,by rw[e5,e7];exact h.at_,h.run,h.keep⟩
 ·simp only[aX,Bool.or_eq_true,beq_iff_eq]at q;rcases q with q|q
  ·exact mo _ (h.c43 q)
  ·exact mo _ (h4 q.symm)
 ·rw[e7]at q;exact mo _ (h.c74 q)
 ·rw[e7]at q;exact mo _ (h.c76 q)
 ·simp only[aX,Bool.or_eq_true,beq_iff_eq]at q;rcases q with q|q
  ·exact mo _ (h.c65 q)
  ·exact mo _ (h6 q.symm)
theorem W7r.turnB(h:W7r N b w p k B0 C0 run W6 D x w')(hg:w'.grownBy w'' (some p.M))(hB:B0≠p.M)(hC:p.M<C0):Blk w'' B0 324 run∧aT C0 W6 w'':=
 ⟨(hg.block _ h.run.lt (λe=>hB (by cases e;rfl))).trans h.run,h.keep.trans (aT.grown hg (λr e=>by cases e;exact hC))⟩
theorem W7r.five(h:W7r N b w p k B0 C0 run W6 D x w')(hB:B0≠p.M)(hC:p.M<C0)(d7:D 7=false)(hm:dW w'' p.M (stS b.cs.isEmpty b.rights.length) true k)(hg:w'.grownBy w'' (some p.M)):W7r N b w p k B0 C0 run W6 (aX D 5) x w'':=by
 obtain⟨t1,t2⟩:=h.turnB hg hB hC;have e7:=dS (D:=D) (show 5≠7 by decide);have mo:∀j,D j=true→aX D 5 j=true:=λj hj=>by simp[aX,hj]
 refine⟨λq=>?_,λq=>(by rw[e7,d7]at q;cases q),λq=>(by rw[e7,d7]at q;cases q),λ_=>by simp[aX],?_,t1,t2⟩
 ·rw[dS (by decide)]at q ⊢;exact h.c43 q
 ·rw[e7,d7];have:(decide (0<k)||aX D 5 5)=true:=by simp[aX]
  rw[this];have ha:=h.at_;exact ha.turn hg hm
theorem W7r.seven(h:W7r N b w p k B0 C0 run W6 D x w')(hB:B0≠p.M)(hC:p.M<C0)(d4:D 4=true)(d6:D 6=true)(hm:dW w'' p.M (stS b.cs.isEmpty b.rights.length) true ((k+1:Nat):Int))(hg:w'.grownBy w'' (some p.M)):W7r N b w p k B0 C0 run W6 (aX D 7) x w'':=by
 obtain⟨t1,t2⟩:=h.turnB hg hB hC;have mo:∀j,D j=true→aX D 7 j=true:=λj hj=>by simp[aX,hj]
 have d5:=h.c65 d6;refine⟨λ_=>mo _ (h.c43 d4),λ_=>mo _ d4,λ_=>mo _ d6,λ_=>mo _ d5,?_,t1,t2⟩;have:(decide (0<k)||aX D 7 5)=true:=by rw[mo 5 d5,Bool.or_true]
 rw[this,show(if aX D 7 7 then k+1 else k)=k+1 by simp[aX]];have ha:=h.at_;exact ha.turn hg hm
theorem W7r.all(h:W7r N b w p k B0 C0 run W6 D x w')(d5:D 5=true)(d7:D 7=true):nD N b w p (k+1) (k+1) true w':=by
 have:=h.at_;rw[d5,d7,Bool.or_true]at this;exact this
end
def AO(w:World)(R:Nat):Nat:=match w.heap[R]? with
 |some (.mapIter _ _ seen _)=>1-seen.size
 |_=>0
theorem yE{w:World}{R M:Nat}{d:Bool}(h:iD w R M d):AO w R=if d then 0 else 1:=by
 unfold AO iD at *;rw[h];cases d<;>rfl
theorem qR{w:World}{b n sz:Nat}{ty:TypeId}{v:Value}{xs:List Value}(h:w.ownsRow b ty sz v n xs):∃base cap,v=.slice base n cap:=by
 rcases h.2 with⟨rfl,rfl⟩|⟨g,cap,cur,rfl,_⟩
 ·exact⟨none,0,rfl⟩
 ·exact⟨_,cap,rfl⟩
theorem sayAny2(y:Int)(k:Nat)(w:World):CallsIn Fz 0 Tryz.prog 201 #[.int .i64 y,.int .i64 k] w λe w'=>(∃i:Int,e=.returned (.int .i64 i))∧w'=w:=by
 gi_enter Tryz.func201,Tryz.ntmps201
 gi_wp2
 all_goals (go_ret;exact⟨⟨_,rfl⟩,rfl⟩)
theorem UC:Tryz.prog.underlying 164=some (.slice 94):=by kernel_rfl
theorem Tv:(Tryz.prog.info? 94).map (λi=>(i.zero,i.size,i.bytes))=some (some (.int .i64 0),1,8):=by kernel_rfl
theorem uY:∃i,Tryz.prog.info? 94=some i∧i.zero=some (.int .i64 0)∧i.size=1∧i.bytes=8:=info_parts Tv
theorem Na(v:Value):∃a n c,sliceOf v=.slice a n c:=by
 cases v<;>exact⟨_,_,_,rfl⟩
def Le(b:RV)(w:World)(Bx:Nat)(rx:Array Value):Act:=⟨#[.agg b.arr,.pointer (some ⟨w.heap.size,0,none⟩),.slice none 0 0,.slice none 0 0,.pointer (some ⟨w.heap.size+1+1,0,none⟩),.pointer (some ⟨w.heap.size+1+1+1+1,0,none⟩),.pointer (some ⟨w.heap.size+1+1+1+1+1,0,none⟩),.pointer (some ⟨Bx,0,none⟩),undef,undef,undef,undef,undef,undef,undef,undef,.map (some (w.heap.size+1)),.pointer (some ⟨w.heap.size,0,none⟩),.pointer (some ⟨w.heap.size,1,none⟩),.slice b.ca b.cs.length b.cc,.int .i64 b.cs.length,.slice (some ⟨w.heap.size+1+1+1,0,none⟩) b.cs.length b.cs.length,.agg b.arr,.func (.func 248) #[] #[.pointer (some ⟨w.heap.size+1+1+1+1+1+1,0,none⟩)],.agg rx,undef,undef,undef,undef,undef,undef,undef,undef,undef,undef,undef,undef,undef,undef,undef,undef,undef,undef,undef,undef,undef,undef,undef,undef,undef,undef,undef,undef,undef,undef,undef,undef,undef,undef,undef,undef,undef,undef,undef,undef,undef,undef,undef,undef,undef,undef,undef,undef,undef,undef,undef,undef,undef,undef,undef,undef,undef,undef,undef,undef,undef,undef,undef,undef,undef,undef,undef,undef,undef,undef,undef],[]⟩
theorem O6{N:Nat}{b:RV}{w:World}(h:nP N b w):nD N b w ⟨w.heap.size,w.heap.size+1,w.heap.size+1+1,w.heap.size+1+1+1,w.heap.size+1+1+1+1,w.heap.size+1+1+1+1+1,w.heap.size+1+1+1+1+1+1⟩ 0 0 false (((((((w.alloc (.cells b.arr 252)).alloc (.map #[] 0)).alloc (.cells #[.map (some (w.heap.size+1))] 318)).alloc (.cells (Array.replicate b.cs.length (.int .i64 0)) 3)).alloc (.cells #[.slice (some ⟨w.heap.size+1+1+1,0,none⟩) b.cs.length b.cs.length] 28)).alloc (.cells #[.int .i64 0] 3)).alloc (.cells b.arr 252)):=by
 have hN:=h.hN;have hb:Below w.heap.size w (((((((w.alloc (.cells b.arr 252)).alloc (.map #[] 0)).alloc (.cells #[.map (some (w.heap.size+1))] 318)).alloc (.cells (Array.replicate b.cs.length (.int .i64 0)) 3)).alloc (.cells #[.slice (some ⟨w.heap.size+1+1+1,0,none⟩) b.cs.length b.cs.length] 28)).alloc (.cells #[.int .i64 0] 3)).alloc (.cells b.arr 252)):=(((((((Below.refl _ w).alloc (ak _) _).alloc (by simp) _).alloc (by simp;omega) _).alloc (by simp;omega) _).alloc (by simp;omega) _).alloc (by simp;omega) _).alloc (by simp;omega) _;have tail:∀(V:World) (o:Obj),Below V.heap.size V (V.alloc o):=λV o=>(Below.refl _ V).alloc (ak _) o;have hX:=((((((Blk.new w b.arr 252).below (tail (w.alloc (.cells b.arr 252)) (.map #[] 0))).below (tail ((w.alloc (.cells b.arr 252)).alloc (.map #[] 0)) (.cells #[.map (some (w.heap.size+1))] 318))).below (tail (((w.alloc (.cells b.arr 252)).alloc (.map #[] 0)).alloc (.cells #[.map (some (w.heap.size+1))] 318)) (.cells (Array.replicate b.cs.length (.int .i64 0)) 3))).below (tail ((((w.alloc (.cells b.arr 252)).alloc (.map #[] 0)).alloc (.cells #[.map (some (w.heap.size+1))] 318)).alloc (.cells (Array.replicate b.cs.length (.int .i64 0)) 3)) (.cells #[.slice (some ⟨w.heap.size+1+1+1,0,none⟩) b.cs.length b.cs.length] 28))).below (tail (((((w.alloc (.cells b.arr 252)).alloc (.map #[] 0)).alloc (.cells #[.map (some (w.heap.size+1))] 318)).alloc (.cells (Array.replicate b.cs.length (.int .i64 0)) 3)).alloc (.cells #[.slice (some ⟨w.heap.size+1+1+1,0,none⟩) b.cs.length b.cs.length] 28)) (.cells #[.int .i64 0] 3))).below (tail ((((((w.alloc (.cells b.arr 252)).alloc (.map #[] 0)).alloc (.cells #[.map (some (w.heap.size+1))] 318)).alloc (.cells (Array.replicate b.cs.length (.int .i64 0)) 3)).alloc (.cells #[.slice (some ⟨w.heap.size+1+1+1,0,none⟩) b.cs.length b.cs.length] 28)).alloc (.cells #[.int .i64 0] 3)) (.cells b.arr 252));have hM0:((w.alloc (.cells b.arr 252)).alloc (.map #[] 0)).heap[w.heap.size+1]?=some (.map #[] 0):=by
  have:=World.alloc_heap_new (w.alloc (.cells b.arr 252)) (.map #[] 0);simpa using this
 have hM:(((((((w.alloc (.cells b.arr 252)).alloc (.map #[] 0)).alloc (.cells #[.map (some (w.heap.size+1))] 318)).alloc (.cells (Array.replicate b.cs.length (.int .i64 0)) 3)).alloc (.cells #[.slice (some ⟨w.heap.size+1+1+1,0,none⟩) b.cs.length b.cs.length] 28)).alloc (.cells #[.int .i64 0] 3)).alloc (.cells b.arr 252)).heap[w.heap.size+1]?=some (.map #[] 0):=by
  rw[Below.heap_alloc _ _ _ (by simp),Below.heap_alloc _ _ _ (by simp),Below.heap_alloc _ _ _ (by simp),Below.heap_alloc _ _ _ (by simp),Below.heap_alloc _ _ _ (by simp)];exact hM0
 have Ku:=(((((Blk.new ((w.alloc (.cells b.arr 252)).alloc (.map #[] 0)) #[.map (some (w.heap.size+1))] 318).below (tail (((w.alloc (.cells b.arr 252)).alloc (.map #[] 0)).alloc (.cells #[.map (some (w.heap.size+1))] 318)) (.cells (Array.replicate b.cs.length (.int .i64 0)) 3))).below (tail ((((w.alloc (.cells b.arr 252)).alloc (.map #[] 0)).alloc (.cells #[.map (some (w.heap.size+1))] 318)).alloc (.cells (Array.replicate b.cs.length (.int .i64 0)) 3)) (.cells #[.slice (some ⟨w.heap.size+1+1+1,0,none⟩) b.cs.length b.cs.length] 28))).below (tail (((((w.alloc (.cells b.arr 252)).alloc (.map #[] 0)).alloc (.cells #[.map (some (w.heap.size+1))] 318)).alloc (.cells (Array.replicate b.cs.length (.int .i64 0)) 3)).alloc (.cells #[.slice (some ⟨w.heap.size+1+1+1,0,none⟩) b.cs.length b.cs.length] 28)) (.cells #[.int .i64 0] 3))).below (tail ((((((w.alloc (.cells b.arr 252)).alloc (.map #[] 0)).alloc (.cells #[.map (some (w.heap.size+1))] 318)).alloc (.cells (Array.replicate b.cs.length (.int .i64 0)) 3)).alloc (.cells #[.slice (some ⟨w.heap.size+1+1+1,0,none⟩) b.cs.length b.cs.length] 28)).alloc (.cells #[.int .i64 0] 3)) (.cells b.arr 252)))
 have hV:=((((Blk.new (((w.alloc (.cells b.arr 252)).alloc (.map #[] 0)).alloc (.cells #[.map (some (w.heap.size+1))] 318)) (Array.replicate b.cs.length (.int .i64 0)) 3).below (tail ((((w.alloc (.cells b.arr 252)).alloc (.map #[] 0)).alloc (.cells #[.map (some (w.heap.size+1))] 318)).alloc (.cells (Array.replicate b.cs.length (.int .i64 0)) 3)) (.cells #[.slice (some ⟨w.heap.size+1+1+1,0,none⟩) b.cs.length b.cs.length] 28))).below (tail (((((w.alloc (.cells b.arr 252)).alloc (.map #[] 0)).alloc (.cells #[.map (some (w.heap.size+1))] 318)).alloc (.cells (Array.replicate b.cs.length (.int .i64 0)) 3)).alloc (.cells #[.slice (some ⟨w.heap.size+1+1+1,0,none⟩) b.cs.length b.cs.length] 28)) (.cells #[.int .i64 0] 3))).below (tail ((((((w.alloc (.cells b.arr 252)).alloc (.map #[] 0)).alloc (.cells #[.map (some (w.heap.size+1))] 318)).alloc (.cells (Array.replicate b.cs.length (.int .i64 0)) 3)).alloc (.cells #[.slice (some ⟨w.heap.size+1+1+1,0,none⟩) b.cs.length b.cs.length] 28)).alloc (.cells #[.int .i64 0] 3)) (.cells b.arr 252)))
 have Dl:=(((Blk.new ((((w.alloc (.cells b.arr 252)).alloc (.map #[] 0)).alloc (.cells #[.map (some (w.heap.size+1))] 318)).alloc (.cells (Array.replicate b.cs.length (.int .i64 0)) 3)) #[.slice (some ⟨w.heap.size+1+1+1,0,none⟩) b.cs.length b.cs.length] 28).below (tail (((((w.alloc (.cells b.arr 252)).alloc (.map #[] 0)).alloc (.cells #[.map (some (w.heap.size+1))] 318)).alloc (.cells (Array.replicate b.cs.length (.int .i64 0)) 3)).alloc (.cells #[.slice (some ⟨w.heap.size+1+1+1,0,none⟩) b.cs.length b.cs.length] 28)) (.cells #[.int .i64 0] 3))).below (tail ((((((w.alloc (.cells b.arr 252)).alloc (.map #[] 0)).alloc (.cells #[.map (some (w.heap.size+1))] 318)).alloc (.cells (Array.replicate b.cs.length (.int .i64 0)) 3)).alloc (.cells #[.slice (some ⟨w.heap.size+1+1+1,0,none⟩) b.cs.length b.cs.length] 28)).alloc (.cells #[.int .i64 0] 3)) (.cells b.arr 252)))
 have hA6:=((Blk.new (((((w.alloc (.cells b.arr 252)).alloc (.map #[] 0)).alloc (.cells #[.map (some (w.heap.size+1))] 318)).alloc (.cells (Array.replicate b.cs.length (.int .i64 0)) 3)).alloc (.cells #[.slice (some ⟨w.heap.size+1+1+1,0,none⟩) b.cs.length b.cs.length] 28)) #[.int .i64 0] 3).below (tail ((((((w.alloc (.cells b.arr 252)).alloc (.map #[] 0)).alloc (.cells #[.map (some (w.heap.size+1))] 318)).alloc (.cells (Array.replicate b.cs.length (.int .i64 0)) 3)).alloc (.cells #[.slice (some ⟨w.heap.size+1+1+1,0,none⟩) b.cs.length b.cs.length] 28)).alloc (.cells #[.int .i64 0] 3)) (.cells b.arr 252)))
 have hX2:=Blk.new ((((((w.alloc (.cells b.arr 252)).alloc (.map #[] 0)).alloc (.cells #[.map (some (w.heap.size+1))] 318)).alloc (.cells (Array.replicate b.cs.length (.int .i64 0)) 3)).alloc (.cells #[.slice (some ⟨w.heap.size+1+1+1,0,none⟩) b.cs.length b.cs.length] 28)).alloc (.cells #[.int .i64 0] 3)) b.arr 252;simp only[World.size_alloc]at Ku hV Dl hA6 hX2;exact⟨hb,hN,ak _,Nat.lt_succ_self _,Nat.lt_succ_self _,Nat.lt_succ_self _,Nat.lt_succ_self _,Nat.lt_succ_self _,Nat.lt_succ_self _,h.below (hb.mono hN),hX,⟨by simpa[ents]using hM,λ_=>rfl⟩,Ku,⟨_,hV,by simp,λj hj=>⟨0,by simp[hj]⟩⟩,Dl,hA6,hX2⟩
theorem SA{N:Nat}{b:RV}{w:World}(hO:b.Ok)(h:nP N b w):CallsIn Fz 1 Tryz.prog 130 #[.agg b.arr] w λr w'=>(∃(R c:Nat) (vc:Value),r=.returned (.tuple #[.slice (some ⟨R,0,none⟩) b.rights.length c,vc])∧R<w'.heap.size∧w'.cell? ⟨R,0,none⟩=some (.int .i64 (sayOf b.cs.length)))∧Below w.heap.size w w':=by
 refine callsIn_of_wp_marks Tryz.func130 rfl (by simp) ?_ rfl;simp only[Tryz.ntmps130,aG,aC,aF,Nat.reduceAdd,Nat.reduceSub,Array.replicate_succ,Array.replicate_zero,List.push_toArray,List.append_toArray,List.nil_append,List.cons_append];have c5:=hO.c5;have hmm:=@run_makeMap Tryz.prog;have hmk:=λw=>Cb (n:=b.cs.length) (by omega) w;have hrun:=λw=>runs_at b w;have hI:=O6 h;have hp6:6 ^ b.cs.length≤7776:=by
  have:6 ^ b.cs.length≤6 ^ 5:=Nat.pow_le_pow_right (by omega) c5;omega
 gi_wp2_with (gi_at_call 200;refine(hrun _).mono ?_;rintro e w2 ⟨rfl,rfl⟩)
 obtain⟨p,hp⟩:∃p:QS,p=⟨w.heap.size,w.heap.size+1,w.heap.size+1+1,w.heap.size+1+1+1,w.heap.size+1+1+1+1,w.heap.size+1+1+1+1+1,w.heap.size+1+1+1+1+1+1⟩:=⟨_,rfl⟩
 rw[← hp]at hI;obtain⟨W0,hW0⟩:∃W0:World,W0=(((((((w.alloc (.cells b.arr 252)).alloc (.map #[] 0)).alloc (.cells #[.map (some (w.heap.size+1))] 318)).alloc (.cells (Array.replicate b.cs.length (.int .i64 0)) 3)).alloc (.cells #[.slice (some ⟨w.heap.size+1+1+1,0,none⟩) b.cs.length b.cs.length] 28)).alloc (.cells #[.int .i64 0] 3)).alloc (.cells b.arr 252)):=⟨_,rfl⟩
 have hsz:W0.heap.size=w.heap.size+1+1+1+1+1+1+1:=by rw[hW0];simp
 rw[← hW0]at hI
 (try simp only[World.size_alloc])
 rw[← hW0];have HP:=Lib.hid hp;clear hW0 hrun hmk hp
 refine tq rfl (ak 1) (gf:=248) (lb:=#[.pointer (some ⟨w.heap.size+1+1+1+1+1+1,0,none⟩)]) rfl (by simp) (enters_of Tryz.func248 (by kernel_rfl) rfl)
  (Un hO (show N≤w.heap.size+1+1+1+1+1+1 by have:=h.hN;omega)) (λ_=>rfl)
  (λk W=>nD N b w p k k (decide (0<k)) W) (λk A B hs hi hb=>?abide) (λk A hi=>⟨hi.bk,by have:=hi.x2;rw[HP.out]at this;exact this⟩) (by simpa using hI)
  (λk a' W W'=>∃(ra:Option Addr) (rn rc:Nat) (z:Int),a'=Le b w W.heap.size (pW (.slice ra rn rc) b.cs.isEmpty b.rights.length z)∧nD N b w p k k (decide (0<k)) W'∧Blk W' W.heap.size 324 (pW (.slice ra rn rc) b.cs.isEmpty b.rights.length z))
  (λk a' W W' l o hl1 hl2 hB=>?loopput) ?assign ?body ?done
 case abide=>
  have hx2:=hi.x2.lt;have ho:=hi.o6;have e6:p.X2=w.heap.size+1+1+1+1+1+1:=by rw[HP.out]
  have hW:=hb.size;refine hi.Rk hb (by omega)
 case loopput=>
  obtain⟨ra,rn,rc,z,e1,e2,e3⟩:=hB;have e6:p.X2=w.heap.size+1+1+1+1+1+1:=by rw[HP.out]
  refine⟨ra,rn,rc,z,e1,e2.Rk (oZ W' o (Nat.le_trans (by omega) (Nat.le_trans (Nat.le_of_lt (Nat.lt_of_le_of_lt hl1 hl2)) ?_)) hl1) (by omega),(World.putObj_heap_other (by omega)).trans e3⟩;have:=e3.lt;omega
 case assign=>
  intro l k o W hk hi hs;obtain⟨ra,rn,rc,hso⟩:=Na (Ij o 0);have he:encR b.cs.isEmpty b.rights.length o=#[.agg #[.slice ra rn rc,.bool (b.cs.isEmpty&&decide (0<b.rights.length)),.bool (decide (1<b.rights.length)),.bool (decide (2<b.rights.length)),.bool (decide (3<b.rights.length)),.bool (decide (4<b.rights.length)),.bool (decide (5<b.rights.length)),.int .i64 (intOf (Ij o 1))]]:=by unfold encR;rw[hso]
  generalize intOf (Ij o 1)=z at he;clear hso;rw[he];clear he;gi_wp2;refine⟨aT.alloc _ _ _,ra,rn,rc,z,by unfold Le;rfl,hi.below ((Below.refl _ W).alloc (ak _) _),Blk.new _ _ _⟩
 case body=>
  rintro l k a' W W' hk hs1 hs2 ⟨ra,rn,rc,z,rfl,hI,hx⟩;have hp:=HP.out;subst hp;simp only[Le];clear HP;have hkb:(k:Int)≤7776:=by omega
  have a0:=hI.all.cell 0;have f0:=hI.all.frozen 0;have lA:=hI.all.lt;simp at a0 f0 lA;have hI6:=hI.count (k+1);have hx6:=hx.set (g:=w.heap.size+1+1+1+1+1) (j:=0) (by omega) (.int .i64 ((k+1:Nat):Int));have hK6:aT W0.heap.size W' (W'.setCell ⟨w.heap.size+1+1+1+1+1,0,none⟩ (.int .i64 ((k+1:Nat):Int))):=aT.setCell _ _ _ (by simp;omega);have hcast:((k+1:Nat):Int)=(k:Int)+1:=rfl;simp only at hI6;rw[hcast]at hI6 hx6 hK6;gi_wp2;clear a0 f0 lA hI hx hcast;generalize W'.setCell ⟨w.heap.size+1+1+1+1+1,0,none⟩ (.int .i64 ((k:Int)+1))=W6 at *;obtain⟨kl,hkey⟩:=Gl (b.cs.isEmpty&&decide (0<b.rights.length)) (decide (1<b.rights.length)) (decide (2<b.rights.length)) (decide (3<b.rights.length)) (decide (4<b.rights.length)) (decide (5<b.rights.length));refine kC (by kernel_rfl) mixed (by kernel_rfl) (W7r N b w ⟨w.heap.size,w.heap.size+1,w.heap.size+1+1,w.heap.size+1+1+1,w.heap.size+1+1+1+1,w.heap.size+1+1+1+1+1,w.heap.size+1+1+1+1+1+1⟩ k W.heap.size W0.heap.size (pW (.slice ra rn rc) b.cs.isEmpty b.rights.length z) W6) [] (x₀:=λ_=>undef) (λg hg=>by cases hg) ⟨λq=>Bool.noConfusion q,λq=>Bool.noConfusion q,λq=>Bool.noConfusion q,λq=>Bool.noConfusion q,by simp only[Bool.or_false,Bool.false_eq_true,if_false];exact hI6.below ⟨rfl,rfl,rfl,ak _,λ_ _=>rfl⟩,hx6,⟨ak _,λ_ _ _=>rfl⟩⟩ ?_;simp only[aG,aC,aF,Nat.reduceAdd,Nat.zero_add,List.range,List.range.loop];refine bT (u0:=λ_=>undef) rfl (λ_=>rfl) (λg hg=>by cases hg) (λg hg=>by cases hg) ?_;apply ah;refine⟨λD x w' hm hW K Q hK=>?_,?_⟩
  ·simp only[Lift.Act.bF,Act.put,List.foldl_cons,List.foldl_nil,aj,ay,au];have q0:=hW.at_.mv.cell 0;simp at q0;have lq:=hW.at_.mv.lt;simp at lq;gi_wp2;exact hW.step (by decide) (by decide) (by decide) (λq=>by cases q) (λq=>by cases q)
  apply ah;refine⟨λx=>?_,?_⟩
  ·simp only[Lift.Act.bF,Act.put,List.foldl_cons,List.foldl_nil,aj,ay,au];rfl
  refine bT (u0:=λ_=>undef) rfl (λ_=>rfl) (λg hg=>by cases hg) (λg hg=>by cases hg) ?_;apply ah;refine⟨λD x w' hm hW K Q hK=>?_,?_⟩
  ·simp only[Lift.Act.bF,Act.put,List.foldl_cons,List.foldl_nil,aj,ay,au];skip;gi_wp2;exact hW.step (by decide) (by decide) (by decide) (λq=>by cases q) (λq=>by cases q)
  apply ah;refine⟨λx=>?_,?_⟩
  ·simp only[Lift.Act.bF,Act.put,List.foldl_cons,List.foldl_nil,aj,ay,au];rfl
  refine bT (u0:=λ_=>undef) rfl (λ_=>rfl) (λg hg=>by cases hg) (λg hg=>by cases hg) ?_;apply ah;refine⟨λD x w' hm hW K Q hK=>?_,?_⟩
  ·simp only[Lift.Act.bF,Act.put,List.foldl_cons,List.foldl_nil,aj,ay,au];have r0:=hW.run.cell 0;have r1:=hW.run.cell 1;have r2:=hW.run.cell 2;have r3:=hW.run.cell 3;have r4:=hW.run.cell 4;have r5:=hW.run.cell 5;have r6:=hW.run.cell 6;simp at r0 r1 r2 r3 r4 r5 r6;have lr:=hW.run.lt;gi_wp2;exact hW.step (by decide) (by decide) (by decide) (λq=>by cases q) (λq=>by cases q)
  apply ah;refine⟨λx=>?_,?_⟩
  ·simp only[Lift.Act.bF,Act.put,List.foldl_cons,List.foldl_nil,aj,ay,au];rfl
  refine bT (u0:=λ_=>undef) rfl (λ_=>rfl) (λg hg=>by cases hg) (λg hg=>by cases hg) ?_;apply ah;refine⟨λD x w' hm hW K Q hK=>?_,?_⟩
  ·simp only[Lift.Act.bF,Act.put,List.foldl_cons,List.foldl_nil,aj,ay,au];have d7:=hW.n7 (.inr (.inl hm.1));refine BI _ _ rfl rfl rfl (hW.no7 d7) hkey (hK _ ?_);exact hW.step (by decide) (by decide) (by decide) (λq=>by cases q) (λq=>by cases q)
  apply ah;refine⟨λx=>?_,?_⟩
  ·simp only[Lift.Act.bF,Act.put,List.foldl_cons,List.foldl_nil,aj,ay,au];rfl
  refine bT (u0:=λ_=>undef) rfl (λ_=>rfl) (λg hg=>by cases hg) (λg hg=>by cases hg) ?_;apply ah;refine⟨λD x w' hm hW K Q hK=>?_,?_⟩
  ·simp only[Lift.Act.bF,Act.put,List.foldl_cons,List.foldl_nil,aj,ay,au];skip;gi_wp2;exact hW.step (by decide) (by decide) (by decide) (λ_=>hm.2.1 3 (by kernel_rfl)) (λq=>by cases q)
  apply ah;refine⟨λx=>?_,?_⟩
  ·simp only[Lift.Act.bF,Act.put,List.foldl_cons,List.foldl_nil,aj,ay,au];rfl
  refine bT (u0:=λ_=>undef) rfl (λ_=>rfl) (λg hg=>by cases hg) (λg hg=>by cases hg) ?_;apply ah;refine⟨λD x w' hm hW K Q hK=>?_,?_⟩
  ·simp only[Lift.Act.bF,Act.put,List.foldl_cons,List.foldl_nil,aj,ay,au];have d7:=hW.n7 (.inr (.inr (.inl hm.1)));refine DN _ _ rfl rfl rfl (hW.no7 d7) hkey λw'' h1 h2 h3=>hK _ ?_;exact hW.five (by simp;omega) (by simp;omega) d7 h1 h2
  apply ah;refine⟨λx=>?_,?_⟩
  ·simp only[Lift.Act.bF,Act.put,List.foldl_cons,List.foldl_nil,aj,ay,au];rfl
  refine bT (u0:=λ_=>undef) rfl (λ_=>rfl) (λg hg=>by cases hg) (λg hg=>by cases hg) ?_;apply ah;refine⟨λD x w' hm hW K Q hK=>?_,?_⟩
  ·simp only[Lift.Act.bF,Act.put,List.foldl_cons,List.foldl_nil,aj,ay,au];skip;gi_wp2;exact hW.step (by decide) (by decide) (by decide) (λq=>by cases q) (λ_=>hm.2.1 5 (by kernel_rfl))
  apply ah;refine⟨λx=>?_,?_⟩
  ·simp only[Lift.Act.bF,Act.put,List.foldl_cons,List.foldl_nil,aj,ay,au];rfl
  refine nY rfl (λ_=>rfl) rfl (λD x w' hm hW K Q hK=>?_) ?_
  ·simp only[Lift.Act.bF,Act.put,List.foldl_cons,List.foldl_nil,aj,ay,au]at hK ⊢;have d6:=hm.2.1 6 (by kernel_rfl);have d4:=hm.2.1 4 (by kernel_rfl);refine DR _ _ _ (v':=(k:Int)+1) rfl rfl rfl rfl (hW.yes5 (hW.c65 d6) hm.1) λw'' h1 h2 h3=>hK _ ?_;exact hW.seven (by simp;omega) (by simp;omega) d4 d6 h1 h2
  rintro x w7 hW;have hI7:=hW.all rfl rfl;have hx7:=hW.run;have hK7:=hK6.trans hW.keep;clear hW hI6 hx6 hK6 hkey;simp only[Lift.Act.bF,Act.put,List.foldl_cons,List.foldl_nil,aj,ay,au];have v0:=hI7.wv.cell 0;simp at v0;have lv:=hI7.wv.lt;simp at lv;gi_wp2;gi_loopw [36] (λv wr=>∃j:Nat,j≤b.cs.length∧v=.int .i64 j∧nD N b w ⟨w.heap.size,w.heap.size+1,w.heap.size+1+1,w.heap.size+1+1+1,w.heap.size+1+1+1+1,w.heap.size+1+1+1+1+1,w.heap.size+1+1+1+1+1+1⟩ (k+1) (k+1) true wr∧Blk wr W.heap.size 324 (pW (.slice ra rn rc) b.cs.isEmpty b.rights.length z)∧aT W0.heap.size W' wr) (λv _=>b.cs.length-(intOf v).toNat)
  case atStart=>exact⟨0,Nat.zero_le _,rfl,hI7,hx7,hK7⟩
  case round=>
   clear hI7 hx7 hK7 v0 lv;obtain⟨j,hj,rfl,hI,hx,hK⟩:=hrel;by_cases hl:j<b.cs.length
   ·have hl':(j:Int)<b.cs.length:=by omega
    have hj0:¬((j:Int)<0):=by omega
    obtain⟨cur,hc,hcz,hcn⟩:=hI.won;obtain⟨y,hy⟩:=hcn j hl;have hcell:∀w',Below wr.heap.size wr w'→w'.cell? ⟨w.heap.size+1+1+1,j,none⟩=some (.int .i64 y)∧w'.frozen? ⟨w.heap.size+1+1+1,j,none⟩=false∧w.heap.size+1+1+1<w'.heap.size:=λw' hb=>by
     have q:=hc.below hb;simp only at q;exact⟨by rw[q.cell];exact hy,q.frozen j,q.lt⟩
    gi_wp2;refine tu (λw'=>Below wr.heap.size wr w') (λw'=>∃wx t,Below wr.heap.size wr wx∧w'=wx.setCell ⟨w.heap.size+1+1+1,j,none⟩ (.int .i64 t)) 11 (by kernel_rfl) mixed (by kernel_rfl) (λd=>⟨rfl,rfl,rfl,ak _,λ_ _=>rfl⟩) ?_;simp only[aG,aC,aF,Nat.reduceAdd,Nat.zero_add,List.range,List.range.loop];refine aS rfl rfl (by kernel_rfl) (.inl (by simp)) ?_;apply ah;refine⟨λw' hw' K Q hK=>?_,?_⟩
    ·have q0:=(hI.below hw').wv.cell 0;simp at q0;have lq:=(hI.below hw').wv.lt;simp at lq;obtain⟨q1,q2,q3⟩:=hcell _ hw';have q7:=(hx.below hw').cell 7;simp at q7;have lx:=(hx.below hw').lt;gi_wp2;exact hw'
    iterate 2
     apply ah;refine⟨rfl,?_⟩;refine aI rfl rfl (by decide) ?_;apply ah;refine⟨λT w' hw' K Q hK=>?_,?_⟩
     ·gi_wp2;exact hw'
    iterate 2
     apply ah;refine⟨rfl,?_⟩;refine aS rfl rfl (by kernel_rfl) (.inl (by simp)) ?_;apply ah;refine⟨λw' hw' K Q hK=>?_,?_⟩
     ·have q0:=(hI.below hw').wv.cell 0;simp at q0;have lq:=(hI.below hw').wv.lt;simp at lq;obtain⟨q1,q2,q3⟩:=hcell _ hw';have q7:=(hx.below hw').cell 7;simp at q7;have lx:=(hx.below hw').lt;gi_wp2;exact hw'
     apply ah;refine⟨rfl,?_⟩;refine aI rfl rfl (by decide) ?_;apply ah;refine⟨λT w' hw' K Q hK=>?_,?_⟩
     ·gi_wp2;exact hw'
    iterate 4
     apply ah;refine⟨rfl,?_⟩;refine aI rfl rfl (by decide) ?_;apply ah;refine⟨λT w' hw' K Q hK=>?_,?_⟩
     ·gi_wp2;exact hw'
    apply ah;refine⟨rfl,?_⟩;refine ig rfl rfl rfl ?_;apply ah;refine⟨λw' hw' K Q hK=>?_,?_⟩
    ·have q0:=(hI.below hw').wv.cell 0;simp at q0;have lq:=(hI.below hw').wv.lt;simp at lq;obtain⟨q1,q2,q3⟩:=hcell _ hw';have q7:=(hx.below hw').cell 7;simp at q7;have lx:=(hx.below hw').lt;gi_wp2;exact⟨_,_,hw',rfl⟩
    refine⟨undef,rfl,?_⟩;rintro _ ⟨wx,t,hbx,rfl⟩;have hI8:=(hI.below hbx).put j t;have hx8:=(hx.below hbx).set (g:=w.heap.size+1+1+1) (j:=j) (by omega) (.int .i64 t);have hK8:aT W0.heap.size W' (wx.setCell ⟨w.heap.size+1+1+1,j,none⟩ (.int .i64 t)):=(hK.trans ⟨hbx.size,λi _ hi=>hbx.block i hi⟩).trans (aT.setCell _ _ _ (by simp;omega));gi_wp2;go_roundw
    case rel=>exact⟨j+1,by omega,by go_num,hI8,hx8,by first|exact hK8|(rw[← hsz];exact hK8)⟩
    case measure=>simp[intOf];omega
   ·obtain rfl:j=b.cs.length:=by omega
    gi_wp2;rw[← hsz];exact hK
 case done=>
  rintro C k W hC hk1 hk hI hd;have hp:=HP.out;subst hp;clear HP;have hk0:decide (0<k)=true:=by simp;omega
  rw[hk0]at hI;have hkk:(k:Int)≤7776:=by omega
  have hk0':0<k:=by omega
  have n1:=hO.n1;have n6:=hO.n6;have hM:=hI.many;simp only[stS]at hM;obtain⟨a0,ha0⟩:∃a,a=(b.cs.isEmpty&&decide (0<b.rights.length)):=⟨_,rfl⟩
  obtain⟨a1,ha1⟩:∃a,a=decide (1<b.rights.length):=⟨_,rfl⟩
  obtain⟨a2,ha2⟩:∃a,a=decide (2<b.rights.length):=⟨_,rfl⟩
  obtain⟨a3,ha3⟩:∃a,a=decide (3<b.rights.length):=⟨_,rfl⟩
  obtain⟨a4,ha4⟩:∃a,a=decide (4<b.rights.length):=⟨_,rfl⟩
  obtain⟨a5,ha5⟩:∃a,a=decide (5<b.rights.length):=⟨_,rfl⟩
  rw[← ha0,← ha1,← ha2,← ha3,← ha4,← ha5]at hM;have hres:∀r,r<b.rights.length→∃res:Bool,(r=0→res=b.cs.isEmpty)∧∀w,(binOp .eql 322 (.agg (six a0 a1 a2 a3 a4 a5)) (.agg ((six a0 a1 a2 a3 a4 a5).setIfInBounds r (.bool true)))).run Tryz.prog w=.ok (.bool res) w:=by
   intro r hr;rcases(show r=0∨r=1∨r=2∨r=3∨r=4∨r=5 by omega)with rfl|rfl|rfl|rfl|rfl|rfl
   ·have h0:a0=b.cs.isEmpty:=by rw[ha0];simp[hr]
    rw[← h0];clear h0 ha0;cases a0
    ·exact⟨false,λ_=>rfl,λw=>eql_no w (by decide) _ _ _ _ _⟩
    ·exact⟨true,λ_=>rfl,λw=>rX w _ _ _ _ _ _⟩
   ·obtain rfl:a1=true:=by rw[ha1];simp[hr]
    exact⟨true,λq=>(by cases q),λw=>rX w _ _ _ _ _ _⟩
   ·obtain rfl:a2=true:=by rw[ha2];simp[hr]
    exact⟨true,λq=>(by cases q),λw=>rX w _ _ _ _ _ _⟩
   ·obtain rfl:a3=true:=by rw[ha3];simp[hr]
    exact⟨true,λq=>(by cases q),λw=>rX w _ _ _ _ _ _⟩
   ·obtain rfl:a4=true:=by rw[ha4];simp[hr]
    exact⟨true,λq=>(by cases q),λw=>rX w _ _ _ _ _ _⟩
   ·obtain rfl:a5=true:=by rw[ha5];simp[hr]
    exact⟨true,λq=>(by cases q),λw=>rX w _ _ _ _ _ _⟩
  have hsay:∀(res:Bool) (w:World),CallsIn Fz 0 Tryz.prog 201 #[.int .i64 (if res then(k:Int)else 0),.int .i64 k] w λe w'=>e=.returned (.int .i64 (if res then 1 else 2))∧w'=w:=λres w=>by
   cases res
   ·exact MW k hk0' w
   ·exact Qv k w
  have HRES:=Lib.hid hres;clear hres ha0 ha1 ha2 ha3 ha4 ha5;have bw:=hI.bel;have q0:=hI.x.cell 0;have q1:=hI.x.cell 1;have lX:=hI.x.lt;simp at q0 q1;obtain⟨i0,hi0,hz0,hz1,hz2⟩:=uY;have hIb:=λW' (hb:Below W.heap.size W W')=>hI.below hb;have HI:=Lib.hid hIb;have hMb:=λW' (hb:Below W.heap.size W W')=>hM.same (hb.block _ hM.lt);have hd0:=(Array.getElem?_eq_some_iff.1 hd).1;clear hIb;gi_wp2;gi_loopw [55,2] (λv out wr=>∃(r:Nat) (zs:List Int),r≤b.rights.length∧v=.int .i64 r∧zs.length=r∧Below W.heap.size W wr∧wr.ownsRow W.heap.size 94 1 out zs.length (zs.map (Value.int .i64))∧(0<r→zs[0]?=some (sayOf b.cs.length))) (λv _ _=>b.rights.length-(intOf v).toNat)
  case atStart=>exact⟨0,[],Nat.zero_le _,rfl,rfl,Below.refl _ _,World.ownsRow_nil _ _ _ _,λq=>absurd q (by decide)⟩
  case round=>
   obtain⟨r,zs,hr,rfl,hzl,hb,hrow,hz0'⟩:=hrel;have hI':=HI.out wr hb;have hM':=hMb wr hb;have v4:=hI'.mv.cell 0;have v6:=hI'.all.cell 0;simp at v4 v6;have l4:=hI'.mv.lt;have l6:=hI'.all.lt;simp at l4 l6;by_cases hl:r<b.rights.length
   ·have hl':(r:Int)<b.rights.length:=by omega
    gi_wp2_with (gi_at_range;refine tH rfl _ rfl rfl hM' ?_;go_frame)
    obtain⟨res,hr0,he⟩:=HRES.out r hl;have HHE:=Lib.hid he;clear he;obtain⟨wo,hwo⟩:∃wo,wo=wr:=⟨_,rfl⟩
    subst hwo;have hbi:=(Below.refl _ wo).alloc (ak _) (.mapIter (some (w.heap.size+1)) 1 #[] 1);have hi0':iD (wo.alloc (.mapIter (some (w.heap.size+1)) 1 #[] 1)) wo.heap.size (w.heap.size+1) false:=World.alloc_heap_new wo _;gi_loopw [10] (λv wx=>∃d:Bool,v=.int .i64 (if d then(if res then(k:Int)else 0)else 0)∧Below wo.heap.size wo wx∧iD wx wo.heap.size (w.heap.size+1) d) (λ_ wx=>AO wx wo.heap.size)
    case atStart=>exact⟨false,rfl,hbi,hi0'⟩
    case round=>
     clear hbi hi0';obtain⟨d,rfl,hbx,hit⟩:=hrel;have hMx:=hMb wr (hb.trans (hbx.mono hb.size));have hil:=yE hit;cases d with
     |false=>
      simp only[Bool.false_eq_true,if_false];have hr6:=(show r=0∨r=1∨r=2∨r=3∨r=4∨r=5 by omega)
      have he:=HHE.out;clear hl' hr0 hrow hz0' hzl v4 v6 l4 l6;rcases hr6 with rfl|rfl|rfl|rfl|rfl|rfl<;>cases res
      all_goals
       simp only[six,aj,ay,au]at he
       gi_wp2_with (gi_at_next;refine mO rfl _ rfl rfl hMx hit (λq=>by cases q) ?_;intro _ wn hit2 hM2 hg2 hsz2;have hen:=many_at hM2 hit2;have HS2:=Lib.hid hsz2;clear hsz2;go_frame)
       have hbn:Below wo.heap.size wo wn:=hbx.grown hg2 hbx.size (λr e=>by cases e;exact ak _);go_roundw
       case rel=>exact⟨true,rfl,(hbn.alloc hbn.size _).alloc (hbn.alloc hbn.size _).size _,hit2.same ((((Below.refl _ wn).alloc (ak _) _).alloc (by simp) _).block _ hit2.lt)⟩
       case measure=>
        have hq:=λo1 o2=>yE (hit2.same ((((Below.refl _ wn).alloc (ak _) o1).alloc (by simp) o2).block _ hit2.lt));rw[hq,hil];decide
     |true=>
      have hI2:=HI.out wr (hb.trans (hbx.mono hb.size));have v6:=hI2.all.cell 0;simp at v6;have l6:=hI2.all.lt;simp at l6;simp only[if_true];have hs:=hsay res wr;have cn:=cell_one_new wr (.int .i64 (if res then 1 else 2)) 94;have hrow2:=dP hrow hbx;cases res
      all_goals
       simp only[Bool.false_eq_true,if_false,if_true]at hs cn ⊢
       gi_wp2_with (first
        |(gi_at_next;refine mO rfl _ rfl rfl hMx hit (λ_=>?_) (λq=>by cases q);go_frame)
        |(gi_at_call 201;refine hs.mono ?_;rintro e w4 ⟨rfl,rfl⟩)
        |(gi_at_builtin;refine wpListIn_append_own _ rfl _ _ 164 rfl W.heap.size 94 i0 (.int .i64 0) 1 8 UC hi0 hz0 hz1 hz2 rfl (by decide) _ _ _ rfl (hrow2.alloc _) ⟨w4.heap.size,0,none⟩ 1 1 [.int .i64 _] rfl rfl cn (by simp[Value.oneCell']) (by unfold maxLen;omega) (by omega) (by have:=hb.size;have:=hbx.size;simp;omega) ?_;intro v' w5 hown' hg4 _;go_frame))
       have hbq:Below W.heap.size w4 w5:=((Below.refl W.heap.size w4).alloc (by have:=hb.size;have:=hbx.size;omega) _).grown hg4 (by have:=hb.size;have:=hbx.size;simp;omega) (λj hj=>(hrow2.lt j hj).1);go_roundw
       case rel=>
        refine⟨r+1,zs++[_],by omega,by go_num,by simp[hzl],(hb.trans (hbx.mono hb.size)).trans hbq,by simpa using hown',λ_=>?_⟩;by_cases h0:r=0
        ·have hzn:=List.eq_nil_of_length_eq_zero (hzl.trans h0);rw[hzn];have:=hr0 h0
         first
         |exact congrArg some (by unfold sayOf;rw[if_pos];have:=this.symm;rw[List.isEmpty_iff_length_eq_zero]at this;exact this)
         |exact congrArg some (by unfold sayOf;rw[if_neg];intro q;rw[← List.isEmpty_iff_length_eq_zero,← this]at q;cases q)
        ·rw[List.getElem?_append_left (by omega)];exact hz0' (by omega)
       case measure=>simp[intOf];omega
   ·obtain rfl:r=b.rights.length:=by omega
    have hI2:=HI.out wr hb;have v5:=hI2.wv.cell 0;simp at v5;have l5:=hI2.wv.lt;simp at l5;have hdr:wr.heap[C]?=some (.deferred (some [])):=(hb.block C hd0).trans hd;have su:=hrow;have hfst:=hz0' n1;obtain⟨w9,hw9⟩:∃w9,w9=wr:=⟨_,rfl⟩
    subst hw9;have hI2b:=λW' (hq:Below w9.heap.size w9 W')=>hI2.below hq;have HI2:=Lib.hid hI2b;clear hI2b hrow hz0' v4 v6 l4 l6 HI HRES;rw[hzl]at su;clear hzl;obtain⟨rb,rcp,rfl⟩:=qR su;obtain⟨g,hg,hgl,hgc⟩:∃g,rb=some ⟨g,0,none⟩∧(W.heap.size≤g∧g<w9.heap.size)∧w9.cell? ⟨g,0,none⟩=some (.int .i64 (sayOf b.cs.length)):=by
     rcases su.2 with⟨e,_⟩|⟨g,cap,cur,e,_⟩
     ·injection e with e1 e2 e3;omega
     ·injection e with e1 e2 e3
      subst e1;have hlt:=su.lt g rfl;have hca:=su.cellAt 0 (by omega);refine⟨g,rfl,hlt,?_⟩;rw[hca,List.getElem?_map,hfst];rfl
    subst hg;clear su hfst;gi_wp2;gi_loopw [83,3] (λv out wr=>∃(i:Nat) (ys:List Int),i≤b.cs.length∧v=.int .i64 i∧Below w9.heap.size w9 wr∧wr.ownsRow w9.heap.size 94 1 out ys.length (ys.map (Value.int .i64))∧ys.length=i) (λv _ _=>b.cs.length-(intOf v).toNat)
    case atStart=>exact⟨0,[],Nat.zero_le _,rfl,Below.refl _ _,World.ownsRow_nil _ _ _ _,rfl⟩
    case round=>
     clear v5 l5;obtain⟨i,ys,hi,rfl,Hz,hrow,hyl⟩:=hrel;have hI3:=HI2.out wr Hz;have v6:=hI3.all.cell 0;simp at v6;have l6:=hI3.all.lt;simp at l6;by_cases hl9:i<b.cs.length
     ·have hl9':(i:Int)<b.cs.length:=by omega
      obtain⟨cur,hc,hcz,hcn⟩:=hI3.won;obtain⟨y,hy⟩:=hcn i hl9;have cV:wr.cell? ⟨w.heap.size+1+1+1,i,none⟩=some (.int .i64 y):=by
       have:=hc.cell i;simp only at this;rw[this];exact hy
      have lV:=hc.lt;simp at lV;have hs:=sayAny2 y k wr
      gi_wp2_with (first
       |(gi_at_call 201;refine hs.mono ?_;rintro e w4 ⟨⟨sv,rfl⟩,rfl⟩;have cn:=cell_one_new w4 (.int .i64 sv) 94)
       |(gi_at_builtin;refine wpListIn_append_own _ rfl _ _ 164 rfl w9.heap.size 94 i0 (.int .i64 0) 1 8 UC hi0 hz0 hz1 hz2 rfl (by decide) _ _ _ rfl (hrow.alloc _) ⟨w4.heap.size,0,none⟩ 1 1 [.int .i64 _] rfl rfl cn (by simp[Value.oneCell']) (by unfold maxLen;omega) (by omega) (by have:=Hz.size;simp;omega) ?_;intro v' w5 hown' hg4 _;go_frame))
      have hbq:Below w9.heap.size w4 w5:=((Below.refl w9.heap.size w4).alloc Hz.size _).grown hg4 (by have:=Hz.size;simp;omega) (λj hj=>(hrow.lt j hj).1);go_roundw
      case rel=>exact⟨i+1,ys++[sv],by omega,by go_num,Hz.trans hbq,by simpa using hown',by simp[hyl]⟩
      case measure=>simp[intOf];omega
     ·obtain rfl:i=b.cs.length:=by omega
      gi_wp2;have hdz:wr.heap[C]?=some (.deferred (some [])):=(Hz.block C (Array.getElem?_eq_some_iff.1 hdr).1).trans hdr;refine⟨by simp,.inl ⟨_,_,rfl,run_takeDeferred hdz,?_⟩⟩;refine⟨_,results_tmp2 rfl _ _ _,⟨g,rcp,_,rfl,by simp;have:=Hz.size;omega,?_⟩,?_⟩
      ·have:=(cell_below (o:=0) Hz hgl.2).trans hgc;unfold World.cell? at this ⊢;rw[World.putObj_heap_other (show(⟨g,0,none⟩:Addr).block≠C from(by omega:g≠C))];exact this
      ·exact((hI.bel.trans (hb.mono hI.bel.size)).trans (Hz.mono (hI.bel.trans (hb.mono hI.bel.size)).size)).trans (belowK_b (w:=w) (ak _) _ C _ _ (by have:=hI.bel.size;omega) hdz rfl rfl)
end
