/- Sets of bits, loops, CheckBook: inside the fence. -/
import Derived.Test.YtccjdkghgbbliaaGreatDoorA51
set_option linter.all false
namespace Go.Proofs.YtccjdkghgbbliaaGreatDoor
section
set_option maxHeartbeats 1000000
set_option maxRecDepth 10000
set_option maxHeartbeats 64000000
set_option maxRecDepth 100000
open Go Go.RowKit Lift
def pop(m:Nat):Nat:=m % 2+m / 2 % 2+m / 4 % 2+m / 8 % 2+m / 16 % 2
theorem or_fin:∀(m:Fin 32) (i:Fin 5),bits BinOp.or .i64 ((m.val:Nat):Int) (wrap64 (2 ^ i.val))=((m.val ||| 2 ^ i.val:Nat):Int)∧(m.val ||| 2 ^ i.val)<32∧pop (m.val ||| 2 ^ i.val)≤pop m.val+1:=by decide +kernel
theorem GL{m i:Nat}(hm:m<32)(hi:i<5):bits BinOp.or .i64 (m:Int) (wrap64 (2 ^ i))=((m ||| 2 ^ i:Nat):Int)∧(m ||| 2 ^ i)<32∧pop (m ||| 2 ^ i)≤pop m+1:=or_fin ⟨m,hm⟩ ⟨i,hi⟩
theorem SI:∀(n:Fin 6) (i:Fin 5),i.val<n.val→(2 ^ i.val-1 ||| 2 ^ i.val)=2 ^ (i.val+1)-1∧(2 ^ n.val-1 ||| 2 ^ i.val)=2 ^ n.val-1:=by decide +kernel
theorem KD:∀m:Fin 32,bits BinOp.andNot .i64 0 ((m.val:Nat):Int)=0:=by decide +kernel
theorem yg{m:Nat}(hm:m<32):bits BinOp.andNot .i64 0 (m:Int)=0:=KD ⟨m,hm⟩
theorem two_fin:∀n:Fin 6,wrap64 (2 ^ n.val)=2 ^ n.val∧wrap64 ((2:Int) ^ n.val-1)=((2 ^ n.val-1:Nat):Int)∧(2 ^ n.val-1:Nat)<32:=by decide +kernel
theorem uJ(w:World):CallsIn Fz 0 Tryz.prog 250 #[.slice none 0 0] w λe w'=>e=.returned (.int .i64 0)∧w'=w:=by
 gi_enter Tryz.func250,Tryz.ntmps250
 gi_wp2;gi_loopw [3,8] (λd v wr=>wr=w∧v=.int .i64 0∧d=.int .i64 0) (λ_ _ _=>0)
 case atStart=>exact⟨rfl,rfl,rfl⟩
 case round=>
  obtain⟨rfl,rfl,rfl⟩:=hrel;gi_wp2;go_ret;exact⟨rfl,rfl⟩
theorem Rl{B n c:Nat}{w:World}(hn:n≤5)(hB:B<w.heap.size)(f:Nat→Nat)(hf:∀j,j<n→f j<5)(hc:∀j,j<n→w.cell? ⟨B,j,none⟩=some (.int .i64 (f j))):CallsIn Fz 0 Tryz.prog 250 #[.slice (some ⟨B,0,none⟩) n c] w λe w'=>(∃m:Nat,m<32∧pop m≤n∧e=.returned (.int .i64 m))∧w'=w:=by
 have HC:=Lib.hid hc;have HF:=Lib.hid hf;clear hc hf;gi_enter Tryz.func250,Tryz.ntmps250
 gi_wp2;gi_loopw [3,8] (λd v wr=>wr=w∧∃k m:Nat,k≤n∧v=.int .i64 k∧m<32∧pop m≤k∧d=.int .i64 m) (λ_ v _=>n-(intOf v).toNat)
 case atStart=>exact⟨rfl,0,0,Nat.zero_le _,rfl,by omega,by decide,rfl⟩
 case round=>
  obtain⟨rfl,k,m,hk,rfl,hm,hp,rfl⟩:=hrel;by_cases hl:k<n
  ·have hl':(k:Int)<n:=by omega
   have c0:=HC.out k hl;have hi:=HF.out k hl;obtain⟨o1,o2,o3⟩:=GL hm hi;gi_wp2;go_roundw
   case rel=>exact⟨by trivial,k+1,m ||| 2 ^ f k,by omega,by go_num,o2,by omega,by first|rfl|rw[o1]⟩
   case measure=>simp[intOf];omega
  ·obtain rfl:k=n:=by omega
   gi_wp2;go_ret;exact⟨⟨m,hm,hp,rfl⟩,rfl⟩
section
variable {N:Nat} {b:RV} {w:World}
theorem TL(hO:b.Ok)(h:nP N b w):CallsIn Fz 0 Tryz.prog 347 #[.agg b.arr] w λr w'=>r=.returned (.int .i64 0)∧Below w.heap.size w w':=by
 have hN:=h.hN;have c5:=hO.c5;have hcas:=λk (hk:k<b.cs.length) w' (hb:Below w.heap.size w w')=>(h.below (hb.mono hN)).cas hk;have hX1:=Blk.new w b.arr 252;have hb1:Below w.heap.size w (w.alloc (.cells b.arr 252)):=(Below.refl _ w).alloc (ak _) _;obtain⟨t1,t2,t3⟩:=two_fin ⟨b.cs.length,by omega⟩;simp only at t1 t2 t3;have HF:=Lib.hid (λi (hi:i<b.cs.length)=>SI ⟨b.cs.length,by omega⟩ ⟨i,by omega⟩ hi);have QW:=Lib.hid hcas;have HT:=Lib.hid t3;clear hcas hO h t3;gi_enter Tryz.func347,Tryz.ntmps347
 gi_wp2;gi_loopw [3,10] (λd v wr=>∃k:Nat,k≤b.cs.length∧v=.int .i64 k∧Below w.heap.size w wr∧Blk wr w.heap.size 252 b.arr∧d=.int .i64 ((if k=0 then 0 else 2 ^ b.cs.length-1:Nat):Int)) (λ_ v _=>b.cs.length-(intOf v).toNat)
 case atStart=>exact⟨0,Nat.zero_le _,rfl,hb1,hX1,rfl⟩
 case round=>
  clear hb1 hX1;obtain⟨k,hk,rfl,hb,hX,rfl⟩:=hrel;have x1:=hX.cell 1;simp at x1;have lX:=hX.lt;by_cases hl:k<b.cs.length
  ·have hl':(k:Int)<b.cs.length:=by omega
   obtain⟨d0,hd0⟩:∃d0:Nat,d0=(if k=0 then 0 else 2 ^ b.cs.length - 1):=⟨_,rfl⟩
   rw[← hd0];gi_wp2;gi_loopw [3,16] (λd v wx=>∃i:Nat,i≤b.cs.length∧v=.int .i64 i∧Below w.heap.size w wx∧Blk wx w.heap.size 252 b.arr∧d=.int .i64 ((if k=0 then 2 ^ i-1 else 2 ^ b.cs.length-1:Nat):Int)) (λ_ v _=>b.cs.length-(intOf v).toNat)
   case atStart=>exact⟨0,Nat.zero_le _,rfl,hb,hX,by rw[hd0];first|done|rfl⟩
   case round=>
    clear hb hX x1 lX hd0;obtain⟨i,hi,rfl,hb,hX,rfl⟩:=hrel;by_cases hil:i<b.cs.length
    ·have hil':(i:Int)<b.cs.length:=by omega
     obtain⟨x,o,e1,e2,e3⟩:=QW.out i hil _ hb;obtain⟨c0,c1,c2,c3⟩:=e3 i hil;have lt0:x<wr.heap.size:=by have:=hb.size;omega
     rw[e1];clear e1 e3;generalize b.cAt i=c at *;obtain⟨nm,gb,ib,r⟩:=c;simp only at c0 c1 c2 c3;have Ep:=(Below.refl _ wr).alloc (ak _) (.cells #[.string nm,.int .i64 0,.slice (some ⟨gb,0,none⟩) 1 1,.slice none 0 0] 173);have hB7:=Blk.new wr #[.string nm,.int .i64 0,.slice (some ⟨gb,0,none⟩) 1 1,.slice none 0 0] 173;have hX7:=hX.below Ep;have z3:=hB7.cell 3;simp at z3;have l7:=hB7.lt;obtain⟨f1,f2⟩:=HF.out i hil;obtain⟨d1,hd1⟩:∃d1:Nat,d1=(if k=0 then 2 ^ i - 1 else 2 ^ b.cs.length - 1):=⟨_,rfl⟩
     have hd32:d1<32:=by
      have:=HT.out;rw[hd1];split
      ·have:2 ^ i≤2 ^ 4:=Nat.pow_le_pow_right (by omega) (by omega);omega
      ·omega
     rw[← hd1];have hnx:(d1 ||| 2 ^ i)=(if k=0 then 2 ^ (i+1)-1 else 2 ^ b.cs.length-1):=by
      rw[hd1];split
      ·exact f1
      ·exact f2
     have an:=yg hd32;obtain⟨o1,o2,_⟩:=GL hd32 (show i<5 by omega);have HNX:=Lib.hid hnx;have HO1:=Lib.hid o1;clear hnx f1 f2 hd1 o1
     gi_wp2_with (gi_at_call 250;refine(uJ _).mono ?_;rintro e w2 ⟨rfl,rfl⟩)
     go_roundw
     case rel=>exact⟨i+1,by omega,by go_num,hb.trans (Ep.mono hb.size),hX7,by first|rw[HO1.out,HNX.out]|rw[HNX.out]⟩
     case measure=>simp[intOf];omega
    ·obtain rfl:i=b.cs.length:=by omega
     gi_wp2;go_roundw
     case rel=>exact⟨k+1,by omega,by go_num,hb,hX,by simp⟩
     case measure=>simp[intOf];omega
  ·obtain rfl:k=b.cs.length:=by omega
   have hd:((if b.cs.length=0 then 0 else 2 ^ b.cs.length-1:Nat):Int)=((2 ^ b.cs.length-1:Nat):Int):=by
    split
    ·rename_i q;rw[q];first|done|rfl
    ·rfl
   rw[hd];gi_wp2;go_ret;exact⟨rfl,hb⟩
end
end
section
set_option maxHeartbeats 1000000
set_option maxRecDepth 10000
set_option maxHeartbeats 64000000
set_option maxRecDepth 100000
open Go Go.RowKit Lift
def jg:List Value:=[.func (.func 345) #[] #[],.func (.func 346) #[] #[],.func (.func 347) #[] #[]]
def eP(w:World):Prop:=∀(j:Nat) (v:Value),jg[j]?=some v→w.cell? ⟨2,j,none⟩=some v
theorem eP.lt{w:World}(h:eP w):2<w.heap.size:=let ⟨_,_,_,hb⟩:=cellC (h 0 _ rfl);(Array.getElem?_eq_some_iff.1 hb).1
theorem eP.below{w w':World}{N:Nat}(h:eP w)(hb:Below N w w')(hN:2<N):eP w':=λj v hv=>(hb.cell (p:=⟨2,j,none⟩) hN).trans (h j v hv)
theorem KL:Tryz.prog.cellsOf 316=1:=by kernel_rfl
theorem size316(h:316<Tryz.prog.types.size):(Tryz.prog.types[316]'h).size=1:=by
 have:=KL;have h2:Tryz.prog.info? 316=some (Tryz.prog.types[316]'h):=Array.getElem?_eq_getElem h;simpa[Program.cellsOf,h2]using this
theorem UD:Tryz.prog.underlying 317=some (.array 3 316):=by kernel_rfl
section
variable {F:Fence} {nF:Nat} (w:World) {ops:Array Oper} {rest:List Oper} {o:Oper} {a:Act} {Q:Exit→Act→World→Prop}
theorem mM(hg:o.guard=none)(m x:Operand)(hop:o.op=Op.index 317 m x)(k:Nat)(v:Value)(hm:a.eval m=.agg jg.toArray)(hx:a.eval x=.int .i64 k)(hv:jg[k]?=some v)
  (hK:wpListIn F nF Tryz.prog ops Q rest (a.put o.dst v) w):wpListIn F nF Tryz.prog ops Q (o::rest) a w:=by
 refine wpListIn_plain hg λK' hK'=>?_;have hk:k<3:=by have:=(List.getElem?_eq_some_iff.1 hv).1;simpa[jg]using this
 have hrun:(Instr.index 317 (.agg jg.toArray) (.int .i64 k)).run Tryz.prog w=.ok v w:=by
  have h0:∀h,(Tryz.prog.types[316]'h).size=1:=size316;rcases(show k=0∨k=1∨k=2 by omega)with rfl|rfl|rfl<;>
  ·cases hv;simp[Instr.index,go_sem,UD,KL,jg]
 unfold Oper.wpIn;refine⟨by simp[Oper.about,hop],?_⟩;rw[Oper.semAt_plain F _ _ (by rw[hop];intro c hc';cases hc')];simp[execOp,hop,hm,hx,hrun,Result.andThen];exact hK' _ _ hK
end
section
variable {N:Nat} {b:RV} {w:World}
theorem Ky(hO:b.Ok)(h:nP N b w)(hC:eP w):CallsIn Fz 0 Tryz.prog 129 #[.agg b.arr] w λr w'=>r=.returned (.int .i64 0)∧Below w.heap.size w w':=by
 have hN:=h.hN;have hX1:=Blk.new w b.arr 169;have hb1:Below w.heap.size w (w.alloc (.cells b.arr 169)):=(Below.refl _ w).alloc (ak _) _;have hC1:=hC.below hb1 hC.lt;have k0:=hC1 0 _ rfl;have k1:=hC1 1 _ rfl;have k2:=hC1 2 _ rfl;have lk:=hC1.lt;have H1:=Lib.hid (λw' (hb:Below w.heap.size w w')=>Qp hO (h.below (hb.mono hN)));have H2:=Lib.hid (λw' (hb:Below w.heap.size w w')=>OH hO (h.below (hb.mono hN)));have H3:=Lib.hid (λw' (hb:Below w.heap.size w w')=>TL hO (h.below (hb.mono hN)));clear hO h hC hC1;gi_enter Tryz.func129,Tryz.ntmps129
 gi_wp2;generalize w.alloc (.cells b.arr 169)=W at *;gi_loopw [7] (λv wr=>∃k:Nat,k≤3∧v=.int .i64 k∧Below w.heap.size w wr∧Blk wr w.heap.size 169 b.arr) (λv _=>3-(intOf v).toNat)
 case atStart=>exact⟨0,by omega,rfl,hb1,hX1⟩
 case round=>
  clear hb1 hX1 k0 k1 k2 lk;obtain⟨k,hk,rfl,hb,hX⟩:=hrel;have x0:=hX.cell 0;have x1:=hX.cell 1;simp at x0 x1;have lX:=hX.lt;rcases(show k=0∨k=1∨k=2∨k=3 by omega)with rfl|rfl|rfl|rfl
  ·have h1:=H1.out _ hb
   gi_wp2_with (first|(refine mM _ rfl _ _ rfl 0 _ rfl rfl rfl ?_)|(gi_at_call 345;refine h1.mono ?_;rintro e w2 ⟨rfl,hb2⟩))
   go_roundw
   case rel=>exact⟨1,by omega,by go_num,hb.trans (hb2.mono hb.size),hX.below hb2⟩
   case measure=>simp[intOf]
  ·have h1:=H2.out _ hb
   gi_wp2_with (first|(refine mM _ rfl _ _ rfl 1 _ rfl rfl rfl ?_)|(gi_at_call 346;refine h1.mono ?_;rintro e w2 ⟨rfl,hb2⟩))
   go_roundw
   case rel=>exact⟨2,by omega,by go_num,hb.trans (hb2.mono hb.size),hX.below hb2⟩
   case measure=>simp[intOf]
  ·have h1:=H3.out _ hb
   gi_wp2_with (first|(refine mM _ rfl _ _ rfl 2 _ rfl rfl rfl ?_)|(gi_at_call 347;refine h1.mono ?_;rintro e w2 ⟨rfl,hb2⟩))
   go_roundw
   case rel=>exact⟨3,by omega,by go_num,hb.trans (hb2.mono hb.size),hX.below hb2⟩
   case measure=>simp[intOf]
  ·gi_wp2;go_ret;exact⟨rfl,hb⟩
end
end
section
set_option maxHeartbeats 1000000
set_option maxRecDepth 10000
set_option maxHeartbeats 64000000
set_option maxRecDepth 100000
open Go Go.RowKit Lift
theorem Qv(n:Nat)(w:World):CallsIn Fz 0 Tryz.prog 201 #[.int .i64 n,.int .i64 n] w λe w'=>e=.returned (.int .i64 1)∧w'=w:=by
 gi_enter Tryz.func201,Tryz.ntmps201
 gi_wp2;go_ret;exact⟨rfl,rfl⟩
theorem MW(n:Nat)(h:0<n)(w:World):CallsIn Fz 0 Tryz.prog 201 #[.int .i64 0,.int .i64 n] w λe w'=>e=.returned (.int .i64 2)∧w'=w:=by
 have h1:¬((0:Int)=n):=by omega
 gi_enter Tryz.func201,Tryz.ntmps201
 gi_wp2;go_ret;exact⟨rfl,rfl⟩
theorem und322:Tryz.prog.underlying 322=some (.array 6 4):=by kernel_rfl
def jV(k:Nat):Array Value:=#[.bool (decide (0<k)),.bool (decide (1<k)),.bool (decide (2<k)),.bool (decide (3<k)),.bool (decide (4<k)),.bool (decide (5<k))]
theorem Q9{k:Nat}(h:k<6):(jV k).setIfInBounds k (.bool true)=jV (k+1):=by
 rcases(show k=0∨k=1∨k=2∨k=3∨k=4∨k=5 by omega)with rfl|rfl|rfl|rfl|rfl|rfl<;>rfl
section
variable {N:Nat} {b:RV} {w:World}
theorem all_in(hO:b.Ok)(h:nP N b w):CallsIn Fz 0 Tryz.prog 252 #[.agg b.arr] w λr w'=>r=.returned (.agg (jV b.rights.length))∧Below w.heap.size w w':=by
 have n6:=hO.n6;have hb1:Below w.heap.size w (((w.alloc (.cells b.arr 252)).alloc (.cells (jV 0) 322)).alloc (.cells (jV 0) 322)):=(((Below.refl _ w).alloc (ak _) _).alloc (by simp) _).alloc (by simp;omega) _;have hX1:Blk (((w.alloc (.cells b.arr 252)).alloc (.cells (jV 0) 322)).alloc (.cells (jV 0) 322)) w.heap.size 252 b.arr:=((Blk.new w b.arr 252).below ((Below.refl _ (w.alloc (.cells b.arr 252))).alloc (ak _) _)).below ((Below.refl _ _).alloc (ak _) _);have hR1:Blk (((w.alloc (.cells b.arr 252)).alloc (.cells (jV 0) 322)).alloc (.cells (jV 0) 322)) (w.heap.size+1) 322 (jV 0):=by
  have:=(Blk.new (w.alloc (.cells b.arr 252)) (jV 0) 322).below ((Below.refl _ _).alloc (ak _) (.cells (jV 0) 322));simpa using this
 have hS1:Blk (((w.alloc (.cells b.arr 252)).alloc (.cells (jV 0) 322)).alloc (.cells (jV 0) 322)) (w.heap.size+1+1) 322 (jV 0):=by
  have:=Blk.new ((w.alloc (.cells b.arr 252)).alloc (.cells (jV 0) 322)) (jV 0) 322;simpa using this
 clear hO h;gi_enter Tryz.func252,Tryz.ntmps252
 gi_wp2;gi_loopw [9] (λv wr=>∃k:Nat,k≤b.rights.length∧v=.int .i64 k∧Below w.heap.size w wr∧Blk wr w.heap.size 252 b.arr∧Blk wr (w.heap.size+1) 322 (jV 0)∧Blk wr (w.heap.size+1+1) 322 (jV k)) (λv _=>b.rights.length-(intOf v).toNat)
 case atStart=>exact⟨0,Nat.zero_le _,rfl,hb1,hX1,hR1,hS1⟩
 case round=>
  clear hb1 hX1 hR1 hS1;obtain⟨k,hk,rfl,hb,hX,hR,hS⟩:=hrel;have x0:=hX.cell 0;simp at x0;have lX:=hX.lt;have lS:=hS.lt;have lR:=hR.lt;by_cases hl:k<b.rights.length
  ·have hl':(k:Int)<b.rights.length:=by omega
   have hk6:(k:Int)<6:=by omega
   have s0:=hS.cell k;have sf:=hS.frozen k;have hp:=hS.put k (.bool true);rw[Q9 (by omega)]at hp;have hRp:∀v,Blk (wr.setCell ⟨w.heap.size+1+1,k,none⟩ v) (w.heap.size+1) 322 (jV 0):=λv=>(Below.heap_setCell wr ⟨w.heap.size+1+1,k,none⟩ v (w.heap.size+1) (λe=>by simp at e)).trans hR;have hXp:∀v,Blk (wr.setCell ⟨w.heap.size+1+1,k,none⟩ v) w.heap.size 252 b.arr:=λv=>(Below.heap_setCell wr ⟨w.heap.size+1+1,k,none⟩ v w.heap.size (λe=>by simp at e;omega)).trans hX;clear s0;have s0:wr.cell? ⟨w.heap.size+1+1,k,none⟩=some ((jV k).getD k undef):=by rw[hS.cell];rcases(show k=0∨k=1∨k=2∨k=3∨k=4∨k=5 by omega)with rfl|rfl|rfl|rfl|rfl|rfl<;>rfl
   gi_wp2;go_roundw
   case rel=>exact⟨k+1,by omega,by go_num,hb.setCell (p:=⟨w.heap.size+1+1,k,none⟩) (by simp;omega) _,hXp _,hRp _,hp⟩
   case measure=>simp[intOf];omega
  ·obtain rfl:k=b.rights.length:=by omega
   generalize hA:jV b.rights.length=A at *;have hA':A=#[.bool (decide (0<b.rights.length)),.bool (decide (1<b.rights.length)),.bool (decide (2<b.rights.length)),.bool (decide (3<b.rights.length)),.bool (decide (4<b.rights.length)),.bool (decide (5<b.rights.length))]:=hA.symm;clear hA;generalize ha0:decide (0<b.rights.length)=a0 at *;generalize ha1:decide (1<b.rights.length)=a1 at *;generalize ha2:decide (2<b.rights.length)=a2 at *;generalize ha3:decide (3<b.rights.length)=a3 at *;generalize ha4:decide (4<b.rights.length)=a4 at *;generalize ha5:decide (5<b.rights.length)=a5 at *;subst hA';have s0:=hS.cell 0;have s1:=hS.cell 1;have s2:=hS.cell 2;have s3:=hS.cell 3;have s4:=hS.cell 4;have s5:=hS.cell 5;have r0:=hR.cell 0;have r1:=hR.cell 1;have r2:=hR.cell 2;have r3:=hR.cell 3;have r4:=hR.cell 4;have r5:=hR.cell 5;have f0:=hR.frozen 0;have f1:=hR.frozen 1;have f2:=hR.frozen 2;have f3:=hR.frozen 3;have f4:=hR.frozen 4;have f5:=hR.frozen 5;simp[jV]at s0 s1 s2 s3 s4 s5 r0 r1 r2 r3 r4 r5 f0 f1 f2 f3 f4 f5;have hW:=(((((hR.put 0 (.bool a0)).put 1 (.bool a1)).put 2 (.bool a2)).put 3 (.bool a3)).put 4 (.bool a4)).put 5 (.bool a5)
   have hbW:Below w.heap.size w ((((((wr.setCell ⟨w.heap.size+1,0,none⟩ (.bool a0)).setCell ⟨w.heap.size+1,1,none⟩ (.bool a1)).setCell ⟨w.heap.size+1,2,none⟩ (.bool a2)).setCell ⟨w.heap.size+1,3,none⟩ (.bool a3)).setCell ⟨w.heap.size+1,4,none⟩ (.bool a4)).setCell ⟨w.heap.size+1,5,none⟩ (.bool a5)):=
    (((((hb.setCell (by simp) _).setCell (by simp) _).setCell (by simp) _).setCell (by simp) _).setCell (by simp) _).setCell (by simp) _
   gi_wp2;simp only[jV,aj,ay,au]at hW
   (try simp only[Exit.inBlock,Exit.then])
   refine bodyPost_ret (results_cell_row rfl _ _ (w.heap.size+1) 322 #[.bool a0,.bool a1,.bool a2,.bool a3,.bool a4,.bool a5] (0,0) _ rfl hW und322 rfl (by kernel_rfl)) rfl ?_;exact⟨by rw[← ha0,← ha1,← ha2,← ha3,← ha4,← ha5];rfl,hbW⟩
end
end
section
set_option maxHeartbeats 1000000
set_option maxRecDepth 10000
set_option maxHeartbeats 64000000
set_option maxRecDepth 100000
open Go Go.RowKit Lift
section
variable {w:World} {S r B:Nat}
theorem w302_in(hS:w.cell? ⟨S,r,none⟩=some (.bool true))(hr:r<6)(hl:S<w.heap.size):CallsIn Fz 0 Tryz.prog 302 #[.int .i64 r,.pointer (some ⟨S,0,none⟩)] w λe w'=>e=.returned (.bool false)∧w'=w:=by
 have hr':(r:Int)<6:=by omega
 gi_enter Tryz.func302,Tryz.ntmps302
 gi_wp2;go_ret;exact⟨rfl,rfl⟩
theorem w115_in(hc:w.cell? ⟨B,0,none⟩=some (.int .i64 r))(hB:B<w.heap.size)(hS:w.cell? ⟨S,r,none⟩=some (.bool true))(hr:r<6)(hl:S<w.heap.size) :
  CallsIn Fz 0 Tryz.prog 115 #[.slice (some ⟨B,0,none⟩) 1 1,.func (.func 302) #[] #[.pointer (some ⟨S,0,none⟩)]] w λe w'=>e=.returned (.int .i64 (-1))∧w'=w:=by
 have h3:=w302_in hS hr hl;gi_enter Tryz.func115,Tryz.ntmps115
 gi_wp2;gi_loopw [8,5] (λv i wr=>wr=w∧∃k:Nat,k≤1∧v=.int .i64 k) (λv _ _=>1-(intOf v).toNat)
 case atStart=>exact⟨rfl,0,Nat.zero_le _,rfl⟩
 case round=>
  obtain⟨rfl,k,hk,rfl⟩:=hrel;by_cases hk0:k=0
  ·subst hk0
   gi_wp2_with (gi_at_call 302;refine h3.mono ?_;rintro e w2 ⟨rfl,rfl⟩)
   go_roundw
   case rel=>exact⟨by trivial,1,by omega,by go_num⟩
   case measure=>simp[intOf]
  ·obtain rfl:k=1:=by omega
   gi_wp2;go_ret;exact⟨rfl,rfl⟩
theorem w103_in(hc:w.cell? ⟨B,0,none⟩=some (.int .i64 r))(hB:B<w.heap.size)(hS:w.cell? ⟨S,r,none⟩=some (.bool true))(hr:r<6)(hl:S<w.heap.size) :
  CallsIn Fz 0 Tryz.prog 103 #[.slice (some ⟨B,0,none⟩) 1 1,.func (.func 302) #[] #[.pointer (some ⟨S,0,none⟩)]] w λe w'=>e=.returned (.bool false)∧w'=w:=by
 have h:=w115_in hc hB hS hr hl;gi_enter Tryz.func103,Tryz.ntmps103
 gi_wp2_with (gi_at_call 115;refine h.mono ?_;rintro e w2 ⟨rfl,rfl⟩)
 go_ret;exact⟨rfl,rfl⟩
theorem w301_in(hc:w.cell? ⟨B,0,none⟩=some (.int .i64 r))(hB:B<w.heap.size)(hS:w.cell? ⟨S,r,none⟩=some (.bool true))(hr:r<6)(hl:S<w.heap.size) :
  CallsIn Fz 0 Tryz.prog 301 #[.slice (some ⟨B,0,none⟩) 1 1,.pointer (some ⟨S,0,none⟩)] w λe w'=>e=.returned (.bool true)∧w'=w:=by
 have h:=w103_in hc hB hS hr hl;gi_enter Tryz.func301,Tryz.ntmps301
 gi_wp2_with (gi_at_call 103;refine h.mono ?_;rintro e w2 ⟨rfl,rfl⟩)
 go_ret;exact⟨rfl,rfl⟩
variable {G:Nat}
theorem w312_in(hg:w.cell? ⟨G,0,none⟩=some (.slice (some ⟨B,0,none⟩) 1 1))(hG:G<w.heap.size)(hc:w.cell? ⟨B,0,none⟩=some (.int .i64 r))(hB:B<w.heap.size)(hS:w.cell? ⟨S,r,none⟩=some (.bool true))(hr:r<6)(hl:S<w.heap.size) :
  CallsIn Fz 0 Tryz.prog 312 #[.slice (some ⟨G,0,none⟩) 1 1,.func (.func 301) #[] #[.pointer (some ⟨S,0,none⟩)]] w λe w'=>e=.returned (.int .i64 0)∧w'=w:=by
 have h:=w301_in hc hB hS hr hl;gi_enter Tryz.func312,Tryz.ntmps312
 gi_wp2;gi_loopw [8,5] (λv i wr=>wr=w∧v=.int .i64 0) (λv _ _=>0)
 case atStart=>exact⟨rfl,rfl⟩
 case round=>
  obtain⟨rfl,rfl⟩:=hrel
  gi_wp2_with (gi_at_call 301;refine h.mono ?_;rintro e w2 ⟨rfl,rfl⟩)
  go_ret;exact⟨rfl,rfl⟩
theorem w300_in(hg:w.cell? ⟨G,0,none⟩=some (.slice (some ⟨B,0,none⟩) 1 1))(hG:G<w.heap.size)(hc:w.cell? ⟨B,0,none⟩=some (.int .i64 r))(hB:B<w.heap.size)(hS:w.cell? ⟨S,r,none⟩=some (.bool true))(hr:r<6)(hl:S<w.heap.size) :
  CallsIn Fz 0 Tryz.prog 300 #[.slice (some ⟨G,0,none⟩) 1 1,.func (.func 301) #[] #[.pointer (some ⟨S,0,none⟩)]] w λe w'=>e=.returned (.bool true)∧w'=w:=by
 have h:=w312_in hg hG hc hB hS hr hl;gi_enter Tryz.func300,Tryz.ntmps300
 gi_wp2_with (gi_at_call 312;refine h.mono ?_;rintro e w2 ⟨rfl,rfl⟩)
 go_ret;exact⟨rfl,rfl⟩
end
def stS(z:Bool)(m:Nat):Array Value:=#[.bool (z&&decide (0<m)),.bool (decide (1<m)),.bool (decide (2<m)),.bool (decide (3<m)),.bool (decide (4<m)),.bool (decide (5<m))]
theorem stS_at{z:Bool}{m r:Nat}(h1:1≤r)(h2:r<m)(h6:m≤6):(stS z m)[r]?=some (.bool true):=by
 rcases(show r=1∨r=2∨r=3∨r=4∨r=5 by omega)with rfl|rfl|rfl|rfl|rfl<;>simp[stS,h2]
section
variable {N:Nat} {b:RV} {w:World}
theorem wins_in(hO:b.Ok)(h:nP N b w){c:RC}(hc:c∈b.cs)(z:Bool):CallsIn Fz 0 Tryz.prog 273 #[.agg b.arr,.agg c.row.toArray,.agg (stS z b.rights.length)] w λr w'=>r=.returned (.bool true)∧Below w.heap.size w w':=by
 have hN:=h.hN;obtain⟨g1,g2,g3,g4⟩:=h.gs c hc;obtain⟨r1,r2⟩:=hO.cr c hc;have n6:=hO.n6;have hst:=stS_at (z:=z) r1 r2 n6;generalize stS z b.rights.length=st at *;obtain⟨nm,gb,ib,r⟩:=c;simp only[RC.row]at *;have hb1:Below w.heap.size w (((w.alloc (.cells b.arr 252)).alloc (.cells #[.string nm,.int .i64 0,.slice (some ⟨gb,0,none⟩) 1 1,.slice none 0 0] 173)).alloc (.cells st 322)):=(((Below.refl _ w).alloc (ak _) _).alloc (by simp) _).alloc (by simp;omega) _;have hC1:Blk (((w.alloc (.cells b.arr 252)).alloc (.cells #[.string nm,.int .i64 0,.slice (some ⟨gb,0,none⟩) 1 1,.slice none 0 0] 173)).alloc (.cells st 322)) (w.heap.size+1) 173 #[.string nm,.int .i64 0,.slice (some ⟨gb,0,none⟩) 1 1,.slice none 0 0]:=by
  have:=(Blk.new (w.alloc (.cells b.arr 252)) #[.string nm,.int .i64 0,.slice (some ⟨gb,0,none⟩) 1 1,.slice none 0 0] 173).below ((Below.refl _ _).alloc (ak _) (.cells st 322));simpa using this
 have hS1:Blk (((w.alloc (.cells b.arr 252)).alloc (.cells #[.string nm,.int .i64 0,.slice (some ⟨gb,0,none⟩) 1 1,.slice none 0 0] 173)).alloc (.cells st 322)) (w.heap.size+1+1) 322 st:=by
  have:=Blk.new ((w.alloc (.cells b.arr 252)).alloc (.cells #[.string nm,.int .i64 0,.slice (some ⟨gb,0,none⟩) 1 1,.slice none 0 0] 173)) st 322;simpa using this
 have hw:CallsIn Fz 0 Tryz.prog 300 #[.slice (some ⟨gb,0,none⟩) 1 1,.func (.func 301) #[] #[.pointer (some ⟨w.heap.size+1+1,0,none⟩)]] (((w.alloc (.cells b.arr 252)).alloc (.cells #[.string nm,.int .i64 0,.slice (some ⟨gb,0,none⟩) 1 1,.slice none 0 0] 173)).alloc (.cells st 322)) λe w'=>e=.returned (.bool true)∧w'=((w.alloc (.cells b.arr 252)).alloc (.cells #[.string nm,.int .i64 0,.slice (some ⟨gb,0,none⟩) 1 1,.slice none 0 0] 173)).alloc (.cells st 322):=
  w300_in (r:=r) ((cell_below (o:=0) (hb1.mono hN) g1).trans g3) (by have:=hb1.size;omega) ((cell_below (o:=0) (hb1.mono hN) g2).trans g4) (by have:=hb1.size;omega) (by rw[hS1.cell];exact hst) (by omega) hS1.lt
 clear hO h;gi_enter Tryz.func273,Tryz.ntmps273
 gi_wp2_with (gi_at_call 300;refine hw.mono ?_;rintro e w2 ⟨rfl,rfl⟩)
 go_ret;exact⟨rfl,hb1⟩
end
end
section
set_option maxHeartbeats 1000000
set_option maxRecDepth 10000
set_option maxHeartbeats 64000000
set_option maxRecDepth 100000
open Go Go.RowKit Lift
def iy(G:Nat)(w:World)(v:Value)(xs:List Nat):Prop:=
 (v=.slice none 0 0∧xs=[])∨∃B cap,v=.slice (some ⟨B,0,none⟩) xs.length cap∧(G≤B∧B<w.heap.size)∧xs.length≤cap∧∀j,j<xs.length→w.cell? ⟨B,j,none⟩=some (.int .i64 (xs.getD j 0:Nat))
theorem iy.below{G:Nat}{w w':World}{v:Value}{xs:List Nat}(h:iy G w v xs)(hb:Below w.heap.size w w'):iy G w' v xs:=by
 rcases h with h|⟨B,cap,h1,h2,h3,h4⟩
 ·exact .inl h
 ·exact .inr ⟨B,cap,h1,⟨h2.1,aB h2.2 hb.size⟩,h3,λj hj=>(cell_below hb h2.2).trans (h4 j hj)⟩
theorem iy.keeps{G:Nat}{w w':World}{v:Value}{xs:List Nat}(h:iy G w v xs)(hb:aT G w w'):iy G w' v xs:=by
 rcases h with h|⟨B,cap,h1,h2,h3,h4⟩
 ·exact .inl h
 ·refine .inr ⟨B,cap,h1,⟨h2.1,aB h2.2 hb.size⟩,h3,λj hj=>?_⟩;have:=h4 j hj;unfold World.cell? at this ⊢;rw[hb.same B h2.1 h2.2];exact this
theorem iy.mono{G G':Nat}{w:World}{v:Value}{xs:List Nat}(h:iy G' w v xs)(hG:G≤G'):iy G w v xs:=by
 rcases h with h|⟨B,cap,h1,h2,h3,h4⟩
 ·exact .inl h
 ·exact .inr ⟨B,cap,h1,⟨Nat.le_trans hG h2.1,h2.2⟩,h3,h4⟩
theorem iy.slice{G:Nat}{w:World}{v:Value}{xs:List Nat}(h:iy G w v xs):∃ao cap,v=.slice ao xs.length cap∧xs.length≤cap:=by
 rcases h with⟨rfl,rfl⟩|⟨B,cap,rfl,_,h3,_⟩
 ·exact⟨none,0,rfl,ak _⟩
 ·exact⟨_,cap,rfl,h3⟩
theorem BL{G:Nat}{w:World}{base:Nat}{v:Value}{xs:List Nat}(hx:xs≠[])(hG:G≤base)(h:w.ownsRow base 3 1 v xs.length (xs.map λx=>.int .i64 (x:Nat))):iy G w v xs:=by
 rcases h.2 with⟨_,e⟩|⟨g,cap,cur,rfl,hbg,hg,hc,_,hs,ht⟩
 ·exact absurd (List.length_eq_zero_iff.1 e) hx
 ·refine .inr ⟨g,cap,rfl,⟨Nat.le_trans hG hbg,(Array.getElem?_eq_some_iff.1 hg).1⟩,hc,λj hj=>?_⟩;have hcell:=Blk.cell (show Blk w g 3 cur from hg) j;rw[hcell];have h1:(cur.toList.take (xs.length * 1))[j]?=some (.int .i64 (xs.getD j 0:Nat)):=by
   rw[ht,List.getElem?_map,List.getElem?_eq_getElem hj,List.getD_eq_getElem?_getD,List.getElem?_eq_getElem hj];rfl
  rw[List.getElem?_take_of_lt (by omega),Array.getElem?_toList]at h1;exact h1
def cutV:Value→Value
 |.slice b n _=>.slice b n n
 |v=>v
theorem BZ{G:Nat}{w:World}{v:Value}{xs:List Nat}{i xb:Nat}(ty:TypeId)(h:iy G w v xs)(hx:xs.length≤5)(hi:w.cell? ⟨xb,0,none⟩=some (.int .i64 i)) :
  ∃v' w',(Builtin.append_ #[28,28] ty #[cutV v,.slice (some ⟨xb,0,none⟩) 1 1]).run Tryz.prog w=.ok v' w'∧iy w.heap.size w' v' (xs++[i])∧Below w.heap.size w w':=by
 obtain⟨i0,hi0,hz0,hz1,hz2⟩:=info_parts Tryz.AA;have hn:∀j u,([.int .i64 (i:Int)]:List Value)[j]?=some u→w.cell? ((⟨xb,0,none⟩:Addr).add j)=some u:=λj u hu=>by
  cases j with
  |zero=>simp at hu;subst hu;simpa[Addr.add]using hi
  |succ j=>simp at hu
 have hmap:(xs.map λx=>(.int .i64 (x:Nat):Value))++[.int .i64 (i:Int)]=(xs++[i]).map λx=>(.int .i64 (x:Nat):Value):=by simp
 rcases h with⟨rfl,rfl⟩|⟨B,cap,rfl,h2,h3,h4⟩
 ·obtain⟨v',w',hr,hown,hg,_⟩:=run_append_own (P:=Tryz.prog) w w.heap.size 28 ty 3 i0 _ 1 8 Tryz.underlying28 hi0 hz0 hz1 hz2 rfl (by decide) (.slice none 0 0) 0 [] ⟨rfl,.inl ⟨rfl,rfl⟩⟩ ⟨xb,0,none⟩ 1 1 [.int .i64 i] rfl hn (λu hu=>by simp at hu;subst hu;rfl) (by unfold maxLen;omega) (by omega) (ak _);exact⟨v',w',hr,BL (xs:=[i]) (by simp) (ak _) hown,(Below.refl _ w).grown hg (ak _) (λr e=>by cases e)⟩
 ·obtain⟨v',w',hr,hown,hg⟩:=run_append_arg_grows (P:=Tryz.prog) w 28 ty 3 i0 _ 1 8 Tryz.underlying28 hi0 hz0 hz1 hz2 rfl (by decide) ⟨B,0,none⟩ xs.length xs.length (xs.map λx=>.int .i64 (x:Nat)) (by simp) (λj u hu=>by
    obtain⟨x,hxj,rfl⟩:=List.getElem?_map ..▸hu |> Option.map_eq_some_iff.1;obtain⟨hj,e⟩:=List.getElem?_eq_some_iff.1 hxj;have:=h4 j hj;rw[List.getD_eq_getElem?_getD,hxj]at this;cases j<;>simpa[Addr.add]using this) ⟨xb,0,none⟩ 1 1 [.int .i64 i] rfl hn (by omega) (by unfold maxLen;omega) (by omega)
  rw[hmap]at hown;refine⟨v',w',hr,BL (xs:=xs++[i]) (by simp) (ak _) (by simpa using hown),(Below.refl _ w).grown hg (ak _) (λr e=>by cases e)⟩
section
variable {F:Fence} {nF G:Nat} {w:World} {ops:Array Oper} {rest:List Oper} {o:Oper} {a:Act} {Q:Exit→Act→World→Prop}
theorem tC(hg:o.guard=none)(s x:Operand)(hop:o.op=.call { callee:=.builtin .append,args:=#[s,x],argTypes:=#[28,28] }){v:Value}{xs:List Nat}{i xb:Nat}
  (hs:a.eval s=cutV v) (he:a.eval x=.slice (some ⟨xb,0,none⟩) 1 1) (hv:iy G w v xs) (hx:xs.length≤5) (hi:w.cell? ⟨xb,0,none⟩=some (.int .i64 i))
  (hK:∀v' w',iy w.heap.size w' v' (xs++[i])→Below w.heap.size w w'→wpListIn F nF Tryz.prog ops Q rest (a.put o.dst v') w'):wpListIn F nF Tryz.prog ops Q (o::rest) a w:=by
 refine wpListIn_plain hg λK' hK'=>?_;obtain⟨v',w',hrun,h1,h2⟩:=BZ o.type hv hx hi;unfold Oper.wpIn;refine⟨by simp[Oper.about,hop,resolve,Target.leads,Sem.run_pure],?_⟩;rw[Oper.semAt_plain F _ _ (by rw[hop];intro c hc';cases hc')];simp[execOp,hop,resolve,invoke,builtin,hs,he,hrun,Result.andThen];exact hK' _ _ (hK _ _ h1 h2)
end
end
section
set_option maxHeartbeats 1000000
set_option maxRecDepth 10000
set_option maxHeartbeats 64000000
set_option maxRecDepth 100000
open Go Go.RowKit Lift
abbrev pW(v:Value)(z:Bool)(m:Nat)(won:Int):Array Value:=#[v,.bool (z&&decide (0<m)),.bool (decide (1<m)),.bool (decide (2<m)),.bool (decide (3<m)),.bool (decide (4<m)),.bool (decide (5<m)),.int .i64 won]
theorem und324:Tryz.prog.underlying 324=some (.struct (Tryz.prog.fieldsOf 324)):=by kernel_rfl
section
variable {N:Nat} {b:RV} {w:World}
theorem RJ(hO:b.Ok)(h:nP N b w){i:Nat}(hi:i<b.cs.length){G:Nat}(hG:G≤w.heap.size){v:Value}{xs:List Nat}(hv:iy G w v xs)(hx:xs.length≤5)(z:Bool){won:Nat}(hwon:won<32) :
  CallsIn Fz 0 Tryz.prog 251 #[.agg b.arr,.agg (pW v z b.rights.length won),.int .i64 i] w λr w'=>(∃v' zu:_,zu<32∧r=.returned (.agg (pW v' false b.rights.length (zu:Nat)))∧iy G w' v' (xs++[i]))∧Below w.heap.size w w':=by
 have hN:=h.hN;have c5:=hO.c5;obtain⟨o1,o2,_⟩:=GL hwon (show i<5 by omega);have hb3:∀A B C,Below w.heap.size w (((w.alloc (.cells A 252)).alloc (.cells B 324)).alloc (.cells C 324)):=λA B C=>(((Below.refl _ w).alloc (ak _) _).alloc (by simp) _).alloc (by simp;omega) _;have hv0:=λA B C D=>(hv.below (hb3 A B C)).below ((Below.refl _ _).alloc (ak _) (.cells D 3));have hx0:∀A B C,((((w.alloc (.cells A 252)).alloc (.cells B 324)).alloc (.cells C 324)).alloc (.cells #[.int .i64 (i:Int)] 3)).cell? ⟨w.heap.size+1+1+1,0,none⟩=some (.int .i64 (i:Int)):=λA B C=>by
  have:=(Blk.new (((w.alloc (.cells A 252)).alloc (.cells B 324)).alloc (.cells C 324)) #[.int .i64 (i:Int)] 3).cell 0;simpa using this
 have hY0:∀A B C D,Blk ((((w.alloc (.cells A 252)).alloc (.cells B 324)).alloc (.cells C 324)).alloc (.cells D 3)) (w.heap.size+1) 324 B:=λA B C D=>by
  have:=(((Blk.new (w.alloc (.cells A 252)) B 324).below ((Below.refl _ _).alloc (ak _) (.cells C 324)))).below ((Below.refl _ _).alloc (ak _) (.cells D 3));simpa using this
 have hZ0:∀A B C D,Blk ((((w.alloc (.cells A 252)).alloc (.cells B 324)).alloc (.cells C 324)).alloc (.cells D 3)) (w.heap.size+1+1) 324 C:=λA B C D=>by
  have:=(Blk.new ((w.alloc (.cells A 252)).alloc (.cells B 324)) C 324).below ((Below.refl _ _).alloc (ak _) (.cells D 3));simpa using this
 have hX0:∀A B C D,Blk ((((w.alloc (.cells A 252)).alloc (.cells B 324)).alloc (.cells C 324)).alloc (.cells D 3)) w.heap.size 252 A:=λA B C D=>
  ((((Blk.new w A 252).below ((Below.refl _ _).alloc (ak _) (.cells B 324)))).below ((Below.refl _ _).alloc (ak _) (.cells C 324))).below ((Below.refl _ _).alloc (ak _) (.cells D 3))
 obtain⟨x,o,e1,e2,_⟩:=h.cas hi;have hcas:=λw' (hb:Below w.heap.size w w')=>(h.below (hb.mono hN)).cas hi;have hwin:=λw' (hb:Below w.heap.size w w')=>wins_in hO (h.below (hb.mono hN)) (RV.FU hi) z;simp only[RC.row,stS,RV.arr,e1]at hwin;have HB:=Lib.hid h;have QW:=Lib.hid hcas;have HWIN:=Lib.hid hwin;clear hcas hwin;obtain⟨ao,cap,rfl,hcap⟩:=hv.slice;have hcap':(xs.length:Int)≤cap:=by omega
 gi_enter Tryz.func251,Tryz.ntmps251
 gi_wp2_with (first
  |(gi_at_builtin;refine tC (v:=.slice _ xs.length cap) (xs:=xs) (i:=i) (xb:=w.heap.size+1+1+1) rfl _ _ rfl rfl rfl (hv0 _ _ _ _) hx (hx0 _ _ _) ?_
    intro v' W hv' hbW;obtain⟨ao',cap',rfl,_⟩:=hv'.slice;have hX1:=(hX0 _ _ _ _).below hbW;have NU:=(hY0 _ _ _ _).below hbW;have hZ1:=(hZ0 _ _ _ _).below hbW;have hbX:=(((hb3 _ _ _).alloc (by simp;omega) _).trans (hbW.mono (by simp;omega))).setCell (p:=⟨w.heap.size+1,0,none⟩) (by simp) (.slice ao' (xs.length+1) cap');obtain⟨x',o',e1',_,e3⟩:=QW.out _ hbX;obtain⟨c0,c1,c2,c3⟩:=e3 i hi;rw[e1]at e1';cases e1';have lx:=aB e2 (Nat.le_trans hN hbX.size);simp only[World.size_setCell]at lx;have lX:=hX1.lt;have lY:=NU.lt;have y0:=NU.cell 0;have y1:=NU.cell 1;have y2:=NU.cell 2;have y3:=NU.cell 3;have y4:=NU.cell 4;have y5:=NU.cell 5;have y6:=NU.cell 6;have f0:=NU.frozen 0;have z0:=hX1.cell 0;have z1:=hX1.cell 1;simp at y0 y1 y2 y3 y4 y5 y6 f0 z1 z0)
  |(gi_at_call 273;refine(HWIN.out _ (hbX.alloc hbX.size _)).mono ?_
    rintro e w3 ⟨rfl,yX⟩;have hY2:=((NU.put 0 (.slice ao' (xs.length+1) cap')).below ((Below.refl _ _).alloc (ak _) (.cells #[.string (b.cAt i).nm,.int .i64 0,.slice (some ⟨(b.cAt i).gb,0,none⟩) 1 1,.slice none 0 0] 173))).below yX;have hZ2:=((hZ1.set (g:=w.heap.size+1) (j:=0) (by omega) (.slice ao' (xs.length+1) cap')).below ((Below.refl _ _).alloc (ak _) (.cells #[.string (b.cAt i).nm,.int .i64 0,.slice (some ⟨(b.cAt i).gb,0,none⟩) 1 1,.slice none 0 0] 173))).below yX;have hC2:=(Blk.new (W.setCell ⟨w.heap.size+1,0,none⟩ (.slice ao' (xs.length+1) cap')) #[.string (b.cAt i).nm,.int .i64 0,.slice (some ⟨(b.cAt i).gb,0,none⟩) 1 1,.slice none 0 0] 173).below yX;have hbY:=(hbX.alloc hbX.size (.cells #[.string (b.cAt i).nm,.int .i64 0,.slice (some ⟨(b.cAt i).gb,0,none⟩) 1 1,.slice none 0 0] 173)).trans (yX.mono (hbX.alloc hbX.size _).size);have hv2:iy (w.heap.size+1+1+1) W (.slice ao' (xs.length+1) cap') (xs++[i]):=by simpa using hv'.mono (G:=w.heap.size+1+1+1) (by simp)
    have hv3':=(hv2.keeps ((aT.setCell W ⟨w.heap.size+1,0,none⟩ (.slice ao' (xs.length+1) cap') (by simp)).trans (aT.alloc _ _ (.cells #[.string (b.cAt i).nm,.int .i64 0,.slice (some ⟨(b.cAt i).gb,0,none⟩) 1 1,.slice none 0 0] 173)))).below yX;have hWs:w.heap.size+1+1+1+1≤W.heap.size:=by simpa using hbW.size
    clear hv2 y0 y1 y2 y3 y4 y5 y6 f0 z0 z1 hX1 NU hZ1 hbX lX lY hX0 hY0 hZ0 hx0 hv0 hb3 hv' hbW lx c0 c1 c2 c3 e3;have y7:=hY2.cell 7;have f7:=hY2.frozen 7;have lY:=hY2.lt;simp at y7))
 clear y7 f7 lY;refine cu (λw'=>Below w3.heap.size w3 w') (λw'=>∃wx,Below w3.heap.size w3 wx∧w'=wx.setCell ⟨w.heap.size+1,7,none⟩ (.int .i64 ((won ||| 2 ^ i:Nat):Int))) 6 rfl mixed (by kernel_rfl) (λd=>⟨rfl,rfl,rfl,ak _,λ_ _=>rfl⟩) ?_;simp only[aG,aC,aF,Nat.reduceAdd,Nat.zero_add,List.range,List.range.loop];refine aI rfl rfl (by decide) ?_;apply ah;refine⟨λT w' hw' K Q hK=>?_,?_⟩
 ·gi_wp2;exact hw'
 apply ah;refine⟨rfl,?_⟩;refine aS rfl rfl (by kernel_rfl) (.inl (by simp)) ?_;apply ah;refine⟨λw' hw' K Q hK=>?_,?_⟩
 ·have q:=hY2.below hw';have y7:=q.cell 7;have f7:=q.frozen 7;have lY:=q.lt;simp at y7;gi_wp2;exact hw'
 iterate 4
  apply ah;refine⟨rfl,?_⟩;refine aI rfl rfl (by decide) ?_;apply ah;refine⟨λT w' hw' K Q hK=>?_,?_⟩
  ·gi_wp2;exact hw'
 apply ah;refine⟨rfl,?_⟩;refine ig rfl rfl rfl ?_;apply ah;refine⟨λw' hw' K Q hK=>?_,?_⟩
 ·have q:=hY2.below hw';have y7:=q.cell 7;have f7:=q.frozen 7;have lY:=q.lt;simp at y7;gi_wp2
  (try rw[o1])
  exact⟨_,hw',rfl⟩
 refine⟨undef,rfl,?_⟩;rintro _ ⟨w4,hb4,rfl⟩;generalize hwn:(won ||| 2 ^ i)=wn at *;clear hwn;have QN:=(hY2.below hb4).put 7 (.int .i64 (wn:Nat));have Gh:=(hZ2.below hb4).set (g:=w.heap.size+1) (j:=7) (by omega) (.int .i64 (wn:Nat));have hC4:=(hC2.below hb4).set (g:=w.heap.size+1) (j:=7) (by simp;omega) (.int .i64 (wn:Nat));simp only[aj,ay,au,World.size_setCell]at QN hC4;have hb:=(hbY.trans (hb4.mono hbY.size)).setCell (p:=⟨w.heap.size+1,7,none⟩) (by simp) (.int .i64 (wn:Nat));have hv4:=(hv3'.below hb4).keeps (aT.setCell w4 ⟨w.heap.size+1,7,none⟩ (.int .i64 (wn:Nat)) (by simp));clear hY2 hZ2 hC2 hbY hv3' hb4 yX;generalize w4.setCell ⟨w.heap.size+1,7,none⟩ (.int .i64 (wn:Nat))=w5 at *;have z0:=Gh.frozen 0;have z1:=Gh.frozen 1;have z2:=Gh.frozen 2;have z3:=Gh.frozen 3;have z4:=Gh.frozen 4;have z5:=Gh.frozen 5;have z6:=Gh.frozen 6;have z7:=Gh.frozen 7;have y0:=QN.cell 0;have y1:=QN.cell 1;have y2:=QN.cell 2;have y3:=QN.cell 3;have y4:=QN.cell 4;have y5:=QN.cell 5;have y6:=QN.cell 6;have y7:=QN.cell 7;have f1:=QN.frozen 1;have r0:=Gh.cell 0;have r1:=Gh.cell 1;have r2:=Gh.cell 2;have r3:=Gh.cell 3;have r4:=Gh.cell 4;have r5:=Gh.cell 5;have r6:=Gh.cell 6;have r7:=Gh.cell 7;have c1:=hC4.cell 1;simp at y0 y1 y2 y3 y4 y5 y6 y7 c1 r0 r1 r2 r3 r4 r5 r6 r7;have lY:=QN.lt;have lZ:=Gh.lt;have lC:=hC4.lt;have hW:=((((((((Gh.set (g:=w.heap.size+1) (j:=1) (by omega) (.bool false)).put 0 (.slice ao' (xs.length+1) cap')).put 1 (.bool false)).put 2 (.bool (decide (1<b.rights.length)))).put 3 (.bool (decide (2<b.rights.length)))).put 4 (.bool (decide (3<b.rights.length)))).put 5 (.bool (decide (4<b.rights.length)))).put 6 (.bool (decide (5<b.rights.length)))).put 7 (.int .i64 (wn:Nat));have hbE:=((((((((hb.setCell (p:=⟨w.heap.size+1,1,none⟩) (by simp) (.bool false)).setCell (p:=⟨w.heap.size+1+1,0,none⟩) (by simp;omega) (.slice ao' (xs.length+1) cap')).setCell (p:=⟨w.heap.size+1+1,1,none⟩) (by simp;omega) (.bool false)).setCell (p:=⟨w.heap.size+1+1,2,none⟩) (by simp;omega) (.bool (decide (1<b.rights.length)))).setCell (p:=⟨w.heap.size+1+1,3,none⟩) (by simp;omega) (.bool (decide (2<b.rights.length)))).setCell (p:=⟨w.heap.size+1+1,4,none⟩) (by simp;omega) (.bool (decide (3<b.rights.length)))).setCell (p:=⟨w.heap.size+1+1,5,none⟩) (by simp;omega) (.bool (decide (4<b.rights.length)))).setCell (p:=⟨w.heap.size+1+1,6,none⟩) (by simp;omega) (.bool (decide (5<b.rights.length)))).setCell (p:=⟨w.heap.size+1+1,7,none⟩) (by simp;omega) (.int .i64 (wn:Nat));have hvE:=(hv4.keeps (((((((((aT.setCell w5 ⟨w.heap.size+1,1,none⟩ (.bool false) (by simp)).trans (aT.setCell _ ⟨w.heap.size+1+1,0,none⟩ (.slice ao' (xs.length+1) cap') (by simp))).trans (aT.setCell _ ⟨w.heap.size+1+1,1,none⟩ (.bool false) (by simp))).trans (aT.setCell _ ⟨w.heap.size+1+1,2,none⟩ (.bool (decide (1<b.rights.length))) (by simp))).trans (aT.setCell _ ⟨w.heap.size+1+1,3,none⟩ (.bool (decide (2<b.rights.length))) (by simp))).trans (aT.setCell _ ⟨w.heap.size+1+1,4,none⟩ (.bool (decide (3<b.rights.length))) (by simp))).trans (aT.setCell _ ⟨w.heap.size+1+1,5,none⟩ (.bool (decide (4<b.rights.length))) (by simp))).trans (aT.setCell _ ⟨w.heap.size+1+1,6,none⟩ (.bool (decide (5<b.rights.length))) (by simp))).trans (aT.setCell _ ⟨w.heap.size+1+1,7,none⟩ (.int .i64 (wn:Nat)) (by simp)))).mono (G:=G) (by omega);clear hb hv4 Gh hC4 QN;gi_wp2;clear y0 y1 y2 y3 y4 y5 y6 y7 c1 r0 r1 r2 r3 r4 r5 r6 r7 z0 z1 z2 z3 z4 z5 z6 z7 f1;simp only[aj,ay,au]at hW
 (try simp only[Exit.inBlock,Exit.then])
 refine bodyPost_ret (results_cell_row rfl _ _ (w.heap.size+1+1) 324 #[.slice ao' (xs.length+1) cap',.bool false,.bool (decide (1<b.rights.length)),.bool (decide (2<b.rights.length)),.bool (decide (3<b.rights.length)),.bool (decide (4<b.rights.length)),.bool (decide (5<b.rights.length)),.int .i64 (wn:Nat)] (0,0) _ rfl hW und324 rfl (by kernel_rfl)) rfl ?_;exact⟨⟨_,wn,o2,by simp only[pW,Bool.false_and],hvE⟩,hbE⟩
end
end
