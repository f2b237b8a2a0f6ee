/- The program's small functions of dates, inside the fence. -/
import Derived.Test.YtccjdkghgbbliaaGreatDoorA39
set_option linter.all false
namespace Go.Proofs.YtccjdkghgbbliaaGreatDoor
section
set_option maxHeartbeats 1000000
set_option maxRecDepth 10000
set_option maxHeartbeats 16000000
set_option maxRecDepth 100000
open Go Go.RowKit Lift
theorem zK(a b c:Int)(w:World):CallsIn Fz 0 Tryz.prog 88 #[.int .i64 a,.int .i64 b,.int .i64 c] w λe w'=>e=.returned (.bool (decide (b≤a)&&decide (a≤c)))∧w'=w:=by
 gi_enter Tryz.func88,Tryz.ntmps88
 gi_wp2
 ·go_ret;rename_i h;simp[h]
 ·go_ret;rename_i h;have:¬b≤a:=by omega
  simp[this]
theorem yT(a b c:Int)(w:World)(h:b≤a∧a≤c):CallsIn Fz 0 Tryz.prog 88 #[.int .i64 a,.int .i64 b,.int .i64 c] w λe w'=>e=.returned (.bool true)∧w'=w:=by
 have k:=zK a b c w;rw[show(decide (b≤a)&&decide (a≤c))=true by simp[h]]at k;exact k
theorem La(a:Int)(w:World)(h:0≤a∧a≤36524):CallsIn Fz 0 Tryz.prog 41 #[.int .i64 a] w λe w'=>e=.returned (.bool true)∧w'=w:=by
 gi_enter Tryz.func41,Tryz.ntmps41
 gi_wp2_with (gi_at_call 88;refine(yT _ _ _ _ h).mono ?_;rintro e w' ⟨rfl,rfl⟩)
 go_ret;exact⟨rfl,rfl⟩
theorem Qb(f:Int)(w:World):CallsIn Fz 0 Tryz.prog 40 #[.bool false,.int .i64 f] w λe w'=>e=.returned (.int .i64 0)∧w'=w:=by
 gi_enter Tryz.func40,Tryz.ntmps40
 gi_wp2;go_ret;exact⟨rfl,rfl⟩
theorem SK(c u:Int)(w:World)(hc:0≤c∧c≤999)(hu:0≤u∧u≤2):CallsIn Fz 0 Tryz.prog 42 #[.agg #[.int .i64 c,.int .i64 u]] w λe w'=>e=.returned (.int .i64 0)∧Below w.heap.size w w':=by
 have hB:=Blk.new w #[.int .i64 c,.int .i64 u] 34;have hb:Below w.heap.size w (w.alloc (.cells #[.int .i64 c,.int .i64 u] 34)):=(Below.refl _ w).alloc (aj _) _;gi_enter Tryz.func42,Tryz.ntmps42
 gi_wp2_with (first
  |(gi_at_call 88;refine(yT _ _ _ _ (by assumption)).mono ?_;rintro e w' ⟨rfl,rfl⟩)
  |(gi_at_call 40;refine(Qb _ _).mono ?_;rintro e w' ⟨rfl,rfl⟩))
 go_ret;exact⟨rfl,hb⟩
def Qc(y:Int):Int:=(y-2000) / 4 * 1461+(y-2000) % 4 * 365+min 1 ((y-2000) % 4)
theorem wH(y:Int)(w:World)(h:2000≤y∧y≤2100):CallsIn Fz 0 Tryz.prog 155 #[.int .i64 y] w λe w'=>e=.returned (.int .i64 (Qc y))∧w'=w:=by
 obtain⟨n,hn⟩:∃n:Int,y - 2000=n:=⟨_,rfl⟩
 have h1:IntKind.i64.wrap (y-2000)=n:=by rw[IntKind.wrap_i64];omega
 gi_enter Tryz.func155,Tryz.ntmps155
 gi_wp2;go_ret;exact⟨by subst hn;rfl,rfl⟩
theorem bef_all:((List.range 101).all λm=>m / 4 * 1461+m % 4 * 365+min 1 (m % 4)==fm (12 * m))=true:=by decide +kernel
theorem Jw{m:Nat}(h:m≤100):Qc (2000+m)=fm (12 * m):=by
 have:=List.all_eq_true.1 bef_all m (List.mem_range.2 (by omega));rw[beq_iff_eq]at this;rw[← this];unfold Qc;omega
end
section
set_option maxHeartbeats 1000000
set_option maxRecDepth 10000
set_option maxHeartbeats 16000000
set_option maxRecDepth 100000
open Go Go.RowKit Lift
theorem wrong_f(a b:Int)(w:World)(h:0≤a∧a≤b∧b≤36524):CallsIn Fz 0 Tryz.prog 89 #[.agg #[.int .i64 a,.int .i64 b]] w λe w'=>e=.returned (.bool false)∧Below w.heap.size w w':=by
 have hB:=Blk.new w #[.int .i64 a,.int .i64 b] 84;have hb:Below w.heap.size w (w.alloc (.cells #[.int .i64 a,.int .i64 b] 84)):=(Below.refl _ w).alloc (aj _) _;have h1:0≤a∧a≤36524:=by omega
 have h2:0≤b∧b≤36524:=by omega
 have h3:¬b<a:=by omega
 gi_enter Tryz.func89,Tryz.ntmps89
 gi_wp2_with (gi_at_call 41;refine(La _ _ (by assumption)).mono ?_;rintro e w' ⟨rfl,rfl⟩)
 go_ret;exact⟨by simp;omega,hb⟩
theorem Wide_in(f:bM)(w:World):CallsIn Fz 0 Tryz.prog 74 #[.agg f.cal] w λe w'=>e=.returned (.bool (decide (20<f.ls.length)||decide (20<f.ss.length)))∧Below w.heap.size w w':=by
 have hB:=Blk.new w f.cal 31;have x0:=hB.cell 0;have x1:=hB.cell 1;simp at x0 x1;have hb:Below w.heap.size w (w.alloc (.cells f.cal 31)):=(Below.refl _ w).alloc (aj _) _;by_cases h1:20<f.ls.length
 ·have h1':(20:Int)<f.ls.length:=by omega
  gi_enter Tryz.func74,Tryz.ntmps74
  gi_wp2;go_ret;exact⟨by simp[h1],hb⟩
 ·have h1':¬((20:Int)<f.ls.length):=by omega
  by_cases h2:20<f.ss.length
  ·have h2':(20:Int)<f.ss.length:=by omega
   gi_enter Tryz.func74,Tryz.ntmps74
   gi_wp2;go_ret;exact⟨by simp[h2],hb⟩
  ·have h2':¬((20:Int)<f.ss.length):=by omega
   gi_enter Tryz.func74,Tryz.ntmps74
   gi_wp2;go_ret;exact⟨by simp<;>omega,hb⟩
end
section
set_option maxHeartbeats 1000000
set_option maxRecDepth 10000
set_option maxHeartbeats 16000000
set_option maxRecDepth 100000
open Go Go.RowKit Lift
theorem LC{N:Nat}{f:bM}{w:World}(h:fF N f w)(ok:∀i,i<f.ss.length→0≤(f.fD i).one∧(f.fD i).one≤(f.fD i).two∧(f.fD i).two≤36524)(hm:f.ss.length<1000000) :
  CallsIn Fz 0 Tryz.prog 152 #[.slice f.sa f.ss.length f.sc,.func (.func 89) #[] #[]] w λe w'=>e=.returned (.int .i64 (-1))∧Below w.heap.size w w':=by
 gi_enter Tryz.func152,Tryz.ntmps152
 gi_wp2;gi_loopw [8,5] (λv i wr=>∃k:Nat,k≤f.ss.length∧v=.int .i64 k∧Below w.heap.size w wr∧fF N f wr) (λv _ _=>f.ss.length-(intOf v).toNat)
 case atStart=>exact⟨0,Nat.zero_le _,rfl,Below.refl _ _,h⟩
 case round=>
  obtain⟨k,hk,rfl,hb,hc⟩:=hrel;by_cases hl:k<f.ss.length
  ·obtain⟨b,o,e1,e2,c0,c1⟩:=hc.span hl;have hx:=wrong_f (f.fD k).one (f.fD k).two wr (ok k hl);rw[e1];clear e1
   gi_wp2_with (gi_at_call 89;refine hx.mono ?_;rintro e w2 ⟨rfl,hb2⟩)
   go_roundw
   case rel=>exact⟨k+1,by omega,by go_num,hb.trans (hb2.mono hb.size),hc.below (hb2.mono hc.hN)⟩
   case measure=>simp[intOf];omega
  ·obtain rfl:k=f.ss.length:=by omega
   gi_wp2;go_ret;exact⟨rfl,hb⟩
theorem Tj{N:Nat}{f:bM}{w:World}(h:fF N f w)(ok:∀i,i<f.ss.length→0≤(f.fD i).one∧(f.fD i).one≤(f.fD i).two∧(f.fD i).two≤36524)(hm:f.ss.length<1000000) :
  CallsIn Fz 0 Tryz.prog 90 #[.slice f.sa f.ss.length f.sc,.func (.func 89) #[] #[]] w λe w'=>e=.returned (.bool false)∧Below w.heap.size w w':=by
 gi_enter Tryz.func90,Tryz.ntmps90
 gi_wp2_with (gi_at_call 152;refine(LC h ok hm).mono ?_;rintro e w2 ⟨rfl,hb2⟩)
 go_ret;exact⟨rfl,hb2⟩
end
section
set_option maxHeartbeats 1000000
set_option maxRecDepth 10000
set_option maxHeartbeats 32000000
set_option maxRecDepth 100000
open Go Go.RowKit Lift
theorem SI{N:Nat}{f:bM}{w:World}(h:fF N f w)(ok:f.Gi)(hn:f.ls.length<1000000) :
  CallsIn Fz 0 Tryz.prog 39 #[.agg f.cal] w λe w'=>e=.returned (.int .i64 0)∧Below w.heap.size w w':=by
 have hN:=h.hN;have hb1:Below w.heap.size w (w.alloc (.cells f.cal 114)):=(Below.refl _ w).alloc (aj _) _;have hB:=Blk.new w f.cal 114;have h1:=h.below (hb1.mono hN);have ns:=ok.ns;have ns':¬((6:Int)<f.ss.length):=by omega
 have x0:=hB.cell 0;have x1:=hB.cell 1;simp at x0 x1;gi_enter Tryz.func39,Tryz.ntmps39
 gi_wp2;gi_loopw [10,3,4,15,19] (λv i n p q wr=>∃k:Nat,k≤f.ls.length∧v=.int .i64 k∧Below w.heap.size w wr∧Blk wr w.heap.size 114 f.cal∧fF N f wr) (λv _ _ _ _ _=>f.ls.length-(intOf v).toNat)
 case atStart=>exact⟨0,Nat.zero_le _,rfl,hb1,hB,h1⟩
 case round=>
  obtain⟨k,hk,rfl,hb,hX,hc⟩:=hrel;clear x0 x1;have x0:=hX.cell 0;have x1:=hX.cell 1;simp at x0 x1;have ltX:=hX.lt;by_cases hl:k<f.ls.length
  ·obtain⟨b,o,e1,e2,e3⟩:=hc.day hl;have ck:=e3 k hl;have hi:=ok.ls k hl;have hu:=ok.up k;have E3:=Lib.hid e3;rw[e1]at x0 ⊢;clear e1 e3;rcases Nat.eq_zero_or_pos k with rfl|hz
   ·rw[show((0:Nat):Int)=0 from rfl];simp only[Nat.add_zero]at ck
    gi_wp2_with (gi_at_call 88;refine(yT _ _ _ _ hi).mono ?_;rintro e w' ⟨rfl,hw⟩;obtain rfl:wr=w':=hw.symm)
    go_roundw
    case rel=>exact⟨1,by omega,by go_num,hb,hX,hc⟩
    case measure=>simp[intOf];omega
   ·obtain⟨m,rfl⟩:∃m,k=m+1:=⟨k - 1,by omega⟩
    have cp:=E3.out m (by omega);have hv:=hu hz hl;rw[Nat.add_sub_cancel]at hv;have hv':¬f.qj (m+1)≤f.qj m:=by omega
    clear hu;have hk1:IntKind.i64.wrap (((m+1:Nat):Int)-1)=(m:Int):=by rw[IntKind.wrap_i64];omega
    have hz':(0:Int)<((m+1:Nat):Int):=by omega
    gi_wp2_with (gi_at_call 88;refine(yT _ _ _ _ hi).mono ?_;rintro e w' ⟨rfl,hw⟩;obtain rfl:wr=w':=hw.symm)
    go_roundw
    case rel=>exact⟨m+1+1,by omega,by go_num,hb,hX,hc⟩
    case measure=>simp[intOf];omega
  ·obtain rfl:k=f.ls.length:=by omega
   have hs:=Tj hc ok.ss (by omega)
   gi_wp2_with (first
    |(gi_at_call 90;refine hs.mono ?_;rintro e w2 ⟨rfl,hb2⟩)
    |(gi_at_call 40;refine(Qb _ _).mono ?_;rintro e w3 ⟨rfl,hw⟩;obtain rfl:w2=w3:=hw.symm))
   go_ret;exact⟨rfl,hb.trans (hb2.mono hb.size)⟩
end
section
set_option maxHeartbeats 1000000
set_option maxRecDepth 10000
set_option maxHeartbeats 32000000
set_option maxRecDepth 100000
open Go Go.RowKit Lift
theorem QS{B:Nat}{w:World}(h:Blk w B 42 #[.int .i64 0,.int .i64 0,.int .i64 0]) :
  CallsIn Fz 0 Tryz.prog 38 #[.slice (some ⟨B,0,none⟩) 3 3] w λe w'=>e=.returned (.int .i64 0)∧w'=w:=by
 have c0:=h.cell 0;have c1:=h.cell 1;have c2:=h.cell 2;simp at c0 c1 c2;have hlt:=h.lt;gi_enter Tryz.func38,Tryz.ntmps38
 gi_wp2;gi_loopw [7,4] (λv x wr=>∃k:Nat,k≤3∧v=.int .i64 k∧wr=w) (λv _ _=>3-(intOf v).toNat)
 case atStart=>exact⟨0,Nat.zero_le _,rfl,rfl⟩
 case round=>
  obtain⟨k,hk,rfl,rfl⟩:=hrel;rcases(show k=0∨k=1∨k=2∨k=3 by omega)with rfl|rfl|rfl|rfl
  ·gi_wp2;go_roundw
   case rel=>exact⟨1,by omega,by go_num,by trivial⟩
   case measure=>simp[intOf]
  ·gi_wp2;go_roundw
   case rel=>exact⟨2,by omega,by go_num,by trivial⟩
   case measure=>simp[intOf]
  ·gi_wp2;go_roundw
   case rel=>exact⟨3,by omega,by go_num,by trivial⟩
   case measure=>simp[intOf]
  ·gi_wp2;go_ret;exact⟨rfl,rfl⟩
end
section
set_option maxHeartbeats 1000000
set_option maxRecDepth 10000
set_option maxHeartbeats 32000000
set_option maxRecDepth 100000
open Go Go.RowKit Lift
def MR:List Int:=[31,28,31,30,31,30,31,31,30,31,30,31]
def iR(w:World):Prop:=∀j,j<12→w.cell? ⟨1,j,none⟩=some (.int .i64 (MR.getD j 0))
theorem DX(y j:Nat)(hj:j<12)(h:¬(j=1∧y % 4=0)):MR.getD j 0=(jC (12 * y+j):Int):=by
 unfold jC;rw[show(12 * y+j) % 12=j by omega,show(12 * y+j) / 12=y by omega];rcases(show j=0∨j=1∨j=2∨j=3∨j=4∨j=5∨j=6∨j=7∨j=8∨j=9∨j=10∨j=11 by omega)with rfl|rfl|rfl|rfl|rfl|rfl|rfl|rfl|rfl|rfl|rfl|rfl
 all_goals first
 |rfl
 |(rw[if_pos rfl,if_neg (by omega)];rfl)
theorem Oy(y:Nat)(h:y % 4=0):jC (12 * y+1)=29:=by
 unfold jC;rw[if_pos (by omega),if_pos (by omega)]
theorem wS{w:World}(hL:iR w)(y j:Nat)(hj:j<12)(hy:y≤100):CallsIn Fz 0 Tryz.prog 94 #[.int .i64 ((2000+y:Nat):Int),.int .i64 ((j+1:Nat):Int)] w λe w'=>e=.returned (.int .i64 (jC (12 * y+j)))∧w'=w:=by
 have hl:=hL j hj;have hlt:1<w.heap.size:=let ⟨_,_,_,hb⟩:=cellC hl;(Array.getElem?_eq_some_iff.1 hb).1;by_cases h2:j=1
 ·subst h2;by_cases h4:y % 4=0
  ·have e4:(((2000+y:Nat):Int)) % 4=0:=by omega
   rw[Oy y h4];gi_enter Tryz.func94,Tryz.ntmps94
   gi_wp2;go_ret;exact⟨rfl,rfl⟩
  ·have e4:¬(((2000+y:Nat):Int)) % 4=0:=by omega
   rw[← DX y 1 (by omega) (λq=>h4 q.2)];gi_enter Tryz.func94,Tryz.ntmps94
   gi_wp2;go_ret;exact⟨rfl,rfl⟩
 ·rw[← DX y j hj (λq=>h2 q.1)];have e2:¬(((j+1:Nat):Int))=2:=by omega
  have e3:IntKind.i64.wrap (((j+1:Nat):Int)-1)=(j:Int):=by rw[IntKind.wrap_i64];omega
  gi_enter Tryz.func94,Tryz.ntmps94
  gi_wp2;go_ret;exact⟨rfl,rfl⟩
end
