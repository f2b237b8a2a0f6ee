/- The day of a date, inside the fence. -/
import Derived.Test.YtccjdkghgbbliaaGreatDoorA20
import Derived.Test.YtccjdkghgbbliaaGreatDoorA41
set_option linter.all false
namespace Go.Proofs.YtccjdkghgbbliaaGreatDoor
section
set_option maxHeartbeats 1000000
set_option maxRecDepth 10000
set_option maxHeartbeats 32000000
set_option maxRecDepth 100000
open Go Go.RowKit Lift
theorem NY{M:Nat}(h:M≤1212):fm M≤1000000:=by
 have h1:∀M,fm M≤31 * M:=λM=>by
  induction M with
  |zero=>exact aj _
  |succ M ih=>
   have e:fm (M+1)=fm M+jC M:=rfl;have:=yY M;omega
 have:=h1 M;omega
theorem Qu{w:World}(hL:iR w)(y j d:Nat)(hj:j<12)(hy:y≤100)(hd:1≤d∧d≤31):CallsIn Fz 0 Tryz.prog 93 #[.int .i64 ((2000+y:Nat):Int),.int .i64 ((j+1:Nat):Int),.int .i64 d] w λe w'=>e=.returned (.int .i64 ((fm (12 * y+j)+d-1:Nat):Int))∧w'=w:=by
 have hb:=wH ((2000+y:Nat):Int) w (by omega);rw[show Qc ((2000+y:Nat):Int)=((fm (12 * y):Nat):Int) by rw[show((2000+y:Nat):Int)=2000+(y:Int) by omega];exact Jw hy]at hb;gi_enter Tryz.func93,Tryz.ntmps93
 gi_wp2_with (gi_at_call 155;refine hb.mono ?_;rintro e w' ⟨rfl,hw⟩;obtain rfl:w=w':=hw.symm)
 gi_loopw [8,7] (λm n wr=>∃k:Nat,k≤j∧m=.int .i64 ((k+1:Nat):Int)∧n=.int .i64 (fm (12 * y+k))∧wr=w) (λm _ _=>j+1-(intOf m).toNat)
 case atStart=>exact⟨0,Nat.zero_le _,rfl,rfl,rfl⟩
 case round=>
  obtain⟨k,hk,rfl,rfl,rfl⟩:=hrel;have hf:=NY (show 12 * y+k≤1212 by omega);by_cases hl:k<j
  ·have hx:=wS hL y k (by omega) hy;have hm:=yY (12 * y+k);have e:fm (12 * y+(k+1))=fm (12 * y+k)+jC (12 * y+k):=rfl;have hl':((k+1:Nat):Int)<((j+1:Nat):Int):=by omega
   gi_wp2_with (gi_at_call 94;refine hx.mono ?_;rintro e w' ⟨rfl,hw⟩;obtain rfl:wr=w':=hw.symm)
   go_roundw
   case rel=>exact⟨k+1,by omega,by go_num,by rw[e];go_num,by trivial⟩
   case measure=>simp[intOf];omega
  ·obtain rfl:k=j:=by omega
   gi_wp2;go_ret;refine⟨eP ?_,rfl⟩;omega
end
section
set_option maxHeartbeats 1000000
set_option maxRecDepth 10000
set_option maxHeartbeats 32000000
set_option maxRecDepth 100000
open Go Go.RowKit Lift
theorem results_tmp3{fn:Func}{t u v:Tmp}(h:fn.results=#[.tmp t,.tmp u,.tmp v])(tmps:Array Value)(P:Program)(w:World) :
  (results fn tmps).run P w=.ok (.tuple #[tmps.getD t undef,tmps.getD u undef,tmps.getD v undef]) w:=by
 simp[results,h]
theorem SL{w:World}(hL:iR w)(n:Nat)(hn:n≤36524):CallsIn Fz 0 Tryz.prog 92 #[.int .i64 n] w λe w'=>e=.returned (.tuple #[.int .i64 ((2000+dn n / 12:Nat):Int),.int .i64 ((dn n % 12+1:Nat):Int),.int .i64 ((n-fm (dn n)+1:Nat):Int)])∧w'=w:=by
 gi_enter Tryz.func92,Tryz.ntmps92
 gi_wp2;gi_loopw [2] (λv wr=>∃y:Nat,y≤99∧v=.int .i64 ((2000+y:Nat):Int)∧fm (12 * y)≤n∧wr=w) (λv _=>2099-(intOf v).toNat)
 case atStart=>exact⟨0,by omega,rfl,Nat.zero_le _,rfl⟩
 case round=>
  obtain⟨y,hy,rfl,hf,rfl⟩:=hrel;have hb0:=wH (2000+(y:Int)) wr (by omega);rw[Jw (by omega)]at hb0;have hb:=wH (2000+(y:Int)+1) wr (by omega);rw[show Qc (2000+(y:Int)+1)=((fm (12 * (y+1)):Nat):Int) by rw[show(2000+(y:Int)+1)=2000+((y+1:Nat):Int) by omega];exact Jw (by omega)]at hb;have hw1:IntKind.i64.wrap (((2000+y:Nat):Int)+1)=((2000+(y+1):Nat):Int):=by rw[IntKind.wrap_i64];omega
  by_cases hc:y<99∧fm (12 * (y+1))≤n
  ·have hl:((2000+y:Nat):Int)<2099:=by omega
   have hc':((fm (12 * (y+1)):Nat):Int)≤(n:Int):=by omega
   gi_wp2_with (gi_at_call 155;with_reducible refine hb.mono ?_;rintro e w' ⟨rfl,hw⟩;obtain rfl:wr=w':=hw.symm)
   go_roundw
   case rel=>exact⟨y+1,by omega,by go_num,hc.2,by trivial⟩
   case measure=>simp[intOf];omega
  ·have hx:n<fm (12 * y+12):=by
    rcases(show y<99∨y=99 by omega)with q|rfl
    ·have:¬fm (12 * (y+1))≤n:=λz=>hc ⟨q,z⟩;rw[Nat.mul_add,Nat.mul_one]at this;omega
    ·have:=JZ
     show n<fm 1200
     omega
   have HX:=Lib.hid hx;clear hx;have hw2:IntKind.i64.wrap ((n:Int)-((fm (12 * y):Nat):Int))=(n:Int)-((fm (12 * y):Nat):Int):=by rw[IntKind.wrap_i64];omega
   have hor:(((2000+y:Nat):Int)<2099∧¬((fm (12 * (y+1)):Nat):Int)≤(n:Int))∨¬((2000+y:Nat):Int)<2099:=by
    by_cases h99:y<99
    ·exact .inl ⟨by omega,λz=>hc ⟨h99,by omega⟩⟩
    ·exact .inr (by omega)
   rcases hor with⟨hl,hc'⟩|hl
   all_goals
    gi_wp2_with (gi_at_call 155;(first|with_reducible refine hb.mono ?_|with_reducible refine hb0.mono ?_);rintro e w' ⟨rfl,hw⟩;obtain rfl:wr=w':=hw.symm)
    gi_loopw [3,0] (λm v wx=>∃j:Nat,j≤11∧m=.int .i64 ((j+1:Nat):Int)∧v=.int .i64 ((n:Int)-((fm (12 * y+j):Nat):Int))∧fm (12 * y+j)≤n∧wx=wr) (λm _ _=>13-(intOf m).toNat)
    case atStart=>exact⟨0,by omega,rfl,by simp only[Nat.add_zero];try rw[hw2],hf,rfl⟩
    case round=>
     clear hb hb0 hw1 hw2;obtain⟨j,hj,rfl,rfl,hfj,rfl⟩:=hrel;have hx:=wS hL y j (by omega) (by omega);have e:fm (12 * y+(j+1))=fm (12 * y+j)+jC (12 * y+j):=rfl;have hm:=yY (12 * y+j);by_cases hq:jC (12 * y+j)≤n - fm (12 * y+j)
     ·have hj11:j<11:=by
       rcases(show j<11∨j=11 by omega)with q|rfl
       ·exact q
       ·have e12:fm (12 * y+12)=fm (12 * y+11)+jC (12 * y+11):=rfl;have:=HX.out;omega
      have hq':((jC (12 * y+j):Nat):Int)≤(n:Int)-((fm (12 * y+j):Nat):Int):=by omega
      have hw3:IntKind.i64.wrap ((n:Int)-((fm (12 * y+j):Nat):Int)-((jC (12 * y+j):Nat):Int))=(n:Int)-((fm (12 * y+(j+1)):Nat):Int):=by rw[IntKind.wrap_i64,e];omega
      gi_wp2_with (gi_at_call 94;refine hx.mono ?_;rintro e w' ⟨rfl,hw⟩;obtain rfl:wr=w':=hw.symm)
      go_roundw
      case rel=>exact⟨j+1,by omega,by go_num,by first|rfl|rw[hw3]|(rw[e];go_num),by omega,by trivial⟩
      case measure=>simp[intOf];omega
     ·have hq':¬((jC (12 * y+j):Nat):Int)≤(n:Int)-((fm (12 * y+j):Nat):Int):=by omega
      have e':fm (12 * y+j+1)=fm (12 * y+j)+jC (12 * y+j):=rfl;have hM:dn n=12 * y+j:=moOf_eq hfj (by omega)
      gi_wp2_with (gi_at_call 94;refine hx.mono ?_;rintro e w' ⟨rfl,hw⟩;obtain rfl:wr=w':=hw.symm)
      (try simp only[Exit.inBlock,Exit.then])
      refine bodyPost_ret (results_tmp3 rfl _ _ _) rfl ?_;rw[hM,show(12 * y+j) / 12=y by omega,show(12 * y+j) % 12=j by omega];refine⟨?_,rfl⟩;rw[show((2000+y:Nat):Int)=2000+(y:Int) by omega,show((j+1:Nat):Int)=(j:Int)+1 by omega,show((n-fm (12 * y+j)+1:Nat):Int)=(n:Int)-((fm (12 * y+j):Nat):Int)+1 by omega];rfl
end
section
set_option maxHeartbeats 1000000
set_option maxRecDepth 10000
set_option maxHeartbeats 32000000
set_option maxRecDepth 100000
open Go Go.RowKit Lift
theorem iR.lt{w:World}(h:iR w):1<w.heap.size:=let ⟨_,_,_,hb⟩:=cellC (h 0 (by omega));(Array.getElem?_eq_some_iff.1 hb).1
theorem iR.below{w w':World}{N:Nat}(h:iR w)(hb:Below N w w')(hN:1<N):iR w':=λj hj=>(hb.cell (p:=⟨1,j,none⟩) hN).trans (h j hj)
theorem Ot{n c:Nat}(h:dn n+c<1200):sN n c=fm (dn n+c)+min (n-fm (dn n)+1) (jC (dn n+c))-1:=by
 have:=vM (dn n+c);unfold sN;rw[if_neg (by omega)];omega
theorem RI{w:World}(hL:iR w)(u n c:Nat)(hn:n≤36524)(hc:c≤999)(hu:u≤2):CallsIn Fz 0 Tryz.prog 44 #[.int .i64 n,.agg #[.int .i64 c,.int .i64 u]] w λe w'=>e=.returned (.int .i64 (pX u n c))∧Below w.heap.size w w':=by
 have hB:=Blk.new w #[.int .i64 c,.int .i64 u] 34;have x0:=hB.cell 0;have x1:=hB.cell 1;simp at x0 x1;have hb:Below w.heap.size w (w.alloc (.cells #[.int .i64 c,.int .i64 u] 34)):=(Below.refl _ w).alloc (aj _) _;have hL1:=hL.below hb hL.lt;rcases(show u=0∨u=1∨u=2 by omega)with rfl|rfl|rfl
 ·rw[show((0:Nat):Int)=0 from rfl];gi_enter Tryz.func44,Tryz.ntmps44
  gi_wp2;go_ret;refine⟨eP ?_,hb⟩;unfold pX;simp;omega
 ·rw[show((1:Nat):Int)=1 from rfl];gi_enter Tryz.func44,Tryz.ntmps44
  gi_wp2;go_ret;refine⟨eP ?_,hb⟩;unfold pX;simp;omega
 ·rw[show((2:Nat):Int)=2 from rfl]at hb hL1 ⊢;have hp:=SL hL1 n hn;have hm:=moOf_lt hn;by_cases hq:dn n+c<1200
  ·have hg:¬(2099<2000+((dn n:Nat):Int) / 12+(((dn n:Nat):Int) % 12+1+((c:Nat)-1:Int)) / 12):=by omega
   have hK:12 * ((dn n+c) / 12)+(dn n+c) % 12=dn n+c:=by omega
   have e1:((2000+(dn n+c) / 12:Nat):Int)=2000+((dn n:Nat):Int) / 12+(((dn n:Nat):Int) % 12+1+((c:Nat)-1:Int)) / 12:=by omega
   have e2:(((dn n+c) % 12+1:Nat):Int)=(((dn n:Nat):Int) % 12+1+((c:Nat)-1:Int)) % 12+1:=by omega
   have hlen:=wS hL1 ((dn n+c) / 12) ((dn n+c) % 12) (by omega) (by omega);have h28:=vM (dn n+c);have h31:=yY (dn n+c);have J6:=Qu hL1 ((dn n+c) / 12) ((dn n+c) % 12) (min (n-fm (dn n)+1) (jC (dn n+c))) (by omega) (by omega) (by omega);rw[hK,e1,e2]at hlen J6;rw[show((min (n-fm (dn n)+1) (jC (dn n+c)):Nat):Int)=min (((n-fm (dn n):Nat):Int)+1) ((jC (dn n+c):Nat):Int) by omega,← Ot hq]at J6;clear e1 e2;gi_enter Tryz.func44,Tryz.ntmps44
   gi_wp2_with (first
    |(gi_at_call 92;refine hp.mono ?_;rintro e w' ⟨rfl,rfl⟩)
    |(gi_at_call 94;with_reducible refine hlen.mono ?_;rintro e w' ⟨rfl,rfl⟩)
    |(gi_at_call 93;with_reducible refine J6.mono ?_;rintro e w' ⟨rfl,rfl⟩))
   go_ret;exact⟨rfl,hb⟩
  ·have hg:2099<2000+((dn n:Nat):Int) / 12+(((dn n:Nat):Int) % 12+1+((c:Nat)-1:Int)) / 12:=by omega
   have hM:pX 2 n c=36524:=by
    unfold pX sN;rw[if_pos rfl,if_pos (by omega)]
   rw[hM];gi_enter Tryz.func44,Tryz.ntmps44
   gi_wp2_with (gi_at_call 92;refine hp.mono ?_;rintro e w' ⟨rfl,rfl⟩)
   go_ret;exact⟨rfl,hb⟩
end
section
set_option maxHeartbeats 1000000
set_option maxRecDepth 10000
set_option maxHeartbeats 32000000
set_option maxRecDepth 100000
open Go Go.RowKit Lift
theorem fF.seq{N:Nat}{f:bM}{w:World}(h:fF N f w):dV w (.slice f.la f.ls.length f.lc) f.ls:=by
 rcases Nat.eq_zero_or_pos f.ls.length with e|e
 ·exact⟨f.la,0,f.lc,rfl,λi hi=>absurd hi (by omega)⟩
 ·obtain⟨b,o,e1,e2,e3⟩:=h.day e;exact⟨f.la,o,f.lc,rfl,λi hi=>⟨b,e1,e2,e3 i hi⟩⟩
def bM.Bv(f:bM)(d:Int):Bool:=f.ss.any λs=>decide (s.one≤d)&&decide (d≤s.two)
def bM.ig(f:bM)(n:Nat):Bool:=!(decide (((n:Int)+5) % 7∈f.ls)||f.Bv n)
theorem Lu(a b d:Int){D:Nat}{w:World}(hD:Blk w D 3 #[.int .i64 d]) :
  CallsIn Fz 0 Tryz.prog 154 #[.agg #[.int .i64 a,.int .i64 b],.pointer (some ⟨D,0,none⟩)] w λe w'=>e=.returned (.bool (decide (a≤d)&&decide (d≤b)))∧Below w.heap.size w w':=by
 have hB:=Blk.new w #[.int .i64 a,.int .i64 b] 84;have hb:Below w.heap.size w (w.alloc (.cells #[.int .i64 a,.int .i64 b] 84)):=(Below.refl _ w).alloc (aj _) _;have x0:=hB.cell 0;have x1:=hB.cell 1;have d0:=(hD.below hb).cell 0;have dl:=(hD.below hb).lt;simp at x0 x1 d0;have hc:=zK d a b (w.alloc (.cells #[.int .i64 a,.int .i64 b] 84));gi_enter Tryz.func154,Tryz.ntmps154
 gi_wp2_with (gi_at_call 88;refine hc.mono ?_;rintro e w' ⟨rfl,rfl⟩)
 go_ret;exact⟨rfl,hb⟩
theorem Ls{N:Nat}{f:bM}{w:World}(h:fF N f w)(hm:f.ss.length<1000000){D:Nat}{d:Int}(hD:Blk w D 3 #[.int .i64 d]) :
  CallsIn Fz 0 Tryz.prog 152 #[.slice f.sa f.ss.length f.sc,.func (.func 154) #[] #[.pointer (some ⟨D,0,none⟩)]] w λe w'=>(∃r:Int,e=.returned (.int .i64 r)∧(0≤r↔f.Bv d=true))∧Below w.heap.size w w':=by
 gi_enter Tryz.func152,Tryz.ntmps152
 gi_wp2;gi_loopw [8,5] (λv i wr=>∃k:Nat,k≤f.ss.length∧v=.int .i64 k∧Below w.heap.size w wr∧fF N f wr∧Blk wr D 3 #[.int .i64 d]∧∀j,j<k→(decide ((f.fD j).one≤d)&&decide (d≤(f.fD j).two))=false) (λv _ _=>f.ss.length-(intOf v).toNat)
 case atStart=>exact⟨0,Nat.zero_le _,rfl,Below.refl _ _,h,hD,λj q=>by omega⟩
 case round=>
  obtain⟨k,hk,rfl,hb,hc,hd,hno⟩:=hrel;by_cases hl:k<f.ss.length
  ·obtain⟨b,o,e1,e2,c0,c1⟩:=hc.span hl;have hx:=Lu (f.fD k).one (f.fD k).two d hd;rw[e1];clear e1;have HN:=Lib.hid hno;clear hno;cases hv:(decide ((f.fD k).one≤d)&&decide (d≤(f.fD k).two))with
   |true=>
    rw[hv]at hx;have hs:f.Bv d=true:=List.any_eq_true.2 ⟨f.fD k,by unfold bM.fD;rw[List.getD_eq_getElem?_getD,List.getElem?_eq_getElem hl];exact List.getElem_mem _,hv⟩;have HS:=Lib.hid hs;clear hv hs
    gi_wp2_with (gi_at_call 154;refine hx.mono ?_;rintro e w2 ⟨rfl,hb2⟩)
    go_ret;exact⟨⟨k,rfl,λ_=>HS.out,λ_=>by omega⟩,hb.trans (hb2.mono hb.size)⟩
   |false=>
    rw[hv]at hx;have HV:=Lib.hid hv;clear hv
    gi_wp2_with (gi_at_call 154;refine hx.mono ?_;rintro e w2 ⟨rfl,hb2⟩)
    go_roundw
    case rel=>
     refine⟨k+1,by omega,by go_num,hb.trans (hb2.mono hb.size),hc.below (hb2.mono hc.hN),hd.below hb2,λj q=>?_⟩;rcases(show j<k∨j=k by omega)with q|rfl
     ·exact HN.out j q
     ·exact HV.out
    case measure=>simp[intOf];omega
  ·obtain rfl:k=f.ss.length:=by omega
   have HN:=Lib.hid hno;clear hno;gi_wp2;go_ret;refine⟨⟨-1,rfl,λq=>absurd q (by decide),λq=>?_⟩,hb⟩;obtain⟨s,hs,hv⟩:=List.any_eq_true.1 q;obtain⟨j,hj,rfl⟩:=List.mem_iff_getElem.1 hs;have:=HN.out j hj;unfold bM.fD at this;rw[List.getD_eq_getElem?_getD,List.getElem?_eq_getElem hj]at this;exact absurd hv (by simpa using this)
theorem shut_in{N:Nat}{f:bM}{w:World}(h:fF N f w)(hm:f.ss.length<1000000){D:Nat}{d:Int}(hD:Blk w D 3 #[.int .i64 d]) :
  CallsIn Fz 0 Tryz.prog 90 #[.slice f.sa f.ss.length f.sc,.func (.func 154) #[] #[.pointer (some ⟨D,0,none⟩)]] w λe w'=>e=.returned (.bool (f.Bv d))∧Below w.heap.size w w':=by
 have hx:=Ls h hm hD;gi_enter Tryz.func90,Tryz.ntmps90
 gi_wp2_with (gi_at_call 152;refine hx.mono ?_;rintro e w2 ⟨⟨r,rfl,hr⟩,hb2⟩)
 go_ret;refine⟨?_,hb2⟩;cases hv:f.Bv d with
 |true=>have:=hr.2 hv;simp[this]
 |false=>
  have:¬(0≤r):=λq=>by rw[hr.1 q]at hv;cases hv
  (simp<;>omega)
end
section
set_option maxHeartbeats 1000000
set_option maxRecDepth 10000
open Go Go.RowKit
def Turns(D:Nat)(J:World→Prop):Prop:=∀W W' row,J W→W.grownBy W' row→(∀r,row=some r→r=D)→J W'
def Gp{α:Type}(F:Fence)(n:Nat)(P:Program)(g:Nat)(lb:Array Value)(encs:α→Array Value)(D:Nat)(Sn:Prop)(Sx:α→Prop)(w:World):Prop:=
 ∀(l:Nat) (J:World→Prop) (Jx:α→World→Prop) (W:World),Below w.heap.size w W→Turns D J→(∀x,Turns D (Jx x))→
  (∀x W1,J W1→YieldAt F (n-1) P l (encs x) W1 λe W'=>e=.returned (.bool false)∧Jx x W')→J W→
  CallsIn F n P g (#[.func (.yield l) #[] #[]]++lb) W λe W'=>(∃v,e=.returned v)∧((Sn∧J W')∨(∃x,Sx x∧Jx x W'))
def tX(N D:Nat)(I:World→Prop):Prop:=∀W W' row,I W→W.grownBy W' row→(∀r,row=some r→r=D∨(N≤r∧∃o:Obj,W.heap[r]?=some o∧o.isCells=false))→I W'
section
variable {F:Fence} {n:Nat} {P:Program}
theorem tX.putObj{N D:Nat}{I:World→Prop}(h:tX N D I){W:World}{l:Nat}{o:Obj}(o':Obj)(hs:I W)(hB:N≤l)(hl:W.heap[l]?=some o)(ho:o.isCells=false):I (W.putObj l o'):=
 h W _ (some l) hs (grownBy_putObj' W l o') (λr e=>by cases e;exact .inr ⟨hB,o,hl,ho⟩)
theorem tX.alloc{N D:Nat}{I:World→Prop}(h:tX N D I){W:World}(o:Obj)(hs:I W):I (W.alloc o):=
 h W _ none hs (World.grownBy_alloc W o none) (λr e=>by cases e)
theorem qJ{α:Type}{g:Operand}{ps:Array Tmp}{assign body:Code}{Q:Exit→Act→World→Prop}{a:Act}{w:World}
  (hro:F.round=none) (h1:1≤n) {gf:Nat} {lb:Array Value} (hg:a.eval g=.func (.func gf) #[] lb) (hFg:F.fn gf) (eg:∀args w,(callFunc gf args).run P w=.ok (.enter gf args) w)
  {encs:α→Array Value} {D:Nat} {Sn:Prop} {Sx:α→Prop} {w0:World} (hseq:Gp F (n-1) P gf lb encs D Sn Sx w0) (hD:D<w.heap.size)
  (hb0:Below w0.heap.size w0 w) (hps:∀x,(encs x).size=ps.size)
  (I:World→Prop) (Ix:α→World→Prop) (hI:tX w.heap.size D I) (hIx:∀x,tX w.heap.size D (Ix x)) (h0:I w) (a₁:α→Act)
  (hassign:∀(l:Nat) (x:α) (W:World) (K:Act→World→Prop),K (a₁ x) W→
   assign.wpIn (F.inRound l) (n-1-1) P (Exit.then K (λ_ _ _=>False)) { tmps:=(ps.zip (encs x)).foldl (λt (p,v)=>t.setIfInBounds p v) a.tmps,defers:=[] } W)
  (hbody:∀(l:Nat) (x:α) (W:World),I W→body.wpIn (F.inRound l) (n-1-1) P (λe _ W'=>e=.ret∧KeepsOthers W W'∧Ix x W') (a₁ x) W)
  (hdone:∀(C:Nat) (W:World),w.heap.size≤C→Sn→I W→W.heap[C]?=some (.deferred (some []))→Q .normal { a with defers:={ target:=.collected C,args:=#[] }::a.defers } W)
  (hstop:∀(C:Nat) (x:α) (W:World),w.heap.size≤C→Sx x→Ix x W→W.heap[C]?=some (.deferred (some []))→Code.ret.wpIn F n P Q { a with defers:={ target:=.collected C,args:=#[] }::a.defers } W) :
  (Code.rangeFunc g ps assign body).wpIn F n P Q a w:=by
 refine wpIn_rangeFunc ?_;intro fn hfn;rw[hro];obtain⟨rec,hrec⟩:∃rec:LoopState→Option Code→Loop,rec=λst pe=>{ state:=st,pending:=pe,fn,tmps:=a.tmps,params:=ps,assign,body,defers:=w.heap.size }:=⟨_,rfl⟩
 obtain⟨W1,hW1⟩:∃W1,(w.alloc (.deferred (some []))).alloc (.loop (rec .ready none))=W1:=⟨_,rfl⟩
 have hL1:W1.heap[w.heap.size+1]?=some (.loop (rec .ready none)):=by
  rw[← hW1];have:=World.alloc_heap_new (w.alloc (.deferred (some []))) (.loop (rec .ready none));rwa[World.size_alloc]at this
 have hK1:W1.heap[w.heap.size]?=some (.deferred (some [])):=by
  rw[← hW1];exact(Below.heap_alloc _ _ _ (by simp)).trans (World.alloc_heap_new w _)
 have hI1:I W1:=by rw[← hW1];exact hI.alloc _ (hI.alloc _ h0)
 have hb1:Below w0.heap.size w0 W1:=by
  rw[← hW1];exact hb0.trans ((((Below.refl _ w).alloc (aj _) _).alloc (by simp) _).mono hb0.size)
 refine⟨w.heap.size+1,[{ target:=.collected w.heap.size,args:=#[] }],W1,{ target:=.fn (.func gf) lb,args:=#[.func (.yield (w.heap.size+1)) #[] #[]] },W1,gf,#[.func (.yield (w.heap.size+1)) #[] #[]]++lb,W1,?_,?_,?_,?_,λ_=>h1,?_⟩
 ·rw[← hW1,hrec];exact run_enterLoop_outer _ _ _ _ _
 ·simp only[resolve,hg];simp[go_sem]
 ·intro f' hf';simp[Target.leads]at hf';subst hf';exact hFg
 ·simp[invoke,go_sem,eg]
 ·have hst:∀{A B:World} {row:Option Nat} {k:Nat} {o:Obj},A.grownBy B row→(∀r,row=some r→r=D)→w.heap.size≤k→A.heap[k]?=some o→B.heap[k]?=some o:=λhg hr hk ho=>
   (hg.block _ (Array.getElem?_eq_some_iff.1 ho).1 (λe=>by have:=hr _ e.symm;omega)).trans ho
  refine(hseq (w.heap.size+1)
   (λW=>I W∧W.heap[w.heap.size+1]?=some (.loop (rec .ready none))∧W.heap[w.heap.size]?=some (.deferred (some [])))
   (λx W=>Ix x W∧W.heap[w.heap.size+1]?=some (.loop (rec .done (some .ret)))∧W.heap[w.heap.size]?=some (.deferred (some [])))
   W1 hb1
   (λA B row hs hg' hr=>⟨hI A B row hs.1 hg' (λr e=>.inl (hr r e)),hst hg' hr (by omega) hs.2.1,hst hg' hr (by omega) hs.2.2⟩)
   (λx A B row hs hg' hr=>⟨hIx x A B row hs.1 hg' (λr e=>.inl (hr r e)),hst hg' hr (by omega) hs.2.1,hst hg' hr (by omega) hs.2.2⟩)
   ?_ ⟨hI1,hL1,hK1⟩).mono ?_
  ·rintro x W ⟨hi,hl,hk⟩;have hlt:w.heap.size+1<W.heap.size:=(Array.getElem?_eq_some_iff.1 hl).1;have hy:=run_yield (P:=P) (args:=encs x) hl (by rw[hrec];exact hps x);rw[hrec]at hy;refine⟨fn,_,assign,body,hy,roundIn_of_wpIn hfn (hassign _ x W _ ⟨_,run_beginRound hl (by rw[hrec]),?_⟩)⟩;have hl2:(W.putObj (w.heap.size+1) (.loop { rec .ready none with state:=.busy })).heap[w.heap.size+1]?=some (.loop { rec .ready none with state:=.busy }):=World.putObj_heap_same hlt;have hk2:(W.putObj (w.heap.size+1) (.loop { rec .ready none with state:=.busy })).heap[w.heap.size]?=some (.deferred (some [])):=(World.putObj_heap_other (by omega)).trans hk;refine wpIn_mono (hbody _ x _ (hI.putObj _ hi (by omega) hl rfl)) ?_;rintro e a3 W3 ⟨rfl,hk3,hi3⟩;have hl3:=hk3.same _ _ hl2 rfl;have hr:=run_endRound (P:=P) (some .ret) hl3;rw[hrec]at hr hl3 ⊢;exact⟨_,_,hr,rfl,(hIx x).putObj _ hi3 (by omega) hl3 rfl,World.putObj_heap_same (Array.getElem?_eq_some_iff.1 hl3).1,(World.putObj_heap_other (by omega)).trans (hk3.same _ _ hk2 rfl)⟩
  ·rintro e W2 ⟨⟨v,rfl⟩,(⟨hS,hi,hl,hk⟩|⟨x,hSx,hi,hl,hk⟩)⟩
   ·exact⟨none,_,by have:=run_endLoop (P:=P) hl (by rw[hrec];simp);rw[hrec]at this;exact this,hdone _ _ (aj _) hS (hI.putObj _ hi (by omega) hl rfl) ((World.putObj_heap_other (by omega)).trans hk)⟩
   ·exact⟨some .ret,_,by have:=run_endLoop (P:=P) hl (by rw[hrec];simp);rw[hrec]at this;exact this,hstop _ x _ (aj _) hSx ((hIx x).putObj _ hi (by omega) hl rfl) ((World.putObj_heap_other (by omega)).trans hk)⟩
end
end
section
set_option maxHeartbeats 1000000
set_option maxRecDepth 10000
set_option maxHeartbeats 32000000
set_option maxRecDepth 100000
open Go Go.RowKit Lift
attribute [local go_sem] Oper.semAt_some
theorem KA{op:Nat→Bool}{n:Nat}(h:n≤36524)(ho:op n=true):iP op n=n:=by
 unfold iP;rw[show 36525-n=(36524-n)+1 by omega]
 show(if op n then n else _)=n
 rw[if_pos ho]
theorem KD{op:Nat→Bool}{n:Nat}(h:n≤36524)(ho:op n=false):iP op n=iP op (n+1):=by
 unfold iP;rw[show 36525-n=(36525-(n+1))+1 by omega]
 show(if op n then n else _)=_
 rw[if_neg (by rw[ho];decide)]
theorem KC{op:Nat→Bool}:iP op 36525=36524:=rfl
theorem pDay_f(a:Int)(w:World)(h:36524<a):CallsIn Fz 0 Tryz.prog 41 #[.int .i64 a] w λe w'=>e=.returned (.bool false)∧w'=w:=by
 have k:=zK a 0 36524 w;rw[show(decide (0≤a)&&decide (a≤36524))=false by simp;omega]at k;gi_enter Tryz.func41,Tryz.ntmps41
 gi_wp2_with (gi_at_call 88;refine k.mono ?_;rintro e w' ⟨rfl,rfl⟩)
 go_ret;exact⟨rfl,rfl⟩
theorem grown_below{w w':World}(h:Below w.heap.size w w'):w.grownBy w' none:=⟨h.os,h.tape,h.output,h.size,λk hk _=>h.block k hk⟩
theorem IU{N:Nat}{f:bM}{w:World}(h:fF N f w)(hn:f.ls.length<1000000)(hm:f.ss.length<1000000){B D:Nat}{n:Nat}(hB:Blk w B 114 f.cal)(hD:Blk w D 3 #[.int .i64 n])(hne:B≠D)(hND:N≤D)(hd:n≤36524) :
  Gp Fz 0 Tryz.prog 153 #[.pointer (some ⟨D,0,none⟩),.pointer (some ⟨B,0,none⟩)] (λx:Int=>#[.int .i64 x]) D (iP f.ig n=36524) (λx=>x=iP f.ig n) w:=by
 intro lp J Jx W hW hJ hJx hY h0;have hcW:=h.below (hW.mono h.hN);have hBW:=hB.below hW;have hDW:=hD.below hW;have hN:=hcW.hN;gi_enter Tryz.func153,Tryz.ntmps153
 gi_wp2;gi_loopw [4] (λv wr=>∃k:Nat,n≤k∧k≤36525∧iP f.ig n=iP f.ig k∧J wr∧fF N f wr∧Blk wr B 114 f.cal∧Blk wr D 3 #[.int .i64 k]) (λv wr=>match wr.cell? ⟨D,0,none⟩with|some (.int _ i)=>36525-i.toNat|_=>0)
 case atStart=>exact⟨n,aj _,by omega,rfl,h0,hcW,hBW,hDW⟩
 case round=>
  obtain⟨k,hk1,hk2,hnx,hJk,hc,hb,hd'⟩:=hrel;have HX:=Lib.hid hnx;clear hnx;have b0:=hb.cell 0;have b1:=hb.cell 1;have d0:=hd'.cell 0;have dy:=hd'.frozen 0;simp at b0 b1 d0 dy;have ltB:=hb.lt;have ltD:=hd'.lt;by_cases hk:k=36525
  ·subst hk;have hp:=pDay_f ((36525:Nat):Int) wr (by omega)
   gi_wp2_with (gi_at_call 41;refine hp.mono ?_;rintro e w' ⟨rfl,hw⟩;obtain rfl:wr=w':=hw.symm)
   go_end0;exact⟨⟨_,rfl⟩,.inl ⟨HX.out.trans KC,hJk⟩⟩
  ·have hp:=La (k:Int) wr (by omega);have hin:=jy f.ls (.slice f.la f.ls.length f.lc) (((k:Int)+5) % 7) wr hc.seq hn;have hsh:=shut_in hc hm hd';have hstep:∀w2,Below wr.heap.size wr w2→f.ig k=false→∃K:Nat,K=k+1∧n≤K∧K≤36525∧iP f.ig n=iP f.ig K∧J (w2.setCell ⟨D,0,none⟩ (.int .i64 ((k:Int)+1)))∧fF N f (w2.setCell ⟨D,0,none⟩ (.int .i64 ((k:Int)+1)))∧Blk (w2.setCell ⟨D,0,none⟩ (.int .i64 ((k:Int)+1))) B 114 f.cal∧Blk (w2.setCell ⟨D,0,none⟩ (.int .i64 ((k:Int)+1))) D 3 #[.int .i64 ((k:Int)+1)]:=λw2 hb2 ho=>by
    refine⟨k+1,rfl,by omega,by omega,HX.out.trans (KD (by omega) ho),?_,?_,?_,?_⟩
    ·exact hJ w2 _ (some D) (hJ wr w2 none hJk (grown_below hb2) (λr e=>by cases e)) (grownBy_setCell' w2 D _) (λr e=>by cases e;rfl)
    ·exact(hc.below (hb2.mono hc.hN)).below ((Below.refl N w2).setCell (p:=⟨D,0,none⟩) hND _)
    ·exact(hb.below hb2).set (j:=0) (λe=>hne e.symm) _
    ·exact(hd'.below hb2).put 0 _
   cases hv:f.ig k with
   |true=>
    have ho:=hv;unfold bM.ig at ho;simp only[Bool.not_eq_true',Bool.or_eq_false_iff]at ho;rw[ho.1]at hin;rw[ho.2]at hsh;have HO:=Lib.hid (KA (show k≤36524 by omega) hv);clear hstep hv ho;have hyl:∀w2,Below wr.heap.size wr w2→YieldAt Fz (0 - 1) Tryz.prog lp #[.int .i64 k] w2 λe W'=>e=.returned (.bool false)∧Jx k W':=λw2 hb2=>hY k w2 (hJ wr w2 none hJk (grown_below hb2) (λr e=>by cases e));clear hY
    gi_wp2_with (first
     |(gi_at_call 41;refine hp.mono ?_;rintro e w' ⟨rfl,hw⟩;obtain rfl:wr=w':=hw.symm)
     |(gi_at_call 58;refine hin.mono ?_;rintro e w' ⟨rfl,hw⟩;obtain rfl:wr=w':=hw.symm)
     |(gi_at_call 90;refine hsh.mono ?_;rintro e w2 ⟨rfl,hb2⟩;have e0:=(hd'.below hb2).cell 0;simp at e0;have lt2:=(hd'.below hb2).lt;obtain⟨fn,tmps,assign,body,hy,hR⟩:=hyl w2 hb2))
    refine hR.mono ?_;rintro e W4 ⟨rfl,hJ4⟩;gi_wp2
    (try simp only[Exit.inBlock,Exit.then]);refine bodyPost_ret (results_none rfl _ _ _) rfl ?_
    exact⟨⟨_,rfl⟩,.inr ⟨k,by rw[HX.out,HO.out],hJ4⟩⟩
   |false=>
    have hst:=λw2 hb2=>hstep w2 hb2 hv;clear hstep hY;cases hm7:decide (((k:Int)+5) % 7∈f.ls)with
    |true=>
     rw[hm7]at hin;clear hm7 hv
     gi_wp2_with (first
      |(gi_at_call 41;refine hp.mono ?_;rintro e w' ⟨rfl,hw⟩;obtain rfl:wr=w':=hw.symm)
      |(gi_at_call 58;refine hin.mono ?_;rintro e w' ⟨rfl,hw⟩;obtain rfl:wr=w':=hw.symm))
     refine⟨λ_ h=>(by cases h),?_⟩;gi_wp2;go_roundw
     case rel=>
      obtain⟨K,rfl,h⟩:=hst wr (Below.refl _ _);exact⟨k+1,by simpa using h⟩
     case measure=>
      have:=((hd'.put 0 (.int .i64 ((k:Int)+1))).cell 0)
      simp at this;simp only[this,d0];omega
    |false=>
     have ho:=hv;unfold bM.ig at ho;rw[hm7]at ho hin;simp only[Bool.false_or,Bool.not_eq_false']at ho;rw[ho]at hsh;clear hm7 hv ho
     gi_wp2_with (first
      |(gi_at_call 41;refine hp.mono ?_;rintro e w' ⟨rfl,hw⟩;obtain rfl:wr=w':=hw.symm)
      |(gi_at_call 58;refine hin.mono ?_;rintro e w' ⟨rfl,hw⟩;obtain rfl:wr=w':=hw.symm)
      |(gi_at_call 90;refine hsh.mono ?_;rintro e w2 ⟨rfl,hb2⟩;have e0:=(hd'.below hb2).cell 0;have ey:=(hd'.below hb2).frozen 0;simp at e0 ey;have lt2:=(hd'.below hb2).lt))
     refine⟨λ_ h=>(by cases h),?_⟩;gi_wp2;go_roundw
     case rel=>
      obtain⟨K,rfl,h⟩:=hst w2 hb2;exact⟨k+1,by simpa using h⟩
     case measure=>
      have:=(((hd'.below hb2).put 0 (.int .i64 ((k:Int)+1))).cell 0)
      simp at this;simp only[this,d0];omega
end
section
set_option maxHeartbeats 1000000
set_option maxRecDepth 10000
set_option maxHeartbeats 32000000
set_option maxRecDepth 100000
open Go Go.RowKit Lift
attribute [local go_sem] Oper.semAt_some
theorem tu{fn:Func}{p:Tmp}(h:fn.results=#[.cell p 3])(tmps:Array Value)(w:World)(g:Nat)(x:Int)(hp:tmps.getD p undef=.pointer (some ⟨g,0,none⟩))(hg:w.cell? ⟨g,0,none⟩=some (.int .i64 x)) :
  (results fn tmps).run Tryz.prog w=.ok (.int .i64 x) w:=by
 have hp':tmps[p]?.getD undef=.pointer (some ⟨g,0,none⟩):=by simpa using hp
 simp[results,h,hp',asAddr,loadVar,go_sem,hg]
theorem next_in{N:Nat}{f:bM}{w:World}(h:fF N f w)(hn:f.ls.length<1000000)(hm:f.ss.length<1000000){n:Nat}(hd:n≤36524) :
  CallsIn Fz 1 Tryz.prog 43 #[.agg f.cal,.int .i64 n] w λe w'=>e=.returned (.int .i64 (iP f.ig n))∧Below w.heap.size w w':=by
 refine callsIn_of_wp_marks Tryz.func43 rfl (by simp) ?_ rfl;simp only[Tryz.ntmps43,aF,aC,aG,Nat.reduceAdd,Nat.reduceSub,Array.replicate_succ,Array.replicate_zero,List.push_toArray,List.append_toArray,List.nil_append,List.cons_append];have hX:=Blk.new w f.cal 114;have hb1:Below w.heap.size w ((w.alloc (.cells f.cal 114)).alloc (.cells #[.int .i64 0] 3)):=((Below.refl _ w).alloc (aj _) _).alloc (by simp) _;have hX1:Blk ((w.alloc (.cells f.cal 114)).alloc (.cells #[.int .i64 0] 3)) w.heap.size 114 f.cal:=hX.below ((Below.refl _ _).alloc (aj _) _);have hR1:Blk ((w.alloc (.cells f.cal 114)).alloc (.cells #[.int .i64 0] 3)) (w.heap.size+1) 3 #[.int .i64 0]:=by
  have:=Blk.new (w.alloc (.cells f.cal 114)) #[.int .i64 0] 3;simpa using this
 have hsz:((w.alloc (.cells f.cal 114)).alloc (.cells #[.int .i64 0] 3)).heap.size=w.heap.size+2:=by simp
 gi_wp2;generalize (w.alloc (.cells f.cal 114)).alloc (.cells #[.int .i64 0] 3)=W at *;have hB2:Blk ((W.alloc (.cells f.cal 114)).alloc (.cells #[.int .i64 n] 3)) (w.heap.size+2) 114 f.cal:=by
  rw[← hsz];exact(Blk.new W f.cal 114).below ((Below.refl _ _).alloc (aj _) _)
 have hD2:Blk ((W.alloc (.cells f.cal 114)).alloc (.cells #[.int .i64 n] 3)) (w.heap.size+2+1) 3 #[.int .i64 n]:=by
  have:=Blk.new (W.alloc (.cells f.cal 114)) #[.int .i64 n] 3;rw[← hsz];simpa using this
 have hbW:Below W.heap.size W ((W.alloc (.cells f.cal 114)).alloc (.cells #[.int .i64 n] 3)):=((Below.refl _ W).alloc (aj _) _).alloc (by simp) _;have hR2:=hR1.below hbW;have hb2:=hb1.trans (hbW.mono hb1.size);have hsz2:((W.alloc (.cells f.cal 114)).alloc (.cells #[.int .i64 n] 3)).heap.size=w.heap.size+4:=by simp[hsz]
 clear hbW hX1 hR1 hb1;generalize (W.alloc (.cells f.cal 114)).alloc (.cells #[.int .i64 n] 3)=V at *;have hN:=h.hN;have hcV:=h.below (hb2.mono h.hN);have tI:∀x:Int,tX V.heap.size (w.heap.size+2+1) λW'=>Below w.heap.size w W'∧Blk W' (w.heap.size+1) 3 #[.int .i64 x]:=λx A B row hs hg hr=>by
  refine⟨hs.1.grown hg hs.1.size (λk e=>?_),(hg.block _ hs.2.lt (λe=>?_)).trans hs.2⟩
  ·rcases hr k e with e|e<;>omega
  ·rcases hr _ e.symm with e|e<;>omega
 refine qJ rfl (aj 1) (gf:=153) (lb:=#[.pointer (some ⟨w.heap.size+2+1,0,none⟩),.pointer (some ⟨w.heap.size+2,0,none⟩)]) rfl (by simp) (enters_of Tryz.func153 (by kernel_rfl) rfl)
  (IU hcV hn hm hB2 hD2 (by omega) (by omega) hd) (by omega) (Below.refl _ _) (λ_=>rfl)
  (λW'=>Below w.heap.size w W'∧Blk W' (w.heap.size+1) 3 #[.int .i64 0]) (λx W'=>Below w.heap.size w W'∧Blk W' (w.heap.size+1) 3 #[.int .i64 x])
  (tI 0) tI ⟨hb2,hR2⟩
  (λx=>⟨#[.agg f.cal,.int .i64 n,.pointer (some ⟨w.heap.size,0,none⟩),undef,.pointer (some ⟨w.heap.size+1,0,none⟩),.int .i64 x,.agg #[.slice f.la f.ls.length f.lc,.slice f.sa f.ss.length f.sc],.int .i64 n,.func (.func 153) #[] #[.pointer (some ⟨w.heap.size+2+1,0,none⟩),.pointer (some ⟨w.heap.size+2,0,none⟩)],.int .i64 x,undef],[]⟩) ?assign ?body ?done ?stop
 case assign=>
  intro l0 x W' K hK;gi_wp2;exact hK
 case body=>
  rintro l0 x W' ⟨hb3,Jm⟩;have r0:=Jm.cell 0;have ry:=Jm.frozen 0;simp at r0 ry;have ltR:=Jm.lt;gi_wp2;exact⟨KeepsOthers.setCell _ _ _,hb3.setCell (p:=⟨w.heap.size+1,0,none⟩) (by simp) _,Jm.put 0 _⟩
 case done=>
  rintro C W' hC hnx ⟨hb3,Jm⟩ hK;have r0:=Jm.cell 0;have ry:=Jm.frozen 0;simp at r0 ry;have ltR:=Jm.lt;gi_wp2;have hK':(W'.setCell ⟨w.heap.size+1,0,none⟩ (.int .i64 36524)).heap[C]?=some (.deferred (some [])):=(Below.heap_setCell W' ⟨w.heap.size+1,0,none⟩ _ C (λe=>by simp at e;omega)).trans hK;have hb4:Below w.heap.size w (W'.setCell ⟨w.heap.size+1,0,none⟩ (.int .i64 36524)):=hb3.setCell (p:=⟨w.heap.size+1,0,none⟩) (by simp) _;have MK:=Jm.put 0 (.int .i64 36524);refine⟨by simp,.inl ⟨_,_,rfl,run_takeDeferred hK',?_⟩⟩;refine⟨_,tu rfl _ _ (w.heap.size+1) 36524 rfl ?_,by rw[hnx];rfl,hb4.trans (belowK_b (w:=w) (aj _) _ C _ _ (by omega) hK' rfl rfl)⟩;have:Blk ((W'.setCell ⟨w.heap.size+1,0,none⟩ (.int .i64 36524)).putObj C (.deferred none)) (w.heap.size+1) 3 #[.int .i64 36524]:=(World.putObj_heap_other (by omega)).trans MK;simpa using this.cell 0
 case stop=>
  rintro C x W' hC rfl ⟨hb3,Jm⟩ hK;gi_wp2;refine⟨by simp,.inl ⟨_,_,rfl,run_takeDeferred hK,?_⟩⟩;refine⟨_,tu rfl _ _ (w.heap.size+1) _ rfl ?_,rfl,hb3.trans (belowK_b (w:=w) (aj _) _ C _ _ (by omega) hK rfl rfl)⟩;have:Blk (W'.putObj C (.deferred none)) (w.heap.size+1) 3 #[.int .i64 (iP f.ig n)]:=(World.putObj_heap_other (by omega)).trans Jm;simpa using this.cell 0
end
section
set_option maxHeartbeats 1000000
set_option maxRecDepth 10000
set_option maxHeartbeats 64000000
set_option maxRecDepth 100000
open Go Go.RowKit Lift
def WK(w0:World)(k:Nat)(V:Nat→Value)(ty:TypeId)(cs:Array Value):Wg:=λD x w=>Below w0.heap.size w0 w∧(D k=true→∃B,x=V B∧w0.heap.size≤B∧Blk w B ty cs)
theorem WK.step{w0 w w':World}{k i:Nat}{V:Nat→Value}{ty:TypeId}{cs:Array Value}{D:Nat→Bool}{x:Value}(h:WK w0 k V ty cs D x w)(hi:i≠k)(hb:Below w.heap.size w w'):WK w0 k V ty cs (bI D i) x w':=by
 have e1:bI D i k=D k:=by simp[bI,Ne.symm hi]
 refine⟨h.1.trans (hb.mono h.1.size),λhd=>?_⟩;rw[e1]at hd;obtain⟨B,h1,h2,h3⟩:=h.2 hd;exact⟨B,h1,h2,h3.below hb⟩
theorem WK.make{w0 w:World}{k:Nat}{V:Nat→Value}{ty:TypeId}{cs:Array Value}{D:Nat→Bool}{x:Value}(h:WK w0 k V ty cs D x w):WK w0 k V ty cs (bI D k) (V w.heap.size) (w.alloc (.cells cs ty)):=
 ⟨h.1.alloc h.1.size _,λ_=>⟨_,rfl,h.1.size,Blk.new w cs ty⟩⟩
set_option maxHeartbeats 128000000 in
theorem L8{N:Nat}{f:bM}{w:World}(h:fF N f w)(ok:f.Gi)(hL:iR w)(hn:f.ls.length<1000000)(u n c:Nat)(hd:n≤36524)(hc:c≤999)(hu:u≤2) :
  CallsIn Fz 0 Tryz.prog 12 #[.agg f.cal,.int .i64 n,.agg #[.int .i64 c,.int .i64 u]] w λe w'=>e=.returned (.tuple #[.int .i64 (zN f.ig u n c),.int .i64 0])∧Below w.heap.size w w':=by
 have ns:=ok.ns;have h1:=hL.lt;have hb:Below w.heap.size w (((w.alloc (.cells f.cal 31)).alloc (.cells #[.int .i64 c,.int .i64 u] 34)).alloc (.cells f.cal 114)):=(((Below.refl _ w).alloc (aj _) _).alloc (by simp) _).alloc (by simp;omega) _;have hZ:Blk (((w.alloc (.cells f.cal 31)).alloc (.cells #[.int .i64 c,.int .i64 u] 34)).alloc (.cells f.cal 114)) (w.heap.size+1+1) 114 f.cal:=by
  have:=Blk.new ((w.alloc (.cells f.cal 31)).alloc (.cells #[.int .i64 c,.int .i64 u] 34)) f.cal 114;simpa using this
 have hT:Blk (((w.alloc (.cells f.cal 31)).alloc (.cells #[.int .i64 c,.int .i64 u] 34)).alloc (.cells f.cal 114)) (w.heap.size+1) 34 #[.int .i64 c,.int .i64 u]:=by
  have:=(Blk.new (w.alloc (.cells f.cal 31)) #[.int .i64 c,.int .i64 u] 34).below ((Below.refl _ _).alloc (aj _) (.cells f.cal 114));simpa using this
 gi_enter Tryz.func12,Tryz.ntmps12
 gi_wp2;generalize (((w.alloc (.cells f.cal 31)).alloc (.cells #[.int .i64 c,.int .i64 u] 34)).alloc (.cells f.cal 114))=V at *;have hcV:=h.below (hb.mono h.hN);have hLV:=hL.below hb h1;refine dX rfl mixed (by kernel_rfl) (WK V 8 (λB=>.slice (some ⟨B,0,none⟩) 3 3) 42 #[.int .i64 0,.int .i64 0,.int .i64 0]) 20 (x₀:=undef) rfl ⟨(show Below V.heap.size V { V with drawn:=V.drawn+1 }from⟨rfl,rfl,rfl,aj _,λ_ _=>rfl⟩),λh=>by cases h⟩ ?_;simp only[aF,aC,aG,Nat.reduceAdd,Nat.zero_add,List.range,List.range.loop]
 iterate 8
  (refine bC rfl (λ_=>rfl) (by decide) rfl ?_
   apply ah;refine⟨λD x w' hm hW K Q hK=>?_,?_⟩
   ·have qZ:=hZ.below hW.1;have qT:=hT.below hW.1;have z0:=qZ.cell 0;have z1:=qZ.cell 1;have t0:=qT.cell 0;have t1:=qT.cell 1;simp at z0 z1 t0 t1;have lZ:=qZ.lt;have lT:=qT.lt;simp only[Lift.Act.bW,ak,ay,au]
    gi_wp2_with (first
     |(gi_at_call 39;refine(SI (hcV.below (hW.1.mono hcV.hN)) ok hn).mono ?_;rintro e w3 ⟨rfl,hb3⟩)
     |(gi_at_call 41;refine(La _ _ (by omega)).mono ?_;rintro e w3 ⟨rfl,rfl⟩;have hb3:=Below.refl w3.heap.size w3)
     |(gi_at_call 40;refine(Qb _ _).mono ?_;rintro e w3 ⟨rfl,rfl⟩;have hb3:=Below.refl w3.heap.size w3)
     |(gi_at_call 42;refine(SK _ _ _ (by omega) (by omega)).mono ?_;rintro e w3 ⟨rfl,hb3⟩))
    first
    |exact hW.step (by decide) (Below.refl _ _)
    |exact hW.step (by decide) hb3
   apply ah;refine⟨λx=>rfl,?_⟩)
 refine vF rfl (λ_=>rfl) rfl rfl (λD x w' hm hW K Q hK=>?_) ?_
 ·simp only[Lift.Act.bW,ak,ay,au]at hK ⊢;gi_wp2;exact hW.make
 refine bC rfl (λ_=>rfl) (by decide) rfl ?_;apply ah;refine⟨λD x w' hm hW K Q hK=>?_,?_⟩
 ·obtain⟨B,hx,hB0,hBk⟩:=hW.2 (hm.2.1 8 (by kernel_rfl));have hcall:=QS hBk;rw[← show x=.slice (some ⟨B,0,none⟩) 3 3 from hx]at hcall;clear hx;simp only[Lift.Act.bW,ak,ay,au]
  gi_wp2_with (gi_at_call 38;refine hcall.mono ?_;rintro e w3 ⟨rfl,rfl⟩)
  exact hW.step (by decide) (Below.refl _ _)
 apply ah;refine⟨λx=>rfl,?_⟩;refine bC rfl (λ_=>rfl) (by decide) rfl ?_;apply ah;refine⟨λD x w' hm hW K Q hK=>?_,?_⟩
 ·simp only[Lift.Act.bW,ak,ay,au];gi_wp2;exact hW.step (by decide) (Below.refl _ _)
 apply ah;refine⟨λx=>rfl,?_⟩;rintro x w2 ⟨hb2,hx⟩;clear hx;have hV2:=hb.trans (hb2.mono hb.size);replace hZ:=hZ.below hb2;replace hT:=hT.below hb2;replace hcV:=hcV.below (hb2.mono hcV.hN);replace hLV:=hLV.below hb2 hLV.lt;clear hb hb2;simp only[Lift.Act.bW,ak,ay,au];gi_wp2;refine aZ (λw'=>Below w2.heap.size w2 w') rfl mixed (by kernel_rfl) (λd=>⟨rfl,rfl,rfl,aj _,λ_ _=>rfl⟩) ?_;simp only[aF,aC,aG,Nat.reduceAdd,Nat.zero_add,List.range,List.range.loop]
 iterate 7
  (refine aS rfl rfl (by kernel_rfl) (.inr rfl) ?_
   apply ah;refine⟨λw' hw' K Q hK=>?_,?_⟩
   ·have qZ:=hZ.below hw';have qT:=hT.below hw';have z0:=qZ.cell 0;have z1:=qZ.cell 1;have t0:=qT.cell 0;have t1:=qT.cell 1;simp at z0 z1 t0 t1;have lZ:=qZ.lt;have lT:=qT.lt
    gi_wp2_with (first
     |(gi_at_call 44;refine(RI (hLV.below hw' hLV.lt) u n c hd hc hu).mono ?_;rintro e w3 ⟨rfl,hb3⟩)
     |(gi_at_call 43;refine(oD (m:=0) (next_in (hcV.below (hw'.mono hcV.hN)) hn (by omega) (Ie u n c))).mono ?_;rintro e w3 ⟨rfl,hb3⟩))
    first
    |exact hw'
    |exact hw'.trans (hb3.mono hw'.size)
   apply ah;refine⟨rfl,?_⟩)
 intro w3 hw3;gi_wp2
 (try simp only[Exit.inBlock,Exit.then])
 refine bodyPost_ret (results_tmp2 rfl _ _ _) rfl ?_;exact⟨rfl,hV2.trans (hw3.mono hV2.size)⟩
end
