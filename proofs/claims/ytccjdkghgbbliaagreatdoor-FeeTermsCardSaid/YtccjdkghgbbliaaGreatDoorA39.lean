/- When a term ends, in plain words: a later start and a longer term end no earlier. Nothing of the program stands here. -/
import Derived.Test.YtccjdkghgbbliaaGreatDoorA11
import Derived.Test.YtccjdkghgbbliaaGreatDoorA17
set_option linter.all false
namespace Go.Proofs.YtccjdkghgbbliaaGreatDoor
section
set_option maxHeartbeats 1000000
set_option maxRecDepth 10000
def jC(M:Nat):Nat:=if M % 12=1 then(if M / 12 % 4=0 then 29 else 28)else if M % 12=3∨M % 12=5∨M % 12=8∨M % 12=10 then 30 else 31
theorem vM(M:Nat):28≤jC M:=by
 unfold jC
 repeat' split
 all_goals omega
theorem yY(M:Nat):jC M≤31:=by
 unfold jC
 repeat' split
 all_goals omega
def fm:Nat→Nat
 |0=>0
 |M+1=>fm M+jC M
theorem EW{M K:Nat}(h:M<K):fm M+jC M≤fm K:=by
 induction K with
 |zero=>omega
 |succ K ih=>
  have e:fm (K+1)=fm K+jC K:=rfl;rcases Nat.lt_or_ge M K with q|q
  ·have:=ih q;omega
  ·obtain rfl:M=K:=by omega
   omega
theorem yV{M K:Nat}(h:M≤K):fm M≤fm K:=by
 rcases Nat.lt_or_ge M K with q|q
 ·have:=EW q;omega
 ·obtain rfl:M=K:=by omega
  exact aj _
theorem JZ:fm 1200=36525:=by decide +kernel
def dn:Nat→Nat
 |0=>0
 |n+1=>if fm (dn n+1)≤n+1 then dn n+1 else dn n
theorem kJ(n:Nat):fm (dn n)≤n∧n<fm (dn n+1):=by
 induction n with
 |zero=>exact⟨aj _,by decide⟩
 |succ n ih=>
  unfold dn;split
  ·rename_i h;refine⟨h,?_⟩;have e:fm (dn n+1+1)=fm (dn n+1)+jC (dn n+1):=rfl;have:=vM (dn n+1);omega
  ·rename_i h;exact⟨by omega,by omega⟩
theorem moOf_eq{n M:Nat}(h1:fm M≤n)(h2:n<fm (M+1)):dn n=M:=by
 have h:=kJ n;rcases Nat.lt_trichotomy (dn n) M with q|q|q
 ·have:=yV (show dn n+1≤M from q);omega
 ·exact q
 ·have:=yV (show M+1≤dn n from q);omega
theorem Oz{n k:Nat}(h:n≤k):dn n≤dn k:=by
 have h1:=kJ n;have h2:=kJ k;rcases Nat.lt_or_ge (dn k) (dn n)with q|q
 ·have:=yV (show dn k+1≤dn n from q);omega
 ·exact q
theorem moOf_lt{n:Nat}(h:n≤36524):dn n<1200:=by
 have h1:=kJ n;rcases Nat.lt_or_ge (dn n) 1200 with q|q
 ·exact q
 ·have:=yV q;rw[JZ]at this;omega
def sN(n c:Nat):Nat:=if 1200≤dn n+c then 36524 else fm (dn n+c)+min (n-fm (dn n)) (jC (dn n+c)-1)
def pX(u n c:Nat):Nat:=if u=2 then sN n c else min 36524 (n+(if u=1 then c * 7 else c))
theorem Ic(n c:Nat):sN n c≤36524:=by
 unfold sN;split
 ·exact aj _
 ·rename_i h;have h1:=EW (show dn n+c<1200 by omega);have h2:=vM (dn n+c);rw[JZ]at h1;omega
theorem Ie(u n c:Nat):pX u n c≤36524:=by
 unfold pX;split
 ·exact Ic n c
 ·omega
theorem Ku{n k c d:Nat}(h:n≤k)(hc:c≤d):sN n c≤sN k d:=by
 have hm:=Oz h;have hn:=kJ n;have hk:=kJ k;by_cases q:1200≤dn k+d
 ·rw[show sN k d=36524 from if_pos q];exact Ic n c
 ·unfold sN;rw[if_neg q,if_neg (by omega)];rcases Nat.lt_or_ge (dn n+c) (dn k+d)with z|z
  ·have h1:=EW z;have h2:=vM (dn n+c);omega
  ·have e1:dn n=dn k:=by omega
   have e2:c=d:=by omega
   rw[e1,e2];omega
theorem Kv{u n k c d:Nat}(h:n≤k)(hc:c≤d):pX u n c≤pX u k d:=by
 unfold pX;split
 ·exact Ku h hc
 ·split<;>omega
def Il(op:Nat→Bool):Nat→Nat→Nat
 |0,_=>36524
 |f+1,n=>if op n then n else Il op f (n+1)
def iP(op:Nat→Bool)(n:Nat):Nat:=Il op (36525-n) n
theorem Ip(op:Nat→Bool):∀f n,n+f=36525→n≤36524→n≤Il op f n∧Il op f n≤36524
 |0,n,h,hn=>by omega
 |f+1,n,h,hn=>by
  unfold Il;split
  ·exact⟨aj _,hn⟩
  ·rcases Nat.eq_zero_or_pos f with rfl|q
   ·exact⟨hn,aj _⟩
   ·have:=Ip op f (n+1) (by omega) (by omega);exact⟨by omega,this.2⟩
theorem Si{op:Nat→Bool}{n:Nat}(h:n≤36524):n≤iP op n∧iP op n≤36524:=Ip op _ n (by omega) h
theorem KE{op:Nat→Bool}{n:Nat}(h:n<36524):iP op n≤iP op (n+1):=by
 have h1:=Si (op:=op) (n:=n+1) (by omega);unfold iP at h1 ⊢;rw[show 36525-n=(36525-(n+1))+1 by omega]
 show(if op n then n else _)≤_
 split
 ·omega
 ·exact aj _
theorem Kz{op:Nat→Bool}{n k:Nat}(h:n≤k)(hk:k≤36524):iP op n≤iP op k:=by
 induction k with
 |zero=>
  obtain rfl:n=0:=by omega
  exact aj _
 |succ k ih=>
  rcases Nat.lt_or_ge n (k+1)with q|q
  ·exact Nat.le_trans (ih (by omega) (by omega)) (KE (by omega))
  ·obtain rfl:n=k+1:=by omega
   exact aj _
def zN(op:Nat→Bool)(u n c:Nat):Nat:=iP op (pX u n c)
theorem JJ{op:Nat→Bool}{u n k c d:Nat}(h:n≤k)(hc:c≤d):zN op u n c≤zN op u k d:=Kz (Kv h hc) (Ie _ _ _)
end
section
set_option maxHeartbeats 1000000
set_option maxRecDepth 10000
open Go Go.RowKit Lift
structure uT where
 one:Int
 two:Int
structure pI where
 kind:Int
 day:Int
structure mJ where
 since:Int
 made:Int
 ia:Option Addr
 items:List Int
 ic:Nat
structure Gn where
 start:Int
 count:Int
 unit:Int
 done:Int
 freed:Int
 asked:Int
structure zu where
 name:ByteArray
 pa:Option Addr
 ps:List pI
 pc:Nat
 ca:Option Addr
 cs:List mJ
 cc:Nat
 da:Option Addr
 ds:List Gn
 dc:Nat
structure bM where
 la:Option Addr
 ls:List Int
 lc:Nat
 sa:Option Addr
 ss:List uT
 sc:Nat
 kinds:Int
 t0:Int
 u0:Int
 t1:Int
 u1:Int
 t2:Int
 u2:Int
 t3:Int
 u3:Int
 t4:Int
 u4:Int
 items:Int
 aa:Option Addr
 apps:List zu
 ac:Nat
def jZ(l:List Int):List (List Value):=l.map λi=>[.int .i64 i]
def uT.row(s:uT):List Value:=[.int .i64 s.one,.int .i64 s.two]
def pI.row(p:pI):List Value:=[.int .i64 p.kind,.int .i64 p.day]
def mJ.row(c:mJ):List Value:=[.int .i64 c.since,.int .i64 c.made,.slice c.ia c.items.length c.ic]
def Gn.row(d:Gn):List Value:=[.int .i64 d.start,.int .i64 d.count,.int .i64 d.unit,.int .i64 d.done,.int .i64 d.freed,.int .i64 d.asked]
def zu.row(a:zu):List Value:=[.string a.name,.slice a.pa a.ps.length a.pc,.slice a.ca a.cs.length a.cc,.slice a.da a.ds.length a.dc]
abbrev bM.cal(f:bM):Array Value:=#[.slice f.la f.ls.length f.lc,.slice f.sa f.ss.length f.sc]
abbrev bM.arr(f:bM):Array Value:=#[.slice f.la f.ls.length f.lc,.slice f.sa f.ss.length f.sc,.int .i64 f.kinds,.int .i64 f.t0,.int .i64 f.u0,.int .i64 f.t1,.int .i64 f.u1,.int .i64 f.t2,.int .i64 f.u2,.int .i64 f.t3,.int .i64 f.u3,.int .i64 f.t4,.int .i64 f.u4,.int .i64 f.items,.slice f.aa f.apps.length f.ac]
structure ou (N:Nat) (c:mJ) (w:World):Prop where
 is:bg N c.ia 1 (jZ c.items) w
structure Dj (N:Nat) (a:zu) (w:World):Prop where
 ps:bg N a.pa 2 (a.ps.map pI.row) w
 cs:bg N a.ca 3 (a.cs.map mJ.row) w
 cl:∀c∈a.cs,ou N c w
 ds:bg N a.da 6 (a.ds.map Gn.row) w
structure fF (N:Nat) (f:bM) (w:World):Prop where
 hN:N≤w.heap.size
 ls:bg N f.la 1 (jZ f.ls) w
 ss:bg N f.sa 2 (f.ss.map uT.row) w
structure fP (N:Nat) (f:bM) (w:World):Prop where
 cal:fF N f w
 rs:bg N f.aa 4 (f.apps.map zu.row) w
 at_:∀a∈f.apps,Dj N a w
theorem ou.below{N:Nat}{c:mJ}{w w':World}(h:ou N c w)(hb:Below N w w'):ou N c w':=⟨h.is.below hb⟩
theorem Dj.below{N:Nat}{a:zu}{w w':World}(h:Dj N a w)(hb:Below N w w'):Dj N a w':=⟨h.ps.below hb,h.cs.below hb,λc hc=>(h.cl c hc).below hb,h.ds.below hb⟩
theorem fF.below{N:Nat}{f:bM}{w w':World}(h:fF N f w)(hb:Below N w w'):fF N f w':=⟨Nat.le_trans h.hN hb.size,h.ls.below hb,h.ss.below hb⟩
theorem fP.below{N:Nat}{f:bM}{w w':World}(h:fP N f w)(hb:Below N w w'):fP N f w':=⟨h.cal.below hb,h.rs.below hb,λa ha=>(h.at_ a ha).below hb⟩
def bM.qj(f:bM)(i:Nat):Int:=f.ls.getD i 0
def bM.fD(f:bM)(i:Nat):uT:=f.ss.getD i ⟨0,0⟩
structure bM.Gi (f:bM):Prop where
 ls:∀i,i<f.ls.length→0≤f.qj i∧f.qj i≤6
 up:∀i,0<i→i<f.ls.length→f.qj (i-1)<f.qj i
 ns:f.ss.length≤6
 ss:∀i,i<f.ss.length→0≤(f.fD i).one∧(f.fD i).one≤(f.fD i).two∧(f.fD i).two≤36524
theorem fF.day{N:Nat}{f:bM}{w:World}(h:fF N f w){i:Nat}(hi:i<f.ls.length):∃b o,f.la=some ⟨b,o,none⟩∧b<w.heap.size∧∀j,j<f.ls.length→w.cell? ⟨b,o+j,none⟩=some (.int .i64 (f.qj j)):=by
 have hr:∀j,j<f.ls.length→(jZ f.ls)[j]?=some [.int .i64 (f.qj j)]:=λj hj=>by
  unfold jZ bM.qj;rw[List.getElem?_map,List.getElem?_eq_getElem hj,List.getD_eq_getElem?_getD,List.getElem?_eq_getElem hj];rfl
 obtain⟨b,o,e1,e2,_⟩:=h.ls i _ (hr i hi);refine⟨b,o,e1,aA e2 h.hN,λj hj=>?_⟩;obtain⟨b',o',e1',_,e3'⟩:=h.ls j _ (hr j hj);rw[e1]at e1';cases e1';have:=e3' 0 _ rfl;simpa using this
theorem fF.span{N:Nat}{f:bM}{w:World}(h:fF N f w){i:Nat}(hi:i<f.ss.length):∃b o,f.sa=some ⟨b,o,none⟩∧b<w.heap.size∧w.cell? ⟨b,o+i * 2,none⟩=some (.int .i64 (f.fD i).one)∧w.cell? ⟨b,o+i * 2+1,none⟩=some (.int .i64 (f.fD i).two):=by
 obtain⟨b,o,e1,e2,e3⟩:=h.ss i (f.fD i).row (by
  unfold bM.fD;rw[List.getElem?_map,List.getElem?_eq_getElem hi,List.getD_eq_getElem?_getD,List.getElem?_eq_getElem hi];rfl)
 refine⟨b,o,e1,aA e2 h.hN,?_,?_⟩
 ·simpa using e3 0 _ rfl
 ·simpa using e3 1 _ rfl
end
section
set_option maxHeartbeats 1000000
set_option maxRecDepth 10000
open Go Go.RowKit Lift
theorem wI(a:Int)(w:World)(h:0≤a∧a≤36524):CallsIn Fz 0 Tryz.prog 202 #[.int .i64 a] w λe w'=>e=.returned (.bool true)∧w'=w:=by
 gi_enter Tryz.func202,Tryz.ntmps202
 gi_wp2_with (gi_at_call 76;refine(gQ _ _ _ _ h).mono ?_;rintro e w' ⟨rfl,rfl⟩)
 go_ret;exact⟨rfl,rfl⟩
theorem zJ(a:Int)(w:World)(h:¬(0≤a∧a≤36524)):CallsIn Fz 0 Tryz.prog 202 #[.int .i64 a] w λe w'=>e=.returned (.bool false)∧w'=w:=by
 gi_enter Tryz.func202,Tryz.ntmps202
 gi_wp2_with (gi_at_call 76;refine(lN _ _ _ _ h).mono ?_;rintro e w' ⟨rfl,rfl⟩)
 go_ret;exact⟨rfl,rfl⟩
theorem Nj(a b lo hi:Int)(w:World):CallsIn Fz 0 Tryz.prog 137 #[.agg #[.int .i64 a,.int .i64 b],.int .i64 lo,.int .i64 hi] w λe w'=>e=.returned (.bool (decide (lo≤a)&&decide (a≤b)&&decide (b≤hi)))∧Below w.heap.size w w':=by
 have hB:=Blk.new w #[.int .i64 a,.int .i64 b] 84;have hb:Below w.heap.size w (w.alloc (.cells #[.int .i64 a,.int .i64 b] 84)):=(Below.refl _ w).alloc (aj _) _;by_cases h1:lo≤a
 ·by_cases h2:a≤b
  ·by_cases h3:b≤hi
   all_goals
    gi_enter Tryz.func137,Tryz.ntmps137
    gi_wp2;go_ret;exact⟨by simp[h1,h2,h3],hb⟩
  ·gi_enter Tryz.func137,Tryz.ntmps137
   gi_wp2;go_ret;exact⟨by simp;omega,hb⟩
 ·gi_enter Tryz.func137,Tryz.ntmps137
  gi_wp2;go_ret;exact⟨by simp;omega,hb⟩
def pz(c u:Int):Int:=if(0≤c∧c≤999)∧0≤u∧u≤2 then 0 else 1
theorem mY(c u:Int)(w:World):CallsIn Fz 0 Tryz.prog 77 #[.agg #[.int .i64 c,.int .i64 u]] w λe w'=>e=.returned (.int .i64 (pz c u))∧Below w.heap.size w w':=by
 have hB:=Blk.new w #[.int .i64 c,.int .i64 u] 34;have hb:Below w.heap.size w (w.alloc (.cells #[.int .i64 c,.int .i64 u] 34)):=(Below.refl _ w).alloc (aj _) _;by_cases h1:0≤c∧c≤999
 ·by_cases h2:0≤u
  ·by_cases h3:u≤2
   ·have ht:pz c u=0:=if_pos ⟨h1,h2,h3⟩;rw[ht];gi_enter Tryz.func77,Tryz.ntmps77
    gi_wp2_with (gi_at_call 76;refine(gQ _ _ _ _ h1).mono ?_;rintro e w' ⟨rfl,rfl⟩)
    go_ret;exact⟨rfl,hb⟩
   ·have ht:pz c u=1:=if_neg λq=>h3 q.2.2;rw[ht];gi_enter Tryz.func77,Tryz.ntmps77
    gi_wp2_with (gi_at_call 76;refine(gQ _ _ _ _ h1).mono ?_;rintro e w' ⟨rfl,rfl⟩)
    go_ret;exact⟨rfl,hb⟩
  ·have ht:pz c u=1:=if_neg λq=>h2 q.2.1;rw[ht];gi_enter Tryz.func77,Tryz.ntmps77
   gi_wp2_with (gi_at_call 76;refine(gQ _ _ _ _ h1).mono ?_;rintro e w' ⟨rfl,rfl⟩)
   go_ret;exact⟨rfl,hb⟩
 ·have ht:pz c u=1:=if_neg λq=>h1 q.1;rw[ht];gi_enter Tryz.func77,Tryz.ntmps77
  gi_wp2_with (gi_at_call 76;refine(lN _ _ _ _ h1).mono ?_;rintro e w' ⟨rfl,rfl⟩)
  go_ret;exact⟨rfl,hb⟩
end
section
set_option maxHeartbeats 1000000
set_option maxRecDepth 10000
set_option maxHeartbeats 16000000
set_option maxRecDepth 100000
open Go Go.RowKit Lift
def kQ(e:Ending)(P:Prop):Prop:=∃r:Int,e=.returned (.int .i64 r)∧(r=0→P)
theorem kQ.bad{e:Ending}{P:Prop}(r:Int)(h:e=.returned (.int .i64 r))(hr:r≠0):kQ e P:=⟨r,h,λq=>absurd q hr⟩
theorem calF_in{N:Nat}{f:bM}{w:World}(h:fF N f w)(hn:f.ls.length<1000000)(hm:f.ss.length<1000000) :
  CallsIn Fz 0 Tryz.prog 75 #[.agg f.cal] w λe w'=>kQ e f.Gi∧Below w.heap.size w w':=by
 have hN:=h.hN;have hb1:Below w.heap.size w (w.alloc (.cells f.cal 31)):=(Below.refl _ w).alloc (aj _) _;have hB:=Blk.new w f.cal 31;have h1:=h.below (hb1.mono hN);gi_enter Tryz.func75,Tryz.ntmps75
 gi_wp2;gi_loopw [3] (λi wr=>∃k:Nat,k≤f.ls.length∧i=.int .i64 k∧Below w.heap.size w wr∧Blk wr w.heap.size 31 f.cal∧fF N f wr∧(∀j,j<k→0≤f.qj j∧f.qj j≤6)∧∀j,0<j→j<k→f.qj (j-1)<f.qj j) (λi _=>f.ls.length-(intOf i).toNat)
 case atStart=>exact⟨0,Nat.zero_le _,rfl,hb1,hB,h1,λj q=>by omega,λj q1 q2=>by omega⟩
 case round=>
  obtain⟨k,hk,rfl,hb,hX,hc,A1,A2⟩:=hrel;have x0:=hX.cell 0;have x1:=hX.cell 1;simp at x0 x1;have ltX:=hX.lt;have H1:=Lib.hid A1;have H2:=Lib.hid A2;clear A1 A2;by_cases hl:k<f.ls.length
  ·obtain⟨b,o,e1,e2,e3⟩:=hc.day hl;have ck:=e3 k hl;have E1:=Lib.hid e1;have E3:=Lib.hid e3;rw[e1]at x0;clear e1 e3;by_cases hi:0≤f.qj k∧f.qj k≤6
   ·rcases Nat.eq_zero_or_pos k with rfl|hz
    ·rw[show((0:Nat):Int)=0 from rfl];simp only[Nat.add_zero]at ck
     gi_wp2_with (gi_at_call 76;refine(gQ _ _ _ _ hi).mono ?_;rintro e w' ⟨rfl,hw⟩;obtain rfl:wr=w':=hw.symm)
     refine aZ (λw'=>Below wr.heap.size wr w') rfl mixed (by kernel_rfl) (λd=>⟨rfl,rfl,rfl,aj _,λ_ _=>rfl⟩) ?_;simp only[aF,aC,aG,Nat.reduceAdd,Nat.zero_add,List.range,List.range.loop]
     iterate 16
      (first
       |(refine bH rfl rfl rfl (by decide) (λw f hf=>by cases hf) ?_
         simp only[Act.put,ak,ay,au])
       |(refine aS rfl rfl (by kernel_rfl) (.inr rfl) ?_
         apply ah;refine⟨λw' hw' K Q hK=>?_,?_⟩
         ·have q:=hX.below hw';have q0:=q.cell 0;simp at q0;rw[E1.out]at q0;have ltq:=q.lt;have ltb:=aA e2 hw'.size;have ck':=(hw'.cell (p:=⟨b,o,none⟩) e2).trans ck;gi_wp2
          try exact hw'
         apply ah;refine⟨rfl,?_⟩))
     intro w2 hw2;have hB2:=hb.trans (hw2.mono hb.size);gi_wp2;go_roundw
     case rel=>exact⟨1,by omega,by go_num,hB2,hX.below hw2,hc.below (hw2.mono hc.hN),λj q=>(show j=0 by omega)▸hi,λj q1 q2=>by omega⟩
     case measure=>simp[intOf];omega
    ·obtain⟨m,rfl⟩:∃m,k=m+1:=⟨k - 1,by omega⟩
     have cp:=E3.out m (by omega);have hk1:IntKind.i64.wrap (((m+1:Nat):Int)-1)=(m:Int):=by rw[IntKind.wrap_i64];omega
     have hz':(0:Int)<((m+1:Nat):Int):=by omega
     gi_wp2_with (gi_at_call 76;refine(gQ _ _ _ _ hi).mono ?_;rintro e w' ⟨rfl,hw⟩;obtain rfl:wr=w':=hw.symm)
     refine aZ (λw'=>Below wr.heap.size wr w') rfl mixed (by kernel_rfl) (λd=>⟨rfl,rfl,rfl,aj _,λ_ _=>rfl⟩) ?_;simp only[aF,aC,aG,Nat.reduceAdd,Nat.zero_add,List.range,List.range.loop]
     iterate 16
      (first
       |(refine bH rfl rfl rfl (by decide) (λw f hf=>by cases hf) ?_
         simp only[Act.put,ak,ay,au])
       |(refine aS rfl rfl (by kernel_rfl) (.inr rfl) ?_
         apply ah;refine⟨λw' hw' K Q hK=>?_,?_⟩
         ·have q:=hX.below hw';have q0:=q.cell 0;simp at q0;rw[E1.out]at q0;have ltq:=q.lt;have ltb:=aA e2 hw'.size;have ck':=(hw'.cell (p:=⟨b,o+(m+1),none⟩) e2).trans ck;have cp':=(hw'.cell (p:=⟨b,o+m,none⟩) e2).trans cp;gi_wp2
          try exact hw'
         apply ah;refine⟨rfl,?_⟩))
     intro w2 hw2;have hB2:=hb.trans (hw2.mono hb.size);by_cases hu:f.qj (m+1)≤f.qj m
     ·gi_wp2;go_ret;exact⟨kQ.bad 7 rfl (by decide),hB2⟩
     ·gi_wp2;go_roundw
      case rel=>
       refine⟨m+1+1,by omega,by go_num,hB2,hX.below hw2,hc.below (hw2.mono hc.hN),λj q=>?_,λj q1 q2=>?_⟩
       ·rcases(show j<m+1∨j=m+1 by omega)with q|rfl
        ·exact H1.out j q
        ·exact hi
       ·rcases(show j<m+1∨j=m+1 by omega)with q|rfl
        ·exact H2.out j q1 q
        ·rw[Nat.add_sub_cancel];omega
      case measure=>simp[intOf];omega
   ·gi_wp2_with (gi_at_call 76;refine(lN _ _ _ _ hi).mono ?_;rintro e w' ⟨rfl,rfl⟩)
    go_ret;exact⟨kQ.bad 1 rfl (by decide),hb⟩
  ·obtain rfl:k=f.ls.length:=by omega
   by_cases h6:6<f.ss.length
   ·have h6':(6:Int)<f.ss.length:=by omega
    gi_wp2;go_ret;exact⟨kQ.bad 2 rfl (by decide),hb⟩
   ·have h6':¬((6:Int)<f.ss.length):=by omega
    gi_wp2;gi_loopw [4] (λi wr=>∃k:Nat,k≤f.ss.length∧i=.int .i64 k∧Below w.heap.size w wr∧Blk wr w.heap.size 31 f.cal∧fF N f wr∧∀j,j<k→0≤(f.fD j).one∧(f.fD j).one≤(f.fD j).two∧(f.fD j).two≤36524) (λi _=>f.ss.length-(intOf i).toNat)
    case atStart=>exact⟨0,Nat.zero_le _,rfl,hb,hX,hc,λj q=>by omega⟩
    case round=>
     clear x0 x1 ltX hX hc hb;obtain⟨k,hk,rfl,hb,hX,hc,A⟩:=hrel;have x0:=hX.cell 0;have x1:=hX.cell 1;simp at x0 x1;have ltX:=hX.lt;have HA:=Lib.hid A;clear A;by_cases hl:k<f.ss.length
     ·obtain⟨b,o,e1,e2,c0,c1⟩:=hc.span hl;rw[e1]at x1;clear e1;have hin:=Nj (f.fD k).one (f.fD k).two 0 36524 wr;by_cases q:0≤(f.fD k).one∧(f.fD k).one≤(f.fD k).two∧(f.fD k).two≤36524
      ·rw[show(decide (0≤(f.fD k).one)&&decide ((f.fD k).one≤(f.fD k).two)&&decide ((f.fD k).two≤36524))=true by simp[q]]at hin
       gi_wp2_with (gi_at_call 137;refine hin.mono ?_;rintro e w' ⟨rfl,hb3⟩)
       go_roundw
       case rel=>
        refine⟨k+1,by omega,by go_num,hb.trans (hb3.mono hb.size),hX.below hb3,hc.below (hb3.mono hc.hN),λj z=>?_⟩;rcases(show j<k∨j=k by omega)with z|rfl
        ·exact HA.out j z
        ·exact q
       case measure=>simp[intOf];omega
      ·rw[show(decide (0≤(f.fD k).one)&&decide ((f.fD k).one≤(f.fD k).two)&&decide ((f.fD k).two≤36524))=false by simp;omega]at hin
       gi_wp2_with (gi_at_call 137;refine hin.mono ?_;rintro e w' ⟨rfl,hb3⟩)
       go_ret;exact⟨kQ.bad 1 rfl (by decide),hb.trans (hb3.mono hb.size)⟩
     ·obtain rfl:k=f.ss.length:=by omega
      gi_wp2;go_ret;exact⟨⟨0,rfl,λ_=>⟨H1.out,H2.out,by omega,HA.out⟩⟩,hb⟩
end
