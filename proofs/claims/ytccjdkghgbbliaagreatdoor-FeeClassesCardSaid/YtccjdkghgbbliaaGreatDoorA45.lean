/- The classes of a list's items, in plain words: fewer items have no more classes. -/
import Derived.Test.YtccjdkghgbbliaaGreatDoorA44
set_option linter.all false
namespace Go.Proofs.YtccjdkghgbbliaaGreatDoor
section
set_option maxHeartbeats 1000000
set_option maxRecDepth 10000
open Go Go.RowKit
def sZ(zs:List Int):List Int:=zs.mergeSort λx y=>decide (x≤y)
theorem vS(l:List Int):(Lib.compact (sZ l)).Pairwise (·<·)∧∀y,y∈Lib.compact (sZ l)↔y∈l:=by
 unfold sZ
 have hsorted:(l.mergeSort λx y=>decide (x≤y)).Pairwise (λx y=>decide (x≤y)=true):=
  List.pairwise_mergeSort (λa b c h1 h2=>by simp at *;omega) (λa b=>by simp;omega) _
 have hperm:=List.mergeSort_perm l (λx y=>decide (x≤y));generalize (l.mergeSort λx y=>decide (x≤y))=zs at *;have hget:∀j,j<zs.length→zs.toArray[j]! = zs.getD j 0:=λj hj=>by simp[hj]
 obtain⟨h1,h2⟩:=jf zs.toArray zs.length (λi j hij hj=>by
  by_cases e:i=j
  ·subst e;exact Int.le_refl _
  ·rw[hget i (by omega),hget j hj];have:=List.pairwise_iff_getElem.1 hsorted i j (by omega) hj (by omega);simpa[show i<zs.length by omega,hj]using this) zs.length (ak _)
 refine⟨h1,λy=>?_⟩
 show y∈Lib.compactUpTo zs.toArray zs.length↔_
 rw[h2,← hperm.mem_iff];constructor
 ·rintro⟨j,hj,rfl⟩;rw[hget j hj];simp[hj]
 ·intro hy;obtain⟨j,hj,e⟩:=List.mem_iff_getElem.1 hy;exact⟨j,hj,by rw[hget j hj];simp[hj,e]⟩
theorem CB:∀{l m:List Int},l.Pairwise (·<·)→(∀x∈l,x∈m)→l.length≤m.length
 | [],_,_,_=>Nat.zero_le _
 |a::l,m,h,hs=>by
  obtain⟨h1,h2⟩:=List.pairwise_cons.1 h;have:=CB (m:=m.erase a) h2 λx hx=>(List.mem_erase_of_ne (by have:=h1 x hx;omega)).2 (hs x (by simp[hx]));rw[List.length_erase_of_mem (hs a (by simp))]at this;have hp:0<m.length:=List.length_pos_of_mem (hs a (by simp));simp;omega
def KF{α:Type}(f:α→Int)(l:List α):List Int:=Lib.compact (sZ (l.map f))
theorem clsN_le{α:Type}{f:α→Int}{l m:List α}(h:∀x∈l,x∈m):(KF f l).length≤(KF f m).length:=by
 obtain⟨a1,a2⟩:=vS (l.map f);obtain⟨b1,b2⟩:=vS (m.map f);refine CB a1 λx hx=>(b2 x).2 ?_;obtain⟨y,hy,e⟩:=List.mem_map.1 ((a2 x).1 hx);exact List.mem_map.2 ⟨y,h y hy,e⟩
theorem Oz{α:Type}(f:α→Int)(l:List α):(KF f l).length≤l.length:=by
 have:=Lib.compact_length_le (sZ (l.map f));unfold KF;simp[sZ]at this ⊢;exact this
theorem OU{ba ea fr c1 c2 du gr ex day:Int}(he:0≤ea)(hc:c2≤c1):(gY ba ea fr c2 du gr ex day).1≤(gY ba ea fr c1 du gr ex day).1∧(gY ba ea fr c2 du gr ex day).2=(gY ba ea fr c1 du gr ex day).2:=by
 have h:ea * max 0 (c2-fr)≤ea * max 0 (c1-fr):=Int.mul_le_mul_of_nonneg_left (by omega) he;unfold gY;split
 ·exact⟨by dsimp only;omega,rfl⟩
 ·split
  ·exact⟨by dsimp only;omega,rfl⟩
  ·exact⟨Int.le_refl _,rfl⟩
theorem pX{b:aJ}{k:Nat}(hk:k<b.cs.length)(cl du:Int):(b.wit k cl du).to.aP k=({ b.aP k with classes:=cl,due:=du }:fZ).to:=by
 unfold Book.aP aJ.to aJ.wit aJ.nM;simp only[List.map_set,List.getD_eq_getElem?_getD];rw[List.getElem?_set_self (by simpa using hk)];rfl
theorem Qm{b:aJ}{k:Nat}(hk:k<b.cs.length):b.to.aP k=(b.aP k).to:=by
 unfold Book.aP aJ.aP aJ.to;simp only[List.getD_eq_getElem?_getD,List.getElem?_map,List.getElem?_eq_getElem hk,Option.map_some,Option.getD_some]
theorem EY{b:aJ}{k:Nat}(hk:k<b.cs.length)(cl du:Int):(b.wit k cl du).to.cO k=b.to.cO k:=by
 show(b.wit k cl du).to.ts.getD ((b.wit k cl du).to.aP k).tar _=b.to.ts.getD (b.to.aP k).tar _
 rw[pX hk,Qm hk];rfl
theorem wit_fee{b:aJ}(hR:b.Right){k:Nat}(hk:k<b.cs.length){c1 c2 du:Int}(hc:c2≤c1)(day:Int) :
  ((b.wit k c2 du).to.fee k day).1≤((b.wit k c1 du).to.fee k day).1∧((b.wit k c2 du).to.fee k day).2=((b.wit k c1 du).to.fee k day).2:=by
 have hv:=hR.full.v;have hk':k<b.to.cs.length:=by simpa[aJ.to]using hk
 have hm:b.to.cO k∈b.to.ts:=by
  have h1:=(hv.k _ (hv.cas hk')).1
  show b.to.ts.getD (b.to.aP k).tar _∈_
  rw[List.getD_eq_getElem?_getD,List.getElem?_eq_getElem h1];exact List.getElem_mem h1
 unfold Book.fee;rw[EY hk,EY hk,pX hk,pX hk];exact OU (hv.t _ hm).2.2.2.1 hc
end
section
set_option maxHeartbeats 1000000
set_option maxRecDepth 10000
set_option maxHeartbeats 16000000
set_option maxRecDepth 100000
open Go Go.RowKit Go.ChangeShapes Go.WideShapes Go.Deep Go.Joins Lift
structure zQ where
 name:ByteArray
 cls:Int
structure REd where
 ia:Option Addr
 items:List zQ
 ic:Nat
structure qw where
 ed:Int
 Dk:Int
 to:Int
structure vJ where
 ed:Int
 one:Int
 two:Int
 lvl:Int
structure aZ where
 ea:Option Addr
 gW:List REd
 ec:Nat
 ma:Option Addr
 mvs:List qw
 mc:Nat
 ka:Option Addr
 jG:List vJ
 kc:Nat
def zQ.row(i:zQ):List Value:=[.string i.name,.int .i64 i.cls]
def REd.row(e:REd):List Value:=[.slice e.ia e.items.length e.ic]
def qw.row(m:qw):List Value:=[.int .i64 m.ed,.int .i64 m.Dk,.int .i64 m.to]
def vJ.row(k:vJ):List Value:=[.int .i64 k.ed,.int .i64 k.one,.int .i64 k.two,.int .i64 k.lvl]
abbrev aZ.arr(t:aZ):Array Value:=#[.slice t.ea t.gW.length t.ec,.slice t.ma t.mvs.length t.mc,.slice t.ka t.jG.length t.kc]
def zL(N:Nat)(e:REd)(w:World):Prop:=bC N e.ia 2 (e.items.map zQ.row) w
structure bI (N:Nat) (t:aZ) (w:World):Prop where
 hN:N≤w.heap.size
 es:bC N t.ea 1 (t.gW.map REd.row) w
 ed:∀e∈t.gW,zL N e w
 ms:bC N t.ma 3 (t.mvs.map qw.row) w
 ks:bC N t.ka 4 (t.jG.map vJ.row) w
theorem bI.below{N:Nat}{t:aZ}{w w':World}(h:bI N t w)(hb:Below N w w'):bI N t w':=
 ⟨Nat.le_trans h.hN hb.size,h.es.below hb,λe he=>bC.below (h.ed e he) hb,h.ms.below hb,h.ks.below hb⟩
theorem bI.up{N:Nat}{t:aZ}{w w':World}(h:bI N t w)(hb:Below w.heap.size w w'):bI N t w':=h.below (hb.mono h.hN)
section
variable {H:Type} {enc:TypeId×Value→H} {W:World} {spare:Nat→Bool}
theorem und159:Tryz.prog.underlying 159=some (.struct (Tryz.prog.fieldsOf 159)):=by kernel_rfl
theorem und146:Tryz.prog.underlying 146=some (.struct (Tryz.prog.fieldsOf 146)):=by kernel_rfl
theorem Ux:Tryz.prog.underlying 293=some (.struct (Tryz.prog.fieldsOf 293)):=by kernel_rfl
theorem Uy:Tryz.prog.underlying 295=some (.struct (Tryz.prog.fieldsOf 295)):=by kernel_rfl
theorem und68:Tryz.prog.underlying 68=some (.struct (Tryz.prog.fieldsOf 68)):=by kernel_rfl
theorem cel159:Tryz.prog.cellsOf 159=2:=by kernel_rfl
theorem cel146:Tryz.prog.cellsOf 146=1:=by kernel_rfl
theorem cel293:Tryz.prog.cellsOf 293=3:=by kernel_rfl
theorem cel295:Tryz.prog.cellsOf 295=4:=by kernel_rfl
theorem cel144:Tryz.prog.cellsOf 144=1:=by kernel_rfl
theorem cel64:Tryz.prog.cellsOf 64=1:=by kernel_rfl
theorem cel65:Tryz.prog.cellsOf 65=1:=by kernel_rfl
theorem cel66:Tryz.prog.cellsOf 66=1:=by kernel_rfl
theorem SY{n:Nat}{y:DataW H×List MemPlace}(cs:List Value)(hl:cs.length=2)(h:DataW.trod enc Tryz.prog W 0 spare true n 159 cs=some y):∃x:zQ,x.row=cs∧True:=by
 obtain⟨m,hm⟩:=qF und159 h
 match cs,hl with
 | [c0,c1],_=>
  obtain⟨_,h0⟩:=hm 0 9 0 1 (by kernel_rfl) cel9;obtain⟨_,h1⟩:=hm 1 3 1 1 (by kernel_rfl) zZ;obtain⟨a,rfl⟩:=Um h0;obtain⟨b,rfl⟩:=jS h1;exact⟨⟨a,b⟩,rfl,trivial⟩
theorem ed_row{n:Nat}{y:DataW H×List MemPlace}(cs:List Value)(hl:cs.length=1)(h:DataW.trod enc Tryz.prog W 0 spare true n 146 cs=some y):∃x:REd,x.row=cs∧zL W.heap.size x W:=by
 obtain⟨m,hm⟩:=qF und146 h
 match cs,hl with
 | [c0],_=>
  obtain⟨_,h0⟩:=hm 0 144 0 1 (by kernel_rfl) cel144;obtain⟨a1,k1,x1,rfl,r1,_⟩:=lU (row:=zQ.row) (λ_=>True) (show Tryz.prog.underlying 144=some (.slice 159) by kernel_rfl) cel159 (size:=2) h0 (λx=>⟨_,rfl⟩) λcs n y hl hy=>SY cs hl hy;exact⟨⟨a1,x1,k1⟩,rfl,r1⟩
theorem TB{n:Nat}{y:DataW H×List MemPlace}(cs:List Value)(hl:cs.length=3)(h:DataW.trod enc Tryz.prog W 0 spare true n 293 cs=some y):∃x:qw,x.row=cs∧True:=by
 obtain⟨m,hm⟩:=qF Ux h
 match cs,hl with
 | [c0,c1,c2],_=>
  obtain⟨_,h0⟩:=hm 0 3 0 1 (by kernel_rfl) zZ;obtain⟨_,h1⟩:=hm 1 3 1 1 (by kernel_rfl) zZ;obtain⟨_,h2⟩:=hm 2 3 2 1 (by kernel_rfl) zZ;obtain⟨a,rfl⟩:=jS h0;obtain⟨b,rfl⟩:=jS h1;obtain⟨c,rfl⟩:=jS h2;exact⟨⟨a,b,c⟩,rfl,trivial⟩
theorem kin_row{n:Nat}{y:DataW H×List MemPlace}(cs:List Value)(hl:cs.length=4)(h:DataW.trod enc Tryz.prog W 0 spare true n 295 cs=some y):∃x:vJ,x.row=cs∧True:=by
 obtain⟨m,hm⟩:=qF Uy h
 match cs,hl with
 | [c0,c1,c2,c3],_=>
  obtain⟨_,h0⟩:=hm 0 3 0 1 (by kernel_rfl) zZ;obtain⟨_,h1⟩:=hm 1 3 1 1 (by kernel_rfl) zZ;obtain⟨_,h2⟩:=hm 2 3 2 1 (by kernel_rfl) zZ;obtain⟨_,h3⟩:=hm 3 3 3 1 (by kernel_rfl) zZ;obtain⟨a,rfl⟩:=jS h0;obtain⟨b,rfl⟩:=jS h1;obtain⟨c,rfl⟩:=jS h2;obtain⟨d,rfl⟩:=jS h3;exact⟨⟨a,b,c,d⟩,rfl,trivial⟩
theorem open_table{b0:Nat}{r:Reach}{v:Value}{d:DataW H}{p:List MemPlace}(hv:Value.okWide Tryz.prog W r b0 68 v)(h:DataW.Trod enc Tryz.prog W 0 spare true 68 v d p):∃t:aZ,v=.agg t.arr∧bI W.heap.size t W:=by
 obtain⟨cs,rfl,hsz⟩:=okWide_struct und68 hv;obtain⟨c0,c1,c2,rfl⟩:=array3 (hsz.trans (by kernel_rfl));obtain⟨fuel,hf⟩:=h;have hf':DataW.trod enc Tryz.prog W 0 spare true fuel 68 [c0,c1,c2]=some (d,p):=by simpa[Value.cells]using hf
 obtain⟨m,hm⟩:=qF und68 hf';obtain⟨_,h0⟩:=hm 0 64 0 1 (by kernel_rfl) cel64;obtain⟨_,h1⟩:=hm 1 65 1 1 (by kernel_rfl) cel65;obtain⟨_,h2⟩:=hm 2 66 2 1 (by kernel_rfl) cel66;obtain⟨a1,k1,x1,rfl,r1,q1⟩:=lU (row:=REd.row) (λx=>zL W.heap.size x W) (show Tryz.prog.underlying 64=some (.slice 146) by kernel_rfl) cel146 (size:=1) h0 (λx=>⟨_,rfl⟩) λcs n y hl hy=>ed_row cs hl hy;obtain⟨a2,k2,x2,rfl,r2,_⟩:=lU (row:=qw.row) (λ_=>True) (show Tryz.prog.underlying 65=some (.slice 293) by kernel_rfl) cel293 (size:=3) h1 (λx=>⟨_,rfl⟩) λcs n y hl hy=>TB cs hl hy;obtain⟨a3,k3,x3,rfl,r3,_⟩:=lU (row:=vJ.row) (λ_=>True) (show Tryz.prog.underlying 66=some (.slice 295) by kernel_rfl) cel295 (size:=4) h2 (λx=>⟨_,rfl⟩) λcs n y hl hy=>kin_row cs hl hy;exact⟨⟨a1,x1,k1,a2,x2,k2,a3,x3,k3⟩,rfl,ak _,r1,q1,r2,r3⟩
end
end
section
set_option maxHeartbeats 1000000
set_option maxRecDepth 10000
set_option maxHeartbeats 64000000
set_option maxRecDepth 100000
open Go Go.RowKit Lift
def REd.at(e:REd)(j:Nat):zQ:=e.items.getD j ⟨⟨#[]⟩,0⟩
structure REd.Ok (e:REd):Prop where
 n:e.items.length≤8
 it:∀j,j<e.items.length→dB (e.at j).name∧1≤(e.at j).cls∧(e.at j).cls≤45
 ne:∀j i,j<e.items.length→i<j→(e.at i).name≠(e.at j).name
theorem zL.item{N:Nat}{e:REd}{w:World}(h:zL N e w){j:Nat}(hj:j<e.items.length):∃b o,e.ia=some ⟨b,o,none⟩∧b<N∧∀i,i<e.items.length→w.cell? ⟨b,o+i * 2,none⟩=some (.string (e.at i).name)∧w.cell? ⟨b,o+i * 2+1,none⟩=some (.int .i64 (e.at i).cls):=by
 obtain⟨b,o,e1,e2,_⟩:=bC.nI h hj;refine⟨b,o,e1,e2,λi hi=>?_⟩;obtain⟨b',o',e1',_,e3⟩:=bC.nI h hi;rw[e1]at e1';cases e1';have hat:e.at i=e.items[i]:=by unfold REd.at;rw[List.getD_eq_getElem?_getD,List.getElem?_eq_getElem hi];rfl
 rw[hat];exact⟨by simpa using e3 0 _ rfl,e3 1 _ rfl⟩
theorem edF_in{N:Nat}{e:REd}{w:World}(h:zL N e w)(hN:N≤w.heap.size)(hn:e.items.length<1000000) :
  CallsIn Fz 0 Tryz.prog 109 #[.agg #[.slice e.ia e.items.length e.ic]] w λr w'=>kW r e.Ok∧Below w.heap.size w w':=by
 have hb1:Below w.heap.size w (w.alloc (.cells #[.slice e.ia e.items.length e.ic] 146)):=(Below.refl _ w).alloc (ak _) _;have hX:=Blk.new w #[.slice e.ia e.items.length e.ic] 146;by_cases h8:(8:Int)<e.items.length
 ·gi_enter Tryz.func109,Tryz.ntmps109
  gi_wp2;go_ret;exact⟨kW.bad 2 rfl (by decide),hb1⟩
 ·gi_enter Tryz.func109,Tryz.ntmps109
  gi_wp2;gi_loopw [3,4] (λi g wr=>∃k:Nat,k≤e.items.length∧i=.int .i64 k∧Below w.heap.size w wr∧Blk wr w.heap.size 146 #[.slice e.ia e.items.length e.ic]∧(∀j,j<k→dB (e.at j).name∧1≤(e.at j).cls∧(e.at j).cls≤45)∧∀j i,j<k→i<j→(e.at i).name≠(e.at j).name) (λi _ _=>e.items.length-(intOf i).toNat)
  case atStart=>exact⟨0,Nat.zero_le _,rfl,hb1,hX,λj q=>by omega,λj i q=>by omega⟩
  case round=>
   clear hb1 hX;obtain⟨k,hk,rfl,hb,hXk,A1,A2⟩:=hrel;have H1:=Lib.hid A1;have H2:=Lib.hid A2;clear A1 A2;have x0:=hXk.cell 0;simp at x0;have Jf:=hXk.lt;by_cases hl:k<e.items.length
   ·obtain⟨b,o,e1,e2,e3⟩:=zL.item (bC.below h (hb.mono hN)) hl;have yX:b<wr.heap.size:=aA e2 (Nat.le_trans hN hb.size);obtain⟨c0,c1⟩:=e3 k hl;rw[e1]at x0;have E1:=Lib.hid e1;have E3:=Lib.hid e3;clear e1 e3;obtain⟨p,hp⟩:∃p,e.at k=p:=⟨_,rfl⟩
    rw[hp]at c0 c1;have HP:=Lib.hid hp;clear hp;have hkk:(k:Int)<e.items.length:=by omega
    have hNm:=zO p.name wr
    gi_wp2_with (gi_at_call 131;refine hNm.mono ?_;rintro e' w2 ⟨⟨r,rfl,hr⟩,hb2⟩;have HR:=Lib.hid hr;clear hr;have hX2:=hXk.below hb2;have x2:=hX2.cell 0;simp at x2;rw[E1.out]at x2;have lX2:=hX2.lt;rcases r with _|_)
    ·go_ret;exact⟨kW.bad 4 rfl (by decide),hb.trans (hb2.mono hb.size)⟩
    ·clear c0 c1 x2 lX2;have hB2:=hb.trans (hb2.mono hb.size);gi_loopw [4] (λi wx=>∃i':Nat,i'≤k∧i=.int .i64 i'∧Below w.heap.size w wx∧Below wr.heap.size wr wx∧Blk wx w.heap.size 146 #[.slice e.ia e.items.length e.ic]∧∀i,i<i'→(e.at i).name≠(e.at k).name) (λi _=>k-(intOf i).toNat)
     case atStart=>exact⟨0,Nat.zero_le _,rfl,hB2,hb2,hX2,λi q=>by omega⟩
     case round=>
      obtain⟨i',hi,rfl,hb3,hb4,hX3,hN3⟩:=hrel;have HN:=Lib.hid hN3;clear hN3;have lt3:=aA yX hb4.size;obtain⟨a0,a1⟩:=E3.out k hl;rw[HP.out]at a0 a1;have d1:=(hb4.cell (p:=⟨b,o+k * 2,none⟩) yX).trans a0;have d2:=(hb4.cell (p:=⟨b,o+k * 2+1,none⟩) yX).trans a1;clear a0 a1;by_cases hil:i'<k
      ·have d0:=(hb4.cell (p:=⟨b,o+i' * 2,none⟩) yX).trans (E3.out i' (by omega)).1;obtain⟨q,hq⟩:∃q,e.at i'=q:=⟨_,rfl⟩
       rw[hq]at d0;have HQ:=Lib.hid hq;clear hq;have hii:(i':Int)<e.items.length:=by omega
       gi_wp2;by_cases he:q.name=p.name
       ·have he':=Ru he;clear he;refine aT (λw'=>Below wr.heap.size wr w') rfl mixed (by kernel_rfl) (λd=>⟨rfl,rfl,rfl,ak _,λ_ _=>rfl⟩) ?_;simp only[aF,aC,aG,Nat.reduceAdd,Nat.zero_add,List.range,List.range.loop]
        iterate 13
         (refine aQ rfl rfl (by kernel_rfl) (.inr rfl) ?_
          apply ah;refine⟨λw' hw' K Q hK=>?_,?_⟩
          ·have qX:=hX3.below hw';have x3:=qX.cell 0;simp at x3;rw[E1.out]at x3;have lX:=qX.lt;have n0:=(hw'.cell (p:=⟨b,o+i' * 2,none⟩) lt3).trans d0;have n1:=(hw'.cell (p:=⟨b,o+k * 2,none⟩) lt3).trans d1;have lb:=aA lt3 hw'.size;gi_wp2
           try exact hw'
          apply ah;refine⟨rfl,?_⟩)
        intro w5 hw5;gi_wp2;go_ret;exact⟨kW.bad 5 rfl (by decide),hb3.trans (hw5.mono hb3.size)⟩
       ·have he':=Nz he;have HE:=Lib.hid he;clear he;refine aT (λw'=>Below wr.heap.size wr w') rfl mixed (by kernel_rfl) (λd=>⟨rfl,rfl,rfl,ak _,λ_ _=>rfl⟩) ?_;simp only[aF,aC,aG,Nat.reduceAdd,Nat.zero_add,List.range,List.range.loop]
        iterate 13
         (refine aQ rfl rfl (by kernel_rfl) (.inr rfl) ?_
          apply ah;refine⟨λw' hw' K Q hK=>?_,?_⟩
          ·have qX:=hX3.below hw';have x3:=qX.cell 0;simp at x3;rw[E1.out]at x3;have lX:=qX.lt;have n0:=(hw'.cell (p:=⟨b,o+i' * 2,none⟩) lt3).trans d0;have n1:=(hw'.cell (p:=⟨b,o+k * 2,none⟩) lt3).trans d1;have lb:=aA lt3 hw'.size;gi_wp2
           try exact hw'
          apply ah;refine⟨rfl,?_⟩)
        intro w5 hw5;gi_wp2;go_roundw
        case rel=>
         refine⟨i'+1,by omega,by go_num,hb3.trans (hw5.mono hb3.size),hb4.trans (hw5.mono hb4.size),hX3.below hw5,λj z=>?_⟩;rcases(show j<i'∨j=i' by omega)with z|rfl
         ·exact HN.out j z
         ·rw[HQ.out,HP.out];exact HE.out
        case measure=>simp[intOf];omega
      ·obtain rfl:i'=k:=by omega
       have x3:=hX3.cell 0;simp at x3;rw[E1.out]at x3;have lX:=hX3.lt;by_cases hc:1≤p.cls∧p.cls≤45
       ·gi_wp2_with (gi_at_call 76;refine(gX _ _ _ _ hc).mono ?_;rintro e' w3 ⟨rfl,hw⟩;obtain rfl:wr=w3:=hw.symm)
        go_roundw
        case rel=>
         refine⟨i'+1,by omega,by go_num,hb3,hX3,λj z=>?_,λj i z z2=>?_⟩
         ·rcases(show j<i'∨j=i' by omega)with z|rfl
          ·exact H1.out j z
          ·rw[HP.out];exact⟨HR.out.1 (by trivial),hc⟩
         ·rcases(show j<i'∨j=i' by omega)with z|rfl
          ·exact H2.out j i z z2
          ·exact HN.out i z2
        case measure=>simp[intOf];omega
       ·gi_wp2_with (gi_at_call 76;refine(jO _ _ _ _ hc).mono ?_;rintro e' w3 ⟨rfl,hw⟩;obtain rfl:wr=w3:=hw.symm)
        go_ret;exact⟨kW.bad 1 rfl (by decide),hb3⟩
   ·obtain rfl:k=e.items.length:=by omega
    gi_wp2;go_ret;exact⟨⟨0,rfl,λ_=>⟨by omega,H1.out,H2.out⟩⟩,hb⟩
end
section
set_option maxHeartbeats 1000000
set_option maxRecDepth 10000
set_option maxHeartbeats 16000000
set_option maxRecDepth 100000
open Go Go.RowKit Lift
theorem vg{P:Program}{e:TypeId}(he:P.underlying e=some .bool){v:Value}{z:DataW Nat×List MemPlace}(h:plainElem P e v=some z):∃b,v=.bool b∧z=(.lit (.bool b),[]):=by
 unfold plainElem at h;rw[he]at h;cases v<;>simp at h
 exact⟨_,rfl,h.symm⟩
section
variable {F:Fence} {nF:Nat} {P:Program} (w:World) {ops:Array Oper} {rest:List Oper} {o:Oper} {a:Act} {Q:Exit→Act→World→Prop}
theorem gZ(hg:o.guard=none)(m x:Operand)(t:TypeId)(hop:o.op=Op.lookup t m x false)
  (k e:TypeId) (K:Maps.Keyed P k) (ht:P.underlying t=some (.map k e)) (he:P.underlying e=some .bool) (hz:(zeroValue e).run P w=.ok (.bool false) w) (b n:Nat) (D:DataW Nat)
  (hm:a.eval m=.map (some b)) (hown:w.ownsMap P k (plainElem P e) b n D) (key:Value) (kl:Lit) (hx:a.eval x=key) (hkey:keyOf P k key=some kl) (hno:Maps.has D kl=false)
  (hK:wpListIn F nF P ops Q rest (a.put o.dst (.bool false)) w) :
  wpListIn F nF P ops Q (o::rest) a w:=by
 refine wpListIn_plain hg λK' hK'=>?_;obtain⟨v,ps,hrun,hv⟩:=hown.lookup K ht hz (plainElem_bool he false) hkey;rw[Maps.atKey_of_not_has hno]at hv;obtain⟨c,rfl,hc⟩:=vg he hv;have hcf:c=false:=by simpa using congrArg Prod.fst hc
 subst hcf;unfold Oper.wpIn;refine⟨by simp[Oper.about,hop],?_⟩;rw[Oper.semAt_plain F _ _ (by rw[hop];intro c hc';cases hc')];simp[execOp,hop,hm,hx,hrun,Result.andThen];exact hK' _ _ hK
end
def iU(k:TypeId)(w:World)(M:Nat)(vs:List Value):Prop:=
 ∃(D:DataW Nat) (n:Nat),n≤vs.length∧w.ownsMap Tryz.prog k (plainElem Tryz.prog 4) M n D∧∀v l,keyOf Tryz.prog k v=some l→v∉vs→Maps.has D l=false
theorem iU.lt{k:TypeId}{w:World}{M:Nat}{vs:List Value}(h:iU k w M vs):M<w.heap.size:=by obtain⟨D,n,_,h,_⟩:=h;exact h.lt
theorem iU.made(k:TypeId)(w:World):iU k (w.alloc (.map #[] 0)) w.heap.size []:=⟨.map [],0,ak _,World.ownsMap_made w _ _ _,λv l _ _=>rfl⟩
theorem iU.same{k:TypeId}{w w':World}{M:Nat}{vs:List Value}(h:iU k w M vs)(hb:Below w.heap.size w w'):iU k w' M vs:=by
 obtain⟨D,n,h1,h2,h3⟩:=h;exact⟨D,n,h1,h2.kept (row:=none) ⟨hb.os,hb.tape,hb.output,hb.size,λk hk _=>hb.block k hk⟩ (by simp),h3⟩
theorem iU.grown{k:TypeId}{w w':World}{M:Nat}{vs:List Value}{row:Option Nat}(h:iU k w M vs)(hg:w.grownBy w' row)(hne:some M≠row):iU k w' M vs:=by
 obtain⟨D,n,h1,h2,h3⟩:=h;exact⟨D,n,h1,h2.kept hg hne,h3⟩
theorem iU.put{k:TypeId}{w':World}{M n:Nat}{D:DataW Nat}{vs:List Value}{v:Value}{l:Lit}(K:Maps.Keyed Tryz.prog k)(hn:n≤vs.length)(h3:∀v l,keyOf Tryz.prog k v=some l→v∉vs→Maps.has D l=false)
  (hkey:keyOf Tryz.prog k v=some l) (h:w'.ownsMap Tryz.prog k (plainElem Tryz.prog 4) M (n+1) (D.put l (.lit (.bool true)))):iU k w' M (vs++[v]):=by
 refine⟨_,n+1,by simp;omega,h,λv' l' hk' hv'=>?_⟩;rw[Maps.has_put_other (λe=>hv' (by subst e;rw[K.inj hk' hkey];simp))];exact h3 v' l' hk' λhm=>hv' (by simp[hm])
end
section
set_option maxHeartbeats 1000000
set_option maxRecDepth 10000
set_option maxHeartbeats 64000000
set_option maxRecDepth 100000
open Go Go.RowKit Lift
theorem NP{a b:Int}(h:¬a=b):(a==b)=false:=by simpa using h
def aZ.dI(t:aZ)(j:Nat):REd:=t.gW.getD j ⟨none,[],0⟩
def aZ.jv(t:aZ)(j:Nat):qw:=t.mvs.getD j ⟨0,0,0⟩
def aZ.fO(t:aZ)(j:Nat):vJ:=t.jG.getD j ⟨0,0,0,0⟩
def aZ.many(t:aZ)(e:Int):Int:=(t.dI e.toNat).items.length
def aZ.Kv(t:aZ)(m:qw):Prop:=(0≤m.ed∧m.ed≤t.gW.length-2)∧(0≤m.Dk∧m.Dk≤t.many m.ed-1)∧0≤m.to∧m.to≤t.many (m.ed+1)-1
def aZ.QG(t:aZ)(k:vJ):Prop:=(0≤k.ed∧k.ed≤t.gW.length-1)∧(0≤k.one∧k.one≤t.many k.ed-1)∧(0≤k.two∧k.two≤t.many k.ed-1)∧k.one<k.two∧1≤k.lvl∧k.lvl≤5
def vJ.key(k:vJ):Int×Int×Int:=(k.ed,k.one,k.two)
section
variable {N:Nat} {t:aZ} {w:World}
theorem bI.edn(h:bI N t w){e:Nat}(he:e<t.gW.length):∃b o,t.ea=some ⟨b,o,none⟩∧b<N∧∀i,i<t.gW.length→w.cell? ⟨b,o+i,none⟩=some (.slice (t.dI i).ia (t.dI i).items.length (t.dI i).ic):=by
 obtain⟨b,o,e1,e2,_⟩:=bC.nI h.es he;refine⟨b,o,e1,e2,λi hi=>?_⟩;obtain⟨b',o',e1',_,e3⟩:=bC.nI h.es hi;rw[e1]at e1';cases e1';have hat:t.dI i=t.gW[i]:=by unfold aZ.dI;rw[List.getD_eq_getElem?_getD,List.getElem?_eq_getElem hi];rfl
 rw[hat];simpa using e3 0 _ rfl
theorem bI.mv(h:bI N t w){e:Nat}(he:e<t.mvs.length):∃b o,t.ma=some ⟨b,o,none⟩∧b<N∧∀i,i<t.mvs.length→w.cell? ⟨b,o+i * 3,none⟩=some (.int .i64 (t.jv i).ed)∧w.cell? ⟨b,o+i * 3+1,none⟩=some (.int .i64 (t.jv i).Dk)∧w.cell? ⟨b,o+i * 3+2,none⟩=some (.int .i64 (t.jv i).to):=by
 obtain⟨b,o,e1,e2,_⟩:=bC.nI h.ms he;refine⟨b,o,e1,e2,λi hi=>?_⟩;obtain⟨b',o',e1',_,e3⟩:=bC.nI h.ms hi;rw[e1]at e1';cases e1';have hat:t.jv i=t.mvs[i]:=by unfold aZ.jv;rw[List.getD_eq_getElem?_getD,List.getElem?_eq_getElem hi];rfl
 rw[hat];exact⟨by simpa using e3 0 _ rfl,e3 1 _ rfl,e3 2 _ rfl⟩
theorem bI.kn(h:bI N t w){e:Nat}(he:e<t.jG.length):∃b o,t.ka=some ⟨b,o,none⟩∧b<N∧∀i,i<t.jG.length→w.cell? ⟨b,o+i * 4,none⟩=some (.int .i64 (t.fO i).ed)∧w.cell? ⟨b,o+i * 4+1,none⟩=some (.int .i64 (t.fO i).one)∧w.cell? ⟨b,o+i * 4+2,none⟩=some (.int .i64 (t.fO i).two)∧w.cell? ⟨b,o+i * 4+3,none⟩=some (.int .i64 (t.fO i).lvl):=by
 obtain⟨b,o,e1,e2,_⟩:=bC.nI h.ks he;refine⟨b,o,e1,e2,λi hi=>?_⟩;obtain⟨b',o',e1',_,e3⟩:=bC.nI h.ks hi;rw[e1]at e1';cases e1';have hat:t.fO i=t.jG[i]:=by unfold aZ.fO;rw[List.getD_eq_getElem?_getD,List.getElem?_eq_getElem hi];rfl
 rw[hat];exact⟨by simpa using e3 0 _ rfl,e3 1 _ rfl,e3 2 _ rfl,e3 3 _ rfl⟩
structure aZ.Fin (t:aZ):Prop where
 e:t.gW.length<1000000
 i:∀e∈t.gW,e.items.length<1000000
 m:t.mvs.length<1000000
 k:t.jG.length<1000000
theorem aZ.Fin.at(h:t.Fin){j:Nat}(hj:j<t.gW.length):(t.dI j).items.length<1000000:=by
 have hat:t.dI j=t.gW[j]:=by unfold aZ.dI;rw[List.getD_eq_getElem?_getD,List.getElem?_eq_getElem hj];rfl
 rw[hat];exact h.i _ (List.getElem_mem hj)
theorem TA(h:bI N t w)(hF:t.Fin){n:Nat}(hi:n<t.mvs.length) :
  CallsIn Fz 0 Tryz.prog 110 #[.agg t.arr,.int .i64 n] w λr w'=>kW r (t.Kv (t.jv n)∧∀j,j<n→t.jv j≠t.jv n)∧Below w.heap.size w w':=by
 have hN:=h.hN;have he:=hF.e;have hm:=hF.m;have ii:(n:Int)<t.mvs.length:=by omega
 obtain⟨b,o,e1,e2,e3⟩:=h.mv hi;obtain⟨c0,c1,c2⟩:=e3 n hi;have yX:b<w.heap.size:=aA e2 hN;have hb1:∀A,Below w.heap.size w ((w.alloc (.cells t.arr 68)).alloc (.cells A 293)):=λA=>((Below.refl _ w).alloc (ak _) _).alloc (by simp) _;have hX1:∀A,Blk ((w.alloc (.cells t.arr 68)).alloc (.cells A 293)) w.heap.size 68 t.arr:=λA=>(Blk.new w t.arr 68).below ((Below.refl _ _).alloc (ak _) _);have hM1:∀A,Blk ((w.alloc (.cells t.arr 68)).alloc (.cells A 293)) (w.heap.size+1) 293 A:=λA=>by have:=Blk.new (w.alloc (.cells t.arr 68)) A 293;simpa using this
 obtain⟨⟨ed,Dk,to⟩,hp⟩:∃p,t.jv n=p:=⟨_,rfl⟩
 rw[hp]at c0 c1 c2;simp only at c0 c1 c2;have HP:=Lib.hid hp;have E1:=Lib.hid e1;have E3:=Lib.hid e3;clear e3 hp;gi_enter Tryz.func110,Tryz.ntmps110
 gi_wp2;clear e1;have hb:=hb1 #[.int .i64 ed,.int .i64 Dk,.int .i64 to];have hX:=hX1 #[.int .i64 ed,.int .i64 Dk,.int .i64 to];have hM:=hM1 #[.int .i64 ed,.int .i64 Dk,.int .i64 to];generalize ((w.alloc (.cells t.arr 68)).alloc (.cells #[.int .i64 ed,.int .i64 Dk,.int .i64 to] 293))=W at *;clear hb1 hX1 hM1 c0 c1 c2;by_cases q1:0≤ed∧ed≤t.gW.length - 2
 ·obtain⟨e',rfl⟩:∃e:Nat,ed=e:=⟨ed.toNat,by omega⟩
  have hel:e'<t.gW.length:=by omega
  have hel':(e':Int)<t.gW.length:=by omega
  obtain⟨eb,eo,g1,g2,g3⟩:=(h.below (hb.mono hN)).edn hel;have EE:=Lib.hid g1;have J9:eb<W.heap.size:=aA g2 (Nat.le_trans hN hb.size);have d0:=g3 e' hel;have f0:=hF.at hel;have k0:t.many e'=(t.dI e').items.length:=by simp[aZ.many]
  generalize (t.dI e').items.length=n0 at d0 f0 k0;generalize (t.dI e').ia=a0 at d0;generalize (t.dI e').ic=i0 at d0;have K0:=Lib.hid k0;clear g1 k0;have O5:e'+1<t.gW.length:=by omega
  have d1:=g3 (e'+1) O5;have f1:=hF.at O5;have k1:t.many ((e':Int)+1)=(t.dI (e'+1)).items.length:=by simp only[aZ.many];rfl
  generalize (t.dI (e'+1)).items.length=n1 at d1 f1 k1;generalize (t.dI (e'+1)).ia=a1 at d1;generalize (t.dI (e'+1)).ic=i1 at d1;have K1:=Lib.hid k1;clear k1 O5;clear g3 g2;by_cases q2:0≤Dk∧Dk≤(n0:Int) - 1
  ·by_cases q3:0≤to∧to≤(n1:Int) - 1
   ·refine aT (λw'=>Below W.heap.size W w') rfl mixed (by kernel_rfl) (λd=>⟨rfl,rfl,rfl,ak _,λ_ _=>rfl⟩) ?_;simp only[aF,aC,aG,Nat.reduceAdd,Nat.zero_add,List.range,List.range.loop]
    iterate 39
     (first
      |(refine bF rfl rfl rfl (by decide) (λw f hf=>by cases hf<;>rfl) ?_
        simp only[Act.put,aj,ay,au])
      |(refine aQ rfl rfl (by kernel_rfl) (.inr rfl) ?_
        apply ah;refine⟨λw' hw' K Q hK=>?_,?_⟩
        ·have qX:=hX.below hw';have x0:=qX.cell 0;have x1:=qX.cell 1;have x2:=qX.cell 2;simp at x0 x1 x2;rw[EE.out]at x0;have lX:=qX.lt;have qM:=hM.below hw';have m0:=qM.cell 0;have m1:=qM.cell 1;have m2:=qM.cell 2;simp at m0 m1 m2;have lM:=qM.lt;have y0:=(hw'.cell (p:=⟨eb,eo+e',none⟩) J9).trans d0;have lE:=aA J9 hw'.size;have y1:=(hw'.cell (p:=⟨eb,eo+(e'+1),none⟩) J9).trans d1
         gi_wp2_with (gi_at_call 76;(first|(refine(gX _ _ _ _ (by assumption)).mono ?_)|(refine(jO _ _ _ _ (by assumption)).mono ?_));rintro e w3 ⟨rfl,hw⟩;obtain rfl:w'=w3:=hw.symm)
         try exact hw'
        apply ah;refine⟨rfl,?_⟩))
    intro w5 hw5;gi_wp2;gi_loopw [6] (λi wr=>∃k:Nat,k≤n∧i=.int .i64 k∧Below w.heap.size w wr∧Below W.heap.size W wr∧∀j,j<k→t.jv j≠t.jv n) (λi _=>n-(intOf i).toNat)
    case atStart=>exact⟨0,Nat.zero_le _,rfl,hb.trans (hw5.mono hb.size),hw5,λj q=>by omega⟩
    case round=>
     clear hw5;obtain⟨k,hk,rfl,hbr,hbw,hne⟩:=hrel;have HNE:=Lib.hid hne;clear hne;by_cases hl:k<n
     ·obtain⟨u0,u1,u2⟩:=E3.out k (by omega);obtain⟨⟨ed2,frm2,to2⟩,hq⟩:∃p,t.jv k=p:=⟨_,rfl⟩
      rw[hq]at u0 u1 u2;have HQ:=Lib.hid hq;clear hq;have p0:=(hbr.cell (p:=⟨b,o+k * 3,none⟩) yX).trans u0;have p1:=(hbr.cell (p:=⟨b,o+k * 3+1,none⟩) yX).trans u1;have p2:=(hbr.cell (p:=⟨b,o+k * 3+2,none⟩) yX).trans u2;have jL:b<wr.heap.size:=aA yX hbr.size;have hkk:(k:Int)<t.mvs.length:=by omega
      clear u0 u1 u2;by_cases r0:ed2=(e':Int)
      ·subst r0;by_cases r1:frm2=Dk
       ·subst r1;by_cases r2:to2=to
        ·subst r2;gi_wp2;refine aT (λw'=>Below wr.heap.size wr w') rfl mixed (by kernel_rfl) (λd=>⟨rfl,rfl,rfl,ak _,λ_ _=>rfl⟩) ?_;simp only[aF,aC,aG,Nat.reduceAdd,Nat.zero_add,List.range,List.range.loop]
         iterate 7
          (first
           |(refine bF rfl rfl rfl (by decide) (λw f hf=>by cases hf<;>rfl) ?_
             simp only[Act.put,aj,ay,au])
           |(refine aQ rfl rfl (by kernel_rfl) (.inr rfl) ?_
             apply ah;refine⟨λw' hw' K Q hK=>?_,?_⟩
             ·have qX:=hX.below (hbw.trans (hw'.mono hbw.size));have x1:=qX.cell 1;simp at x1;rw[E1.out]at x1;have lX:=qX.lt;have qM:=hM.below (hbw.trans (hw'.mono hbw.size));have m0:=qM.cell 0;have m1:=qM.cell 1;have m2:=qM.cell 2;simp at m0 m1 m2;have lM:=qM.lt;have lb:=aA jL hw'.size;have z0:=(hw'.cell (p:=⟨b,o+k * 3,none⟩) jL).trans p0;have z1:=(hw'.cell (p:=⟨b,o+k * 3+1,none⟩) jL).trans p1;have z2:=(hw'.cell (p:=⟨b,o+k * 3+2,none⟩) jL).trans p2;gi_wp2
              try exact hw'
             apply ah;refine⟨rfl,?_⟩))
         intro w6 hw6;gi_wp2;go_ret;exact⟨kW.bad 5 rfl (by decide),hbr.trans (hw6.mono hbr.size)⟩
        ·gi_wp2;refine aT (λw'=>Below wr.heap.size wr w') rfl mixed (by kernel_rfl) (λd=>⟨rfl,rfl,rfl,ak _,λ_ _=>rfl⟩) ?_;simp only[aF,aC,aG,Nat.reduceAdd,Nat.zero_add,List.range,List.range.loop]
         iterate 7
          (first
           |(refine bF rfl rfl rfl (by decide) (λw f hf=>by cases hf<;>rfl) ?_
             simp only[Act.put,aj,ay,au])
           |(refine aQ rfl rfl (by kernel_rfl) (.inr rfl) ?_
             apply ah;refine⟨λw' hw' K Q hK=>?_,?_⟩
             ·have qX:=hX.below (hbw.trans (hw'.mono hbw.size));have x1:=qX.cell 1;simp at x1;rw[E1.out]at x1;have lX:=qX.lt;have qM:=hM.below (hbw.trans (hw'.mono hbw.size));have m0:=qM.cell 0;have m1:=qM.cell 1;have m2:=qM.cell 2;simp at m0 m1 m2;have lM:=qM.lt;have lb:=aA jL hw'.size;have z0:=(hw'.cell (p:=⟨b,o+k * 3,none⟩) jL).trans p0;have z1:=(hw'.cell (p:=⟨b,o+k * 3+1,none⟩) jL).trans p1;have z2:=(hw'.cell (p:=⟨b,o+k * 3+2,none⟩) jL).trans p2;gi_wp2
              try exact hw'
             apply ah;refine⟨rfl,?_⟩))
         intro w6 hw6;gi_wp2;go_roundw
         case rel=>
          refine⟨k+1,by omega,by go_num,hbr.trans (hw6.mono hbr.size),hbw.trans (hw6.mono hbw.size),λj z=>?_⟩;rcases(show j<k∨j=k by omega)with z|rfl
          ·exact HNE.out j z
          ·rw[HQ.out,HP.out];intro q;exact r2 (by simpa using congrArg qw.to q)
         case measure=>simp[intOf];omega
       ·gi_wp2;refine aT (λw'=>Below wr.heap.size wr w') rfl mixed (by kernel_rfl) (λd=>⟨rfl,rfl,rfl,ak _,λ_ _=>rfl⟩) ?_;simp only[aF,aC,aG,Nat.reduceAdd,Nat.zero_add,List.range,List.range.loop]
        iterate 7
         (first
          |(refine bF rfl rfl rfl (by decide) (λw f hf=>by cases hf<;>rfl) ?_
            simp only[Act.put,aj,ay,au])
          |(refine aQ rfl rfl (by kernel_rfl) (.inr rfl) ?_
            apply ah;refine⟨λw' hw' K Q hK=>?_,?_⟩
            ·have qX:=hX.below (hbw.trans (hw'.mono hbw.size));have x1:=qX.cell 1;simp at x1;rw[E1.out]at x1;have lX:=qX.lt;have qM:=hM.below (hbw.trans (hw'.mono hbw.size));have m0:=qM.cell 0;have m1:=qM.cell 1;have m2:=qM.cell 2;simp at m0 m1 m2;have lM:=qM.lt;have lb:=aA jL hw'.size;have z0:=(hw'.cell (p:=⟨b,o+k * 3,none⟩) jL).trans p0;have z1:=(hw'.cell (p:=⟨b,o+k * 3+1,none⟩) jL).trans p1;have z2:=(hw'.cell (p:=⟨b,o+k * 3+2,none⟩) jL).trans p2;gi_wp2
             try exact hw'
            apply ah;refine⟨rfl,?_⟩))
        intro w6 hw6;gi_wp2;go_roundw
        case rel=>
         refine⟨k+1,by omega,by go_num,hbr.trans (hw6.mono hbr.size),hbw.trans (hw6.mono hbw.size),λj z=>?_⟩;rcases(show j<k∨j=k by omega)with z|rfl
         ·exact HNE.out j z
         ·rw[HQ.out,HP.out];intro q;exact r1 (by simpa using congrArg qw.Dk q)
        case measure=>simp[intOf];omega
      ·gi_wp2;refine aT (λw'=>Below wr.heap.size wr w') rfl mixed (by kernel_rfl) (λd=>⟨rfl,rfl,rfl,ak _,λ_ _=>rfl⟩) ?_;simp only[aF,aC,aG,Nat.reduceAdd,Nat.zero_add,List.range,List.range.loop]
       iterate 7
        (first
         |(refine bF rfl rfl rfl (by decide) (λw f hf=>by cases hf<;>rfl) ?_
           simp only[Act.put,aj,ay,au])
         |(refine aQ rfl rfl (by kernel_rfl) (.inr rfl) ?_
           apply ah;refine⟨λw' hw' K Q hK=>?_,?_⟩
           ·have qX:=hX.below (hbw.trans (hw'.mono hbw.size));have x1:=qX.cell 1;simp at x1;rw[E1.out]at x1;have lX:=qX.lt;have qM:=hM.below (hbw.trans (hw'.mono hbw.size));have m0:=qM.cell 0;have m1:=qM.cell 1;have m2:=qM.cell 2;simp at m0 m1 m2;have lM:=qM.lt;have lb:=aA jL hw'.size;have z0:=(hw'.cell (p:=⟨b,o+k * 3,none⟩) jL).trans p0;have z1:=(hw'.cell (p:=⟨b,o+k * 3+1,none⟩) jL).trans p1;have z2:=(hw'.cell (p:=⟨b,o+k * 3+2,none⟩) jL).trans p2;gi_wp2
            try exact hw'
           apply ah;refine⟨rfl,?_⟩))
       intro w6 hw6;gi_wp2;go_roundw
       case rel=>
        refine⟨k+1,by omega,by go_num,hbr.trans (hw6.mono hbr.size),hbw.trans (hw6.mono hbw.size),λj z=>?_⟩;rcases(show j<k∨j=k by omega)with z|rfl
        ·exact HNE.out j z
        ·rw[HQ.out,HP.out];intro q;exact r0 (by simpa using congrArg qw.ed q)
       case measure=>simp[intOf];omega
     ·obtain rfl:k=n:=by omega
      gi_wp2;go_ret;exact⟨⟨0,rfl,λ_=>⟨by rw[HP.out];exact⟨q1,by rw[K0.out];exact q2,by rw[K1.out];exact q3⟩,HNE.out⟩⟩,hbr⟩
   ·refine aT (λw'=>Below W.heap.size W w') rfl mixed (by kernel_rfl) (λd=>⟨rfl,rfl,rfl,ak _,λ_ _=>rfl⟩) ?_;simp only[aF,aC,aG,Nat.reduceAdd,Nat.zero_add,List.range,List.range.loop]
    iterate 39
     (first
      |(refine bF rfl rfl rfl (by decide) (λw f hf=>by cases hf<;>rfl) ?_
        simp only[Act.put,aj,ay,au])
      |(refine aQ rfl rfl (by kernel_rfl) (.inr rfl) ?_
        apply ah;refine⟨λw' hw' K Q hK=>?_,?_⟩
        ·have qX:=hX.below hw';have x0:=qX.cell 0;have x1:=qX.cell 1;have x2:=qX.cell 2;simp at x0 x1 x2;rw[EE.out]at x0;have lX:=qX.lt;have qM:=hM.below hw';have m0:=qM.cell 0;have m1:=qM.cell 1;have m2:=qM.cell 2;simp at m0 m1 m2;have lM:=qM.lt;have y0:=(hw'.cell (p:=⟨eb,eo+e',none⟩) J9).trans d0;have lE:=aA J9 hw'.size;have y1:=(hw'.cell (p:=⟨eb,eo+(e'+1),none⟩) J9).trans d1
         gi_wp2_with (gi_at_call 76;(first|(refine(gX _ _ _ _ (by assumption)).mono ?_)|(refine(jO _ _ _ _ (by assumption)).mono ?_));rintro e w3 ⟨rfl,hw⟩;obtain rfl:w'=w3:=hw.symm)
         try exact hw'
        apply ah;refine⟨rfl,?_⟩))
    intro w5 hw5;gi_wp2;go_ret;exact⟨kW.bad 6 rfl (by decide),hb.trans (hw5.mono hb.size)⟩
  ·refine aT (λw'=>Below W.heap.size W w') rfl mixed (by kernel_rfl) (λd=>⟨rfl,rfl,rfl,ak _,λ_ _=>rfl⟩) ?_;simp only[aF,aC,aG,Nat.reduceAdd,Nat.zero_add,List.range,List.range.loop]
   iterate 39
    (first
     |(refine bF rfl rfl rfl (by decide) (λw f hf=>by cases hf<;>rfl) ?_
       simp only[Act.put,aj,ay,au])
     |(refine aQ rfl rfl (by kernel_rfl) (.inr rfl) ?_
       apply ah;refine⟨λw' hw' K Q hK=>?_,?_⟩
       ·have qX:=hX.below hw';have x0:=qX.cell 0;have x1:=qX.cell 1;have x2:=qX.cell 2;simp at x0 x1 x2;rw[EE.out]at x0;have lX:=qX.lt;have qM:=hM.below hw';have m0:=qM.cell 0;have m1:=qM.cell 1;have m2:=qM.cell 2;simp at m0 m1 m2;have lM:=qM.lt;have y0:=(hw'.cell (p:=⟨eb,eo+e',none⟩) J9).trans d0;have lE:=aA J9 hw'.size;have y1:=(hw'.cell (p:=⟨eb,eo+(e'+1),none⟩) J9).trans d1
        gi_wp2_with (gi_at_call 76;(first|(refine(gX _ _ _ _ (by assumption)).mono ?_)|(refine(jO _ _ _ _ (by assumption)).mono ?_));rintro e w3 ⟨rfl,hw⟩;obtain rfl:w'=w3:=hw.symm)
        try exact hw'
       apply ah;refine⟨rfl,?_⟩))
   intro w5 hw5;gi_wp2;go_ret;exact⟨kW.bad 6 rfl (by decide),hb.trans (hw5.mono hb.size)⟩
 ·refine aT (λw'=>Below W.heap.size W w') rfl mixed (by kernel_rfl) (λd=>⟨rfl,rfl,rfl,ak _,λ_ _=>rfl⟩) ?_;simp only[aF,aC,aG,Nat.reduceAdd,Nat.zero_add,List.range,List.range.loop]
  iterate 39
   (first
    |(refine bF rfl rfl rfl (by decide) (λw f hf=>by cases hf<;>rfl) ?_
      simp only[Act.put,aj,ay,au])
    |(refine aQ rfl rfl (by kernel_rfl) (.inr rfl) ?_
      apply ah;refine⟨λw' hw' K Q hK=>?_,?_⟩
      ·have qX:=hX.below hw';have x0:=qX.cell 0;have x1:=qX.cell 1;have x2:=qX.cell 2;simp at x0 x1 x2;have lX:=qX.lt;have qM:=hM.below hw';have m0:=qM.cell 0;have m1:=qM.cell 1;have m2:=qM.cell 2;simp at m0 m1 m2;have lM:=qM.lt
       gi_wp2_with (gi_at_call 76;(first|(refine(gX _ _ _ _ (by assumption)).mono ?_)|(refine(jO _ _ _ _ (by assumption)).mono ?_));rintro e w3 ⟨rfl,hw⟩;obtain rfl:w'=w3:=hw.symm)
       try exact hw'
      apply ah;refine⟨rfl,?_⟩))
  intro w5 hw5;gi_wp2;go_ret;exact⟨kW.bad 6 rfl (by decide),hb.trans (hw5.mono hb.size)⟩
theorem kinF_in(h:bI N t w)(hF:t.Fin){n:Nat}(hi:n<t.jG.length) :
  CallsIn Fz 0 Tryz.prog 111 #[.agg t.arr,.int .i64 n] w λr w'=>kW r (t.QG (t.fO n)∧∀j,j<n→(t.fO j).key≠(t.fO n).key)∧Below w.heap.size w w':=by
 have hN:=h.hN;have he:=hF.e;have hm:=hF.k;have ii:(n:Int)<t.jG.length:=by omega
 obtain⟨b,o,e1,e2,e3⟩:=h.kn hi;obtain⟨c0,c1,c2,c3⟩:=e3 n hi;have yX:b<w.heap.size:=aA e2 hN;have hb1:∀A,Below w.heap.size w ((w.alloc (.cells t.arr 68)).alloc (.cells A 295)):=λA=>((Below.refl _ w).alloc (ak _) _).alloc (by simp) _;have hX1:∀A,Blk ((w.alloc (.cells t.arr 68)).alloc (.cells A 295)) w.heap.size 68 t.arr:=λA=>(Blk.new w t.arr 68).below ((Below.refl _ _).alloc (ak _) _);have hM1:∀A,Blk ((w.alloc (.cells t.arr 68)).alloc (.cells A 295)) (w.heap.size+1) 295 A:=λA=>by have:=Blk.new (w.alloc (.cells t.arr 68)) A 295;simpa using this
 obtain⟨⟨ed,one,two,lvl⟩,hp⟩:∃p,t.fO n=p:=⟨_,rfl⟩
 rw[hp]at c0 c1 c2 c3;simp only at c0 c1 c2 c3;have HP:=Lib.hid hp;have E1:=Lib.hid e1;have E3:=Lib.hid e3;clear e3 hp;gi_enter Tryz.func111,Tryz.ntmps111
 gi_wp2;clear e1;have hb:=hb1 #[.int .i64 ed,.int .i64 one,.int .i64 two,.int .i64 lvl];have hX:=hX1 #[.int .i64 ed,.int .i64 one,.int .i64 two,.int .i64 lvl];have hM:=hM1 #[.int .i64 ed,.int .i64 one,.int .i64 two,.int .i64 lvl];generalize ((w.alloc (.cells t.arr 68)).alloc (.cells #[.int .i64 ed,.int .i64 one,.int .i64 two,.int .i64 lvl] 295))=W at *;clear hb1 hX1 hM1 c0 c1 c2 c3;by_cases q1:0≤ed∧ed≤t.gW.length - 1
 ·obtain⟨e',rfl⟩:∃e:Nat,ed=e:=⟨ed.toNat,by omega⟩
  have hel:e'<t.gW.length:=by omega
  have hel':(e':Int)<t.gW.length:=by omega
  obtain⟨eb,eo,g1,g2,g3⟩:=(h.below (hb.mono hN)).edn hel;have EE:=Lib.hid g1;have J9:eb<W.heap.size:=aA g2 (Nat.le_trans hN hb.size);have d0:=g3 e' hel;have f0:=hF.at hel;have k0:t.many e'=(t.dI e').items.length:=by simp[aZ.many]
  generalize (t.dI e').items.length=n0 at d0 f0 k0;generalize (t.dI e').ia=a0 at d0;generalize (t.dI e').ic=i0 at d0;have K0:=Lib.hid k0;clear g1 k0;clear g3 g2;by_cases q2:0≤one∧one≤(n0:Int) - 1
  ·by_cases q3:0≤two∧two≤(n0:Int) - 1
   ·refine aT (λw'=>Below W.heap.size W w') rfl mixed (by kernel_rfl) (λd=>⟨rfl,rfl,rfl,ak _,λ_ _=>rfl⟩) ?_;simp only[aF,aC,aG,Nat.reduceAdd,Nat.zero_add,List.range,List.range.loop]
    iterate 38
     (first
      |(refine bF rfl rfl rfl (by decide) (λw f hf=>by cases hf<;>rfl) ?_
        simp only[Act.put,aj,ay,au])
      |(refine aQ rfl rfl (by kernel_rfl) (.inr rfl) ?_
        apply ah;refine⟨λw' hw' K Q hK=>?_,?_⟩
        ·have qX:=hX.below hw';have x0:=qX.cell 0;have x1:=qX.cell 1;have x2:=qX.cell 2;simp at x0 x1 x2;rw[EE.out]at x0;have lX:=qX.lt;have qM:=hM.below hw';have m0:=qM.cell 0;have m1:=qM.cell 1;have m2:=qM.cell 2;have m3:=qM.cell 3;simp at m0 m1 m2 m3;have lM:=qM.lt;have y0:=(hw'.cell (p:=⟨eb,eo+e',none⟩) J9).trans d0;have lE:=aA J9 hw'.size
         gi_wp2_with (gi_at_call 76;(first|(refine(gX _ _ _ _ (by assumption)).mono ?_)|(refine(jO _ _ _ _ (by assumption)).mono ?_));rintro e w3 ⟨rfl,hw⟩;obtain rfl:w'=w3:=hw.symm)
         try exact hw'
        apply ah;refine⟨rfl,?_⟩))
    intro w5 hw5;have qM:=hM.below hw5;have m0:=qM.cell 0;have m1:=qM.cell 1;have m2:=qM.cell 2;have m3:=qM.cell 3;simp at m0 m1 m2 m3;have lM:=qM.lt;by_cases q4:one<two
    ·have q4':¬(two≤one):=by omega
     by_cases q5:1≤lvl∧lvl≤5
     ·gi_wp2_with (gi_at_call 76;refine(gX _ _ _ _ q5).mono ?_;rintro e w3 ⟨rfl,hw⟩;obtain rfl:w5=w3:=hw.symm;clear m0 m1 m2 m3 qM)
      gi_loopw [6] (λi wr=>∃k:Nat,k≤n∧i=.int .i64 k∧Below w.heap.size w wr∧Below W.heap.size W wr∧∀j,j<k→(t.fO j).key≠(t.fO n).key) (λi _=>n-(intOf i).toNat)
      case atStart=>exact⟨0,Nat.zero_le _,rfl,hb.trans (hw5.mono hb.size),hw5,λj q=>by omega⟩
      case round=>
       clear hw5;obtain⟨k,hk,rfl,hbr,hbw,hne⟩:=hrel;have HNE:=Lib.hid hne;clear hne;by_cases hl:k<n
       ·obtain⟨u0,u1,u2,u3⟩:=E3.out k (by omega);obtain⟨⟨ed2,one2,two2,lvl2⟩,hq⟩:∃p,t.fO k=p:=⟨_,rfl⟩
        rw[hq]at u0 u1 u2 u3;have HQ:=Lib.hid hq;clear hq;have p0:=(hbr.cell (p:=⟨b,o+k * 4,none⟩) yX).trans u0;have p1:=(hbr.cell (p:=⟨b,o+k * 4+1,none⟩) yX).trans u1;have p2:=(hbr.cell (p:=⟨b,o+k * 4+2,none⟩) yX).trans u2;have p3:=(hbr.cell (p:=⟨b,o+k * 4+3,none⟩) yX).trans u3;have jL:b<wr.heap.size:=aA yX hbr.size;have hkk:(k:Int)<t.jG.length:=by omega
        clear u0 u1 u2 u3;by_cases r0:ed2=(e':Int)
        ·subst r0;by_cases r1:one2=one
         ·subst r1;by_cases r2:two2=two
          ·subst r2;gi_wp2;refine aT (λw'=>Below wr.heap.size wr w') rfl mixed (by kernel_rfl) (λd=>⟨rfl,rfl,rfl,ak _,λ_ _=>rfl⟩) ?_;simp only[aF,aC,aG,Nat.reduceAdd,Nat.zero_add,List.range,List.range.loop]
           iterate 31
            (first
             |(refine bF rfl rfl rfl (by decide) (λw f hf=>by cases hf<;>rfl) ?_
               simp only[Act.put,aj,ay,au])
             |(refine aQ rfl rfl (by kernel_rfl) (.inr rfl) ?_
               apply ah;refine⟨λw' hw' K Q hK=>?_,?_⟩
               ·have qX:=hX.below (hbw.trans (hw'.mono hbw.size));have x2:=qX.cell 2;simp at x2;rw[E1.out]at x2;have lX:=qX.lt;have qM:=hM.below (hbw.trans (hw'.mono hbw.size));have m0:=qM.cell 0;have m1:=qM.cell 1;have m2:=qM.cell 2;have m3:=qM.cell 3;simp at m0 m1 m2 m3;have lM:=qM.lt;have lb:=aA jL hw'.size;have z0:=(hw'.cell (p:=⟨b,o+k * 4,none⟩) jL).trans p0;have z1:=(hw'.cell (p:=⟨b,o+k * 4+1,none⟩) jL).trans p1;have z2:=(hw'.cell (p:=⟨b,o+k * 4+2,none⟩) jL).trans p2;have z3:=(hw'.cell (p:=⟨b,o+k * 4+3,none⟩) jL).trans p3;gi_wp2
                try exact hw'
               apply ah;refine⟨rfl,?_⟩))
           intro w6 hw6;gi_wp2;go_ret;exact⟨kW.bad 5 rfl (by decide),hbr.trans (hw6.mono hbr.size)⟩
          ·have s:=NP r2;gi_wp2;refine aT (λw'=>Below wr.heap.size wr w') rfl mixed (by kernel_rfl) (λd=>⟨rfl,rfl,rfl,ak _,λ_ _=>rfl⟩) ?_;simp only[aF,aC,aG,Nat.reduceAdd,Nat.zero_add,List.range,List.range.loop]
           iterate 31
            (first
             |(refine bF rfl rfl rfl (by decide) (λw f hf=>by cases hf<;>rfl) ?_
               simp only[Act.put,aj,ay,au])
             |(refine aQ rfl rfl (by kernel_rfl) (.inr rfl) ?_
               apply ah;refine⟨λw' hw' K Q hK=>?_,?_⟩
               ·have qX:=hX.below (hbw.trans (hw'.mono hbw.size));have x2:=qX.cell 2;simp at x2;rw[E1.out]at x2;have lX:=qX.lt;have qM:=hM.below (hbw.trans (hw'.mono hbw.size));have m0:=qM.cell 0;have m1:=qM.cell 1;have m2:=qM.cell 2;have m3:=qM.cell 3;simp at m0 m1 m2 m3;have lM:=qM.lt;have lb:=aA jL hw'.size;have z0:=(hw'.cell (p:=⟨b,o+k * 4,none⟩) jL).trans p0;have z1:=(hw'.cell (p:=⟨b,o+k * 4+1,none⟩) jL).trans p1;have z2:=(hw'.cell (p:=⟨b,o+k * 4+2,none⟩) jL).trans p2;have z3:=(hw'.cell (p:=⟨b,o+k * 4+3,none⟩) jL).trans p3;gi_wp2
                try exact hw'
               apply ah;refine⟨rfl,?_⟩))
           intro w6 hw6;gi_wp2;go_roundw
           case rel=>
            refine⟨k+1,by omega,by go_num,hbr.trans (hw6.mono hbr.size),hbw.trans (hw6.mono hbw.size),λj z=>?_⟩;rcases(show j<k∨j=k by omega)with z|rfl
            ·exact HNE.out j z
            ·rw[HQ.out,HP.out];intro q;exact r2 (by simpa[vJ.key]using congrArg (λx=>x.2.2) q)
           case measure=>simp[intOf];omega
         ·have s:=NP r1;gi_wp2;refine aT (λw'=>Below wr.heap.size wr w') rfl mixed (by kernel_rfl) (λd=>⟨rfl,rfl,rfl,ak _,λ_ _=>rfl⟩) ?_;simp only[aF,aC,aG,Nat.reduceAdd,Nat.zero_add,List.range,List.range.loop]
          iterate 31
           (first
            |(refine bF rfl rfl rfl (by decide) (λw f hf=>by cases hf<;>rfl) ?_
              simp only[Act.put,aj,ay,au])
            |(refine aQ rfl rfl (by kernel_rfl) (.inr rfl) ?_
              apply ah;refine⟨λw' hw' K Q hK=>?_,?_⟩
              ·have qX:=hX.below (hbw.trans (hw'.mono hbw.size));have x2:=qX.cell 2;simp at x2;rw[E1.out]at x2;have lX:=qX.lt;have qM:=hM.below (hbw.trans (hw'.mono hbw.size));have m0:=qM.cell 0;have m1:=qM.cell 1;have m2:=qM.cell 2;have m3:=qM.cell 3;simp at m0 m1 m2 m3;have lM:=qM.lt;have lb:=aA jL hw'.size;have z0:=(hw'.cell (p:=⟨b,o+k * 4,none⟩) jL).trans p0;have z1:=(hw'.cell (p:=⟨b,o+k * 4+1,none⟩) jL).trans p1;have z2:=(hw'.cell (p:=⟨b,o+k * 4+2,none⟩) jL).trans p2;have z3:=(hw'.cell (p:=⟨b,o+k * 4+3,none⟩) jL).trans p3;gi_wp2
               try exact hw'
              apply ah;refine⟨rfl,?_⟩))
          intro w6 hw6;gi_wp2;go_roundw
          case rel=>
           refine⟨k+1,by omega,by go_num,hbr.trans (hw6.mono hbr.size),hbw.trans (hw6.mono hbw.size),λj z=>?_⟩;rcases(show j<k∨j=k by omega)with z|rfl
           ·exact HNE.out j z
           ·rw[HQ.out,HP.out];intro q;exact r1 (by simpa[vJ.key]using congrArg (λx=>x.2.1) q)
          case measure=>simp[intOf];omega
        ·have s:=NP r0;gi_wp2;refine aT (λw'=>Below wr.heap.size wr w') rfl mixed (by kernel_rfl) (λd=>⟨rfl,rfl,rfl,ak _,λ_ _=>rfl⟩) ?_;simp only[aF,aC,aG,Nat.reduceAdd,Nat.zero_add,List.range,List.range.loop]
         iterate 31
          (first
           |(refine bF rfl rfl rfl (by decide) (λw f hf=>by cases hf<;>rfl) ?_
             simp only[Act.put,aj,ay,au])
           |(refine aQ rfl rfl (by kernel_rfl) (.inr rfl) ?_
             apply ah;refine⟨λw' hw' K Q hK=>?_,?_⟩
             ·have qX:=hX.below (hbw.trans (hw'.mono hbw.size));have x2:=qX.cell 2;simp at x2;rw[E1.out]at x2;have lX:=qX.lt;have qM:=hM.below (hbw.trans (hw'.mono hbw.size));have m0:=qM.cell 0;have m1:=qM.cell 1;have m2:=qM.cell 2;have m3:=qM.cell 3;simp at m0 m1 m2 m3;have lM:=qM.lt;have lb:=aA jL hw'.size;have z0:=(hw'.cell (p:=⟨b,o+k * 4,none⟩) jL).trans p0;have z1:=(hw'.cell (p:=⟨b,o+k * 4+1,none⟩) jL).trans p1;have z2:=(hw'.cell (p:=⟨b,o+k * 4+2,none⟩) jL).trans p2;have z3:=(hw'.cell (p:=⟨b,o+k * 4+3,none⟩) jL).trans p3;gi_wp2
              try exact hw'
             apply ah;refine⟨rfl,?_⟩))
         intro w6 hw6;gi_wp2;go_roundw
         case rel=>
          refine⟨k+1,by omega,by go_num,hbr.trans (hw6.mono hbr.size),hbw.trans (hw6.mono hbw.size),λj z=>?_⟩;rcases(show j<k∨j=k by omega)with z|rfl
          ·exact HNE.out j z
          ·rw[HQ.out,HP.out];intro q;exact r0 (by simpa[vJ.key]using congrArg Prod.fst q)
         case measure=>simp[intOf];omega
       ·obtain rfl:k=n:=by omega
        gi_wp2;go_ret;exact⟨⟨0,rfl,λ_=>⟨by rw[HP.out];exact⟨q1,by rw[K0.out];exact q2,by rw[K0.out];exact q3,q4,q5⟩,HNE.out⟩⟩,hbr⟩
     ·gi_wp2_with (gi_at_call 76;refine(jO _ _ _ _ q5).mono ?_;rintro e w3 ⟨rfl,hw⟩;obtain rfl:w5=w3:=hw.symm)
      go_ret;exact⟨kW.bad 1 rfl (by decide),hb.trans (hw5.mono hb.size)⟩
    ·have q4':two≤one:=by omega
     gi_wp2;go_ret;exact⟨kW.bad 7 rfl (by decide),hb.trans (hw5.mono hb.size)⟩
   ·refine aT (λw'=>Below W.heap.size W w') rfl mixed (by kernel_rfl) (λd=>⟨rfl,rfl,rfl,ak _,λ_ _=>rfl⟩) ?_;simp only[aF,aC,aG,Nat.reduceAdd,Nat.zero_add,List.range,List.range.loop]
    iterate 38
     (first
      |(refine bF rfl rfl rfl (by decide) (λw f hf=>by cases hf<;>rfl) ?_
        simp only[Act.put,aj,ay,au])
      |(refine aQ rfl rfl (by kernel_rfl) (.inr rfl) ?_
        apply ah;refine⟨λw' hw' K Q hK=>?_,?_⟩
        ·have qX:=hX.below hw';have x0:=qX.cell 0;have x1:=qX.cell 1;have x2:=qX.cell 2;simp at x0 x1 x2;rw[EE.out]at x0;have lX:=qX.lt;have qM:=hM.below hw';have m0:=qM.cell 0;have m1:=qM.cell 1;have m2:=qM.cell 2;have m3:=qM.cell 3;simp at m0 m1 m2 m3;have lM:=qM.lt;have y0:=(hw'.cell (p:=⟨eb,eo+e',none⟩) J9).trans d0;have lE:=aA J9 hw'.size
         gi_wp2_with (gi_at_call 76;(first|(refine(gX _ _ _ _ (by assumption)).mono ?_)|(refine(jO _ _ _ _ (by assumption)).mono ?_));rintro e w3 ⟨rfl,hw⟩;obtain rfl:w'=w3:=hw.symm)
         try exact hw'
        apply ah;refine⟨rfl,?_⟩))
    intro w5 hw5;gi_wp2;go_ret;exact⟨kW.bad 6 rfl (by decide),hb.trans (hw5.mono hb.size)⟩
  ·refine aT (λw'=>Below W.heap.size W w') rfl mixed (by kernel_rfl) (λd=>⟨rfl,rfl,rfl,ak _,λ_ _=>rfl⟩) ?_;simp only[aF,aC,aG,Nat.reduceAdd,Nat.zero_add,List.range,List.range.loop]
   iterate 38
    (first
     |(refine bF rfl rfl rfl (by decide) (λw f hf=>by cases hf<;>rfl) ?_
       simp only[Act.put,aj,ay,au])
     |(refine aQ rfl rfl (by kernel_rfl) (.inr rfl) ?_
       apply ah;refine⟨λw' hw' K Q hK=>?_,?_⟩
       ·have qX:=hX.below hw';have x0:=qX.cell 0;have x1:=qX.cell 1;have x2:=qX.cell 2;simp at x0 x1 x2;rw[EE.out]at x0;have lX:=qX.lt;have qM:=hM.below hw';have m0:=qM.cell 0;have m1:=qM.cell 1;have m2:=qM.cell 2;have m3:=qM.cell 3;simp at m0 m1 m2 m3;have lM:=qM.lt;have y0:=(hw'.cell (p:=⟨eb,eo+e',none⟩) J9).trans d0;have lE:=aA J9 hw'.size
        gi_wp2_with (gi_at_call 76;(first|(refine(gX _ _ _ _ (by assumption)).mono ?_)|(refine(jO _ _ _ _ (by assumption)).mono ?_));rintro e w3 ⟨rfl,hw⟩;obtain rfl:w'=w3:=hw.symm)
        try exact hw'
       apply ah;refine⟨rfl,?_⟩))
   intro w5 hw5;gi_wp2;go_ret;exact⟨kW.bad 6 rfl (by decide),hb.trans (hw5.mono hb.size)⟩
 ·refine aT (λw'=>Below W.heap.size W w') rfl mixed (by kernel_rfl) (λd=>⟨rfl,rfl,rfl,ak _,λ_ _=>rfl⟩) ?_;simp only[aF,aC,aG,Nat.reduceAdd,Nat.zero_add,List.range,List.range.loop]
  iterate 38
   (first
    |(refine bF rfl rfl rfl (by decide) (λw f hf=>by cases hf<;>rfl) ?_
      simp only[Act.put,aj,ay,au])
    |(refine aQ rfl rfl (by kernel_rfl) (.inr rfl) ?_
      apply ah;refine⟨λw' hw' K Q hK=>?_,?_⟩
      ·have qX:=hX.below hw';have x0:=qX.cell 0;have x1:=qX.cell 1;have x2:=qX.cell 2;simp at x0 x1 x2;have lX:=qX.lt;have qM:=hM.below hw';have m0:=qM.cell 0;have m1:=qM.cell 1;have m2:=qM.cell 2;have m3:=qM.cell 3;simp at m0 m1 m2 m3;have lM:=qM.lt
       gi_wp2_with (gi_at_call 76;(first|(refine(gX _ _ _ _ (by assumption)).mono ?_)|(refine(jO _ _ _ _ (by assumption)).mono ?_));rintro e w3 ⟨rfl,hw⟩;obtain rfl:w'=w3:=hw.symm)
       try exact hw'
      apply ah;refine⟨rfl,?_⟩))
  intro w5 hw5;gi_wp2;go_ret;exact⟨kW.bad 6 rfl (by decide),hb.trans (hw5.mono hb.size)⟩
end
end
