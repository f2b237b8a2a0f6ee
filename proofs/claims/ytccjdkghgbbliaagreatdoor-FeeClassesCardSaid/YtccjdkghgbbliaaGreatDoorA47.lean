/- goods.CheckTable and goods.open on a right table: inside the fence. -/
import Derived.Shelf.Slices.In.SortNone
import Derived.Test.YtccjdkghgbbliaaGreatDoorA46
set_option linter.all false
namespace Go.Proofs.YtccjdkghgbbliaaGreatDoor
section
set_option maxHeartbeats 1000000
set_option maxRecDepth 10000
set_option maxHeartbeats 64000000
set_option maxRecDepth 100000
open Go Go.RowKit Lift
abbrev aZ.fns(t:aZ):Array Value:=#[.func (.func 176) #[.agg t.arr] #[],.func (.func 177) #[.agg t.arr] #[],.func (.func 178) #[.agg t.arr] #[]]
section
variable {N:Nat} {t:aZ} {w:World}
theorem FW(h:bI N t w)(hO:t.Ok):CallsIn Fz 0 Tryz.prog 112 #[.agg t.arr] w λr w'=>r=.returned (.int .i64 0)∧Below w.heap.size w w':=by
 have hN:=h.hN;have hb1:Below w.heap.size w (((w.alloc (.cells t.arr 68)).alloc (.cells t.arr 148)).alloc (.cells t.fns 116)):=(((Below.refl _ w).alloc (ak _) _).alloc (by simp) _).alloc (by simp;omega) _;have hS1:Blk (((w.alloc (.cells t.arr 68)).alloc (.cells t.arr 148)).alloc (.cells t.fns 116)) (w.heap.size+1+1) 116 t.fns:=by have:=Blk.new ((w.alloc (.cells t.arr 68)).alloc (.cells t.arr 148)) t.fns 116;simpa only[World.size_alloc]using this
 have k0:=λ{w'} (hT:bI N t w')=>CY hT hO;have k1:=λ{w'} (hT:bI N t w')=>CZ hT hO;have k2:=λ{w'} (hT:bI N t w')=>Ie hT hO;clear hO;gi_enter Tryz.func112,Tryz.ntmps112
 gi_wp2;gi_loopw [17] (λi wr=>∃k:Nat,k≤3∧i=.int .i64 k∧Below w.heap.size w wr∧Blk wr (w.heap.size+1+1) 116 t.fns) (λi _=>3-(intOf i).toNat)
 case atStart=>exact⟨0,Nat.zero_le _,rfl,hb1,hS1⟩
 case round=>
  clear hb1 hS1;obtain⟨k,hk,rfl,hb,hS⟩:=hrel;have hT:=h.below (hb.mono hN);have x0:=hS.cell 0;have x1:=hS.cell 1;have x2:=hS.cell 2;simp at x0 x1 x2;have lS:=hS.lt;rcases(show k=0∨k=1∨k=2∨k=3 by omega)with rfl|rfl|rfl|rfl
  ·rw[show((0:Nat):Int)=0 from rfl];have hc:=k0 hT
   gi_wp2_with (gi_at_call 176;refine hc.mono ?_;rintro e w3 ⟨rfl,hg⟩)
   go_roundw
   case rel=>exact⟨1,by omega,by go_num,hb.trans (hg.mono hb.size),hS.below hg⟩
   case measure=>simp[intOf]
  ·rw[show((1:Nat):Int)=1 from rfl];have hc:=k1 hT
   gi_wp2_with (gi_at_call 177;refine hc.mono ?_;rintro e w3 ⟨rfl,hg⟩)
   go_roundw
   case rel=>exact⟨2,by omega,by go_num,hb.trans (hg.mono hb.size),hS.below hg⟩
   case measure=>simp[intOf]
  ·rw[show((2:Nat):Int)=2 from rfl];have hc:=k2 hT
   gi_wp2_with (gi_at_call 178;refine hc.mono ?_;rintro e w3 ⟨rfl,hg⟩)
   go_roundw
   case rel=>exact⟨3,by omega,by go_num,hb.trans (hg.mono hb.size),hS.below hg⟩
   case measure=>simp[intOf]
  ·rw[show((3:Nat):Int)=3 from rfl];gi_wp2;go_ret;exact⟨rfl,hb⟩
theorem load148{B:Nat}{a b c:Value}(h:Blk w B 148 #[a,b,c]):(loadVar 148 ⟨B,0,none⟩).run Tryz.prog w=.ok (.agg #[a,b,c]) w:=by
 have c0:=h.cell 0;have c1:=h.cell 1;have c2:=h.cell 2;simp at c0 c1 c2;have hs:=Tryz.sizeOf148;have ha:=Tryz.isAgg148;simp[loadVar,go_sem,c0,c1,c2,hs,ha,loadCells,loadCellsFrom,Addr.add]
theorem Jz(h:bI N t w)(hO:t.Ok){e:Nat}(hl:e<t.gW.length){v:Value}{xs:List Int}{B cap:Nat}(hB:w.cell? ⟨B,0,none⟩=some v)(jL:B<w.heap.size)(hs:cZ w v xs)(hn:xs.length<1000000)(hL:Lst (t.dI e).items.length xs) :
  CallsIn Fz 0 Tryz.prog 53 #[.agg t.arr,.int .i64 e,.slice (some ⟨B,0,none⟩) 1 cap] w λr w'=>r=.returned (.tuple #[.agg t.arr,.int .i64 0])∧Below w.heap.size w w':=by
 have hN:=h.hN;have hF:=hO.fin;have nil3:∃a:Array Value,a=#[.slice none 0 0,.slice none 0 0,.slice none 0 0]:=⟨_,rfl⟩
 have hb1:Below w.heap.size w (((w.alloc (.cells t.arr 68)).alloc (.cells #[.slice none 0 0,.slice none 0 0,.slice none 0 0] 148)).alloc (.cells t.arr 148)):=(((Below.refl _ w).alloc (ak _) _).alloc (by simp) _).alloc (by simp;omega) _;have hA1:Blk (((w.alloc (.cells t.arr 68)).alloc (.cells #[.slice none 0 0,.slice none 0 0,.slice none 0 0] 148)).alloc (.cells t.arr 148)) w.heap.size 68 t.arr:=(Blk.new w t.arr 68).below (((Below.refl _ _).alloc (ak _) _).alloc (by simp) _);have hR1:Blk (((w.alloc (.cells t.arr 68)).alloc (.cells #[.slice none 0 0,.slice none 0 0,.slice none 0 0] 148)).alloc (.cells t.arr 148)) (w.heap.size+1) 148 #[.slice none 0 0,.slice none 0 0,.slice none 0 0]:=by
  have:=(Blk.new (w.alloc (.cells t.arr 68)) #[.slice none 0 0,.slice none 0 0,.slice none 0 0] 148).below ((Below.refl _ _).alloc (ak _) (.cells t.arr 148));simpa only[World.size_alloc]using this
 have hX1:Blk (((w.alloc (.cells t.arr 68)).alloc (.cells #[.slice none 0 0,.slice none 0 0,.slice none 0 0] 148)).alloc (.cells t.arr 148)) (w.heap.size+1+1) 148 t.arr:=by
  have:=Blk.new ((w.alloc (.cells t.arr 68)).alloc (.cells #[.slice none 0 0,.slice none 0 0,.slice none 0 0] 148)) t.arr 148;simpa only[World.size_alloc]using this
 have hc:=FW (h.below (hb1.mono hN)) hO;have hed:=λw=>F5 (t:=t) (n:=(e:Int)) hF.e (by omega) w;have hli:=λ{w'} (hb:Below w.heap.size w w')=>NW (h.below (hb.mono hN)) hF hl (hs.below hb) hn hL;obtain⟨base,off,c,rfl,hs2⟩:=hs;clear nil3 hs2 hL;gi_enter Tryz.func53,Tryz.ntmps53
 gi_wp2_with (first
  |(gi_at_call 112;refine hc.mono ?_;rintro e w3 ⟨rfl,hb3⟩;have hA:=hA1.below hb3;have hR:=hR1.below hb3;have hX:=hX1.below hb3;have hb:=hb1.trans (hb3.mono hb1.size);clear hb1 hA1 hR1 hX1 hb3;have x0:=hX.cell 0;have x1:=hX.cell 1;have x2:=hX.cell 2;simp at x0 x1 x2;have lX:=hX.lt)
  |(gi_at_call 113;refine(hed _).mono ?_;rintro e w4 ⟨rfl,hb4⟩;replace hA:=hA.below hb4;replace hR:=hR.below hb4;replace hX:=hX.below hb4;replace hb:=hb.trans (hb4.mono hb.size);clear x0 x1 x2 lX hb4))
 gi_loopw [28] (λi wr=>∃k:Nat,k≤1∧i=.int .i64 k∧Below w.heap.size w wr∧Blk wr (w.heap.size+1) 148 #[.slice none 0 0,.slice none 0 0,.slice none 0 0]∧Blk wr (w.heap.size+1+1) 148 t.arr) (λi _=>1-(intOf i).toNat)
 case atStart=>exact⟨0,by omega,rfl,hb,hR,hX⟩
 case round=>
  clear hb hR hX hA;obtain⟨k,hk,rfl,hb,hR,hX⟩:=hrel;have x0:=hX.cell 0;have x1:=hX.cell 1;have x2:=hX.cell 2;simp at x0 x1 x2;have lX:=hX.lt;rcases(show k=0∨k=1 by omega)with rfl|rfl
  ·rw[show((0:Nat):Int)=0 from rfl];have b0:=(hb.cell (p:=⟨B,0,none⟩) jL).trans hB;have lb:=aA jL hb.size;have hc:=hli hb
   gi_wp2_with (gi_at_call 54;refine hc.mono ?_;rintro e w3 ⟨rfl,hg⟩)
   go_roundw
   case rel=>exact⟨1,by omega,by go_num,hb.trans (hg.mono hb.size),hR.below hg,hX.below hg⟩
   case measure=>simp[intOf]
  ·rw[show((1:Nat):Int)=1 from rfl];have f0:=hR.frozen 0;have f1:=hR.frozen 1;have f2:=hR.frozen 2;have t0:=hR.cell 0;have t1:=hR.cell 1;have t2:=hR.cell 2;simp at t0 t1 t2;have hF:=((hR.put 0 (.slice t.ea t.gW.length t.ec)).put 1 (.slice t.ma t.mvs.length t.mc)).put 2 (.slice t.ka t.jG.length t.kc);simp only[aj,ay,au]at hF;gi_wp2
   (try simp only[Exit.inBlock,Exit.then])
   refine bodyPost_ret (v:=.tuple #[.agg t.arr,.int .i64 0]) ?_ rfl ⟨rfl,((hb.setCell (p:=⟨w.heap.size+1,0,none⟩) (by simp) _).setCell (p:=⟨w.heap.size+1,1,none⟩) (by simp) _).setCell (p:=⟨w.heap.size+1,2,none⟩) (by simp) _⟩;rw[results_cell_tmp rfl];simp[asAddr,Result.andThen,load148 hF]
end
end
section
set_option maxHeartbeats 1000000
set_option maxRecDepth 10000
set_option maxHeartbeats 64000000
set_option maxRecDepth 100000
open Go Go.RowKit Lift Go.Sort
theorem ownsRow_below{w w':World}{b n sz:Nat}{ty:TypeId}{v:Value}{xs:List Value}(h:w.ownsRow b ty sz v n xs)(hb:Below w.heap.size w w'):w'.ownsRow b ty sz v n xs:=by
 refine⟨h.1,?_⟩;rcases h.2 with h2|⟨g,cap,cur,e1,e2,e3,e4⟩
 ·exact .inl h2
 ·exact .inr ⟨g,cap,cur,e1,e2,(hb.block g (Array.getElem?_eq_some_iff.1 e3).1).trans e3,e4⟩
theorem MR{N0 n:Nat}{v:Value}{zs:List Int}{w:World}(hn:n=zs.length)(h:w.ownsRow N0 3 1 v n (zs.map (Value.int .i64)))(hN:N0≤w.heap.size)(hz:zs.length<1000) :
  CallsIn Fz 0 Tryz.prog 61 #[v] w λe w'=>e=.returned (.tuple #[])∧w'.ownsRow N0 3 1 v n ((sZ zs).map (Value.int .i64))∧Below N0 w w':=by
 subst hn;rcases h.2 with⟨rfl,h0⟩|⟨g,cap,cur,rfl,hbase,hb,m1,m2,m3,m4⟩
 ·obtain rfl:zs=[]:=List.length_eq_zero_iff.1 h0;exact(mX (λD=>AnyS.slices_Sort_int_none_alone Tryz.lays189 D none 0 w) (by kernel_rfl)).mono λe w' ⟨e1,e2⟩=>⟨e1,by subst e2;rw[show sZ []=[] by simp[sZ]];exact h,by subst e2;exact Below.refl _ _⟩
 ·have hgl:g<w.heap.size:=(Array.getElem?_eq_some_iff.1 hb).1;have m4':cur.toList.take zs.length=zs.map (Value.int .i64):=by simpa using m4
  refine(Oa g 0 cap zs w (holds_of_blockI hb m4') hgl (by omega)).mono ?_;rintro e w' ⟨rfl,n,os,rfl⟩;have hsl:(sZ zs).length=zs.length:=by simp[sZ]
  have hb2:=heap_sortedI (n:=n) (os:=os) (sZ zs).toArray hb;have hg2:=grownBy_sortedI (w:=w) (g:=g) (n:=n) (os:=os) (sZ zs).toArray;refine⟨rfl,⟨by simp[hsl],.inr ⟨g,cap,_,rfl,hbase,hb2,m1,m2,by simpa[putCells]using m3,?_⟩⟩,(Below.refl _ w).grown hg2 hN (λk hk=>by cases hk;exact hbase)⟩;have:=take_putCellsI cur (sZ zs) (by omega);rw[hsl]at this;simpa using this
theorem C9{N0 n:Nat}{v:Value}{zs:List Int}{w:World}(hn:n=zs.length)(h:w.ownsRow N0 3 1 v n (zs.map (Value.int .i64)))(hN:N0≤w.heap.size)(hz:zs.length<1000) :
  CallsIn Fz 0 Tryz.prog 62 #[v] w λe w'=>(∃base cap,e=.returned (.slice base (Lib.compact zs).length cap))∧Below N0 w w':=by
 subst hn;rcases h.2 with⟨rfl,h0⟩|⟨g,cap,cur,rfl,hbase,hb,m1,m2,m3,m4⟩
 ·obtain rfl:zs=[]:=List.length_eq_zero_iff.1 h0;exact(mX (λD=>AnyS.slices_Compact_int_empty_in Tryz.Et D none 0 w) (by kernel_rfl)).mono λe w' ⟨e1,e2⟩=>⟨⟨none,0,e1⟩,by subst e2;exact Below.refl _ _⟩
 ·have m4':cur.toList.take zs.length=zs.map (Value.int .i64):=by simpa using m4
  refine(Ad g 0 cap zs w (holds_of_blockI hb m4') (by omega) (by omega)).mono ?_;rintro e w' ⟨rfl,q,rfl⟩;have ew:∀d,putRow (Value.int .i64) (Sort.ahead w q) g 0 d=grow (putRow (Value.int .i64) (Sort.ahead w q) g 0 d) #[]:=λd=>by unfold grow;rw[Array.append_empty]
  rw[ew];have hg2:=grownBy_sortedI (w:=w) (g:=g) (n:=q) (os:=#[]) (Lib.compact zs++List.replicate (zs.length-(Lib.compact zs).length) 0).toArray;exact⟨⟨_,_,rfl⟩,(Below.refl _ w).grown hg2 hN (λk hk=>by cases hk;exact hbase)⟩
section
variable {N:Nat} {t:aZ} {w:World}
def aZ.cls(t:aZ)(e:Nat)(x:Int):Int:=((t.dI e).at x.toNat).cls
theorem zK(h:bI N t w)(hO:t.Ok){e:Nat}(hl:e<t.gW.length){v:Value}{xs:List Int}(hs:cZ w v xs)(hn:xs.length≤8)(hL:Lst (t.dI e).items.length xs) :
  CallsIn Fz 0 Tryz.prog 22 #[.agg t.arr,.int .i64 e,v] w λr w'=>(∃base cap,r=.returned (.tuple #[.slice base (KF (t.cls e) xs).length cap,.int .i64 0]))∧Below w.heap.size w w':=by
 have hN:=h.hN;have hF:=hO.fin;obtain⟨i0,hi0,hz0,hz1,hz2⟩:=info_parts Tryz.yu;have hb1:∀A:Array Value,Below w.heap.size w ((w.alloc (.cells t.arr 68)).alloc (.cells A 28)):=λA=>((Below.refl _ w).alloc (ak _) _).alloc (by simp) _;have hB1:∀v:Value,((w.alloc (.cells t.arr 68)).alloc (.cells #[v] 28)).cell? ⟨w.heap.size+1,0,none⟩=some v:=λv=>by
  have:=(Blk.new (w.alloc (.cells t.arr 68)) #[v] 28).cell 0;simpa using this
 have hop:=Jz (h.below ((hb1 #[v]).mono hN)) hO hl (v:=v) (B:=w.heap.size+1) (cap:=1) (hB1 v) (by simp) (hs.below (hb1 _)) (by omega) hL;have hit:=λ{w'} (hb:Below w.heap.size w w')=>IY (h.below (hb.mono hN)) hF.e hl;have hEE:=λ{w'} (hb':Below w.heap.size w w')=>(h.below (hb'.mono hN)).edT hl;obtain⟨base,off,c,rfl,hs2⟩:=hs;have HS:=Lib.hid hs2;have HL:=Lib.hid hL;have hb1':=hb1 #[.slice base xs.length c];clear hs2 hL hB1 hb1;unfold aZ.cls;obtain⟨p,hp⟩:∃p,t.dI e=p:=⟨_,rfl⟩
 rw[hp]at hit hEE HL ⊢;clear hp;have hf0:((0:Int)=0):=rfl;gi_enter Tryz.func22,Tryz.ntmps22
 gi_wp2_with (gi_at_call 53;refine hop.mono ?_;rintro r w2 ⟨rfl,hb2⟩;have hB:=hb1'.trans (hb2.mono hb1'.size);clear hb1')
 have hB3:=hB.alloc hB.size (.cells t.arr 148);have hW2:=hB.size;have hX:=Blk.new w2 t.arr 148;gi_loopw [26,10] (λi out wr=>∃k:Nat,k≤xs.length∧i=.int .i64 k∧Below w.heap.size w wr∧Blk wr w2.heap.size 148 t.arr∧wr.ownsRow (w2.heap.size+1) 3 1 out k (((xs.take k).map λx=>(p.at x.toNat).cls).map (Value.int .i64))) (λi _ _=>xs.length-(intOf i).toNat)
 case atStart=>exact⟨0,Nat.zero_le _,rfl,hB3,hX,⟨by simp,.inl ⟨rfl,rfl⟩⟩⟩
 case round=>
  clear hB3 hX hB;obtain⟨k,hk,rfl,hb,hX,hrow⟩:=hrel;by_cases hlt:k<xs.length
  ·have hlt':(k:Int)<xs.length:=by omega
   obtain⟨B,rfl,b1,b2⟩:=HS.out k hlt;have c0:=(hb.cell (p:=⟨B,off+k,none⟩) b1).trans b2;have jL:B<wr.heap.size:=aA b1 hb.size;have hlo:=HL.out.lo k hlt;have htk:(xs.take (k+1)).map (λx=>(p.at x.toNat).cls)=(xs.take k).map (λx=>(p.at x.toNat).cls)++[(p.at (xs.getD k 0).toNat).cls]:=by
    rw[List.take_add_one,List.getElem?_eq_getElem hlt,List.map_append,List.getD_eq_getElem?_getD,List.getElem?_eq_getElem hlt];rfl
   obtain⟨x',hx⟩:∃x:Nat,xs.getD k 0=x:=⟨(xs.getD k 0).toNat,by omega⟩
   rw[hx]at c0 hlo htk;have hxl:x'<p.items.length:=by omega
   have hxl':(x':Int)<p.items.length:=by omega
   obtain⟨ib,io,i1,i2,i3⟩:=zL.item (hEE hb) hxl;obtain⟨y0,y1⟩:=i3 x' hxl;simp only[Int.toNat_natCast]at htk;generalize (p.at x').cls=cl at y1 htk;have hc:=hit hb;rw[i1]at hc;have ltI:ib<wr.heap.size:=aA i2 (Nat.le_trans hN hb.size);have x0:=hX.cell 0;have x1:=hX.cell 1;have x2:=hX.cell 2;have lX:=hX.lt;simp at x0 x1 x2;have HT:=Lib.hid htk;clear htk b2 i1 i3 hlo hx y0
   gi_wp2_with (first
    |(gi_at_call 60;refine hc.mono ?_;rintro r w3 ⟨rfl,hb3⟩;have hrow3:=ownsRow_below hrow hb3;have z1:=(hb3.cell (p:=⟨ib,io+x' * 2+1,none⟩) ltI).trans y1;have lI:=aA ltI hb3.size;have cn:=cell_one_new w3 (.int .i64 cl) 3;have hs3:=Nat.le_trans hX.lt hb3.size)
    |(gi_at_builtin;refine wpListIn_append_own _ rfl _ _ 28 rfl (w2.heap.size+1) 3 i0 (.int .i64 0) 1 8 Tryz.underlying28 hi0 hz0 hz1 hz2 rfl (by decide) _ _ _ rfl (hrow3.alloc _) ⟨w3.heap.size,0,none⟩ 1 1 [.int .i64 cl] rfl rfl cn (by simp[Value.oneCell']) (by unfold maxLen;omega) (by omega) (by simp;omega) ?_;intro v' w4 hown' hg4 _;go_frame))
   have hsz:=hb.size;have hsz3:=hb3.size;have hlX:=hX.lt;have hbX:Below (w2.heap.size+1) wr w4:=((hb3.mono hlX).alloc (by omega) _).grown hg4 (by simp;omega) (λj hj=>(hrow3.lt j hj).1);go_roundw
   case rel=>
    refine⟨k+1,by omega,by go_num,hb.trans (hbX.mono (by omega)),(hbX.block w2.heap.size (by omega)).trans hX,?_⟩
    ·rw[HT.out];simpa using hown'
   case measure=>simp[intOf];omega
  ·obtain rfl:k=xs.length:=by omega
   rw[List.take_length]at hrow;have hcs:=MR (zs:=xs.map λx=>(p.at x.toNat).cls) (by simp) hrow hX.lt (by simp;omega)
   gi_wp2_with (first
    |(gi_at_call 61;refine hcs.mono ?_;rintro r w3 ⟨rfl,hrow3,hb3⟩;have hcc:=C9 (by simp[sZ]) hrow3 (Nat.le_trans hX.lt hb3.size) (by simp[sZ];omega))
    |(gi_at_call 62;refine hcc.mono ?_;rintro r w4 ⟨⟨bs,cp,rfl⟩,hb4⟩))
   go_ret2
   exact⟨⟨bs,cp,rfl⟩,(hb.trans (hb3.mono (by omega))).trans (hb4.mono (by omega))⟩
end
end
section
set_option maxHeartbeats 1000000
set_option maxRecDepth 10000
set_option maxHeartbeats 64000000
set_option maxRecDepth 100000
open Go Go.RowKit Lift Go.Sort
theorem LD{n:Nat}{xs:List Int}(h1:xs.Pairwise (·<·))(h2:∀x∈xs,0≤x∧x≤(n:Int)-1):Lst n xs where
 lo:=λj hj=>h2 _ (by rw[List.getD_eq_getElem?_getD,List.getElem?_eq_getElem hj];exact List.getElem_mem hj)
 up:=λj h0 hj=>by
  have:=List.pairwise_iff_getElem.1 h1 (j-1) j (by omega) hj (by omega);simpa[List.getD_eq_getElem?_getD,List.getElem?_eq_getElem hj,List.getElem?_eq_getElem (show j-1<xs.length by omega)]using this
section
variable {N:Nat} {t:aZ} {w:World}
theorem DY(h:bI N t w)(hO:t.Ok){e:Nat}(hl:e<t.gW.length){bits:Int}(hb0:0≤bits∧bits≤255) :
  CallsIn Fz 0 Tryz.prog 19 #[.agg t.arr,.int .i64 e,.int .u8 bits] w λr w'=>(∃(v:Value) (xs:List Int),r=.returned v∧w'.ownsRow w.heap.size 3 1 v xs.length (xs.map (Value.int .i64))∧xs.Pairwise (·<·)∧(∀x∈xs,0≤x∧x≤((t.dI e).items.length:Int)-1)∧xs.length≤(t.dI e).items.length)∧Below w.heap.size w w':=by
 have hN:=h.hN;have hF:=hO.fin;have he:=hF.e;have hl':(e:Int)<t.gW.length:=by omega
 obtain⟨i0,hi0,hz0,hz1,hz2⟩:=info_parts Tryz.yu;have hb1:Below w.heap.size w (w.alloc (.cells t.arr 68)):=(Below.refl _ w).alloc (ak _) _;have hX:=Blk.new w t.arr 68;have h8:=(hO.ed e hl).n;have hed:=λ{w'} (hb:Below w.heap.size w w')=>(h.below (hb.mono hN)).edn hl;clear hO hF;obtain⟨p,hp⟩:∃p,t.dI e=p:=⟨_,rfl⟩
 have hcell:∀{w'},Below w.heap.size w w'→∃b o,t.ea=some ⟨b,o,none⟩∧b<w'.heap.size∧w'.cell? ⟨b,o+e,none⟩=some (.slice p.ia p.items.length p.ic):=λhb=>by
  obtain⟨b,o,e1,e2,e3⟩:=hed hb;have:=e3 e hl;rw[hp]at this;exact⟨b,o,e1,aA e2 (Nat.le_trans hN hb.size),this⟩
 rw[hp]at h8 ⊢;clear hp hed;gi_enter Tryz.func19,Tryz.ntmps19
 gi_wp2;gi_loopw [8,7] (λi out wr=>∃(k:Nat) (zs:List Int),k≤p.items.length∧i=.int .i64 k∧Below w.heap.size w wr∧Blk wr w.heap.size 68 t.arr∧wr.ownsRow (w.heap.size+1) 3 1 out zs.length (zs.map (Value.int .i64))∧zs.Pairwise (·<·)∧(∀x∈zs,0≤x∧x≤(k:Int)-1)∧zs.length≤k) (λi _ _=>p.items.length-(intOf i).toNat)
 case atStart=>exact⟨0,[],Nat.zero_le _,rfl,hb1,hX,⟨by simp,.inl ⟨rfl,rfl⟩⟩,List.Pairwise.nil,(λx hx=>by simp at hx),ak _⟩
 case round=>
  clear hb1 hX;obtain⟨k,zs,hk,rfl,hb,hX,hrow,hz1',hz2',hz3⟩:=hrel;obtain⟨b,o,e1,yX,c0⟩:=hcell hb;have x0:=hX.cell 0;have lX:=hX.lt;simp at x0;rw[e1]at x0;clear e1;have HZ1:=Lib.hid hz1';have HZ2:=Lib.hid hz2';clear hz1' hz2';by_cases hlt:k<p.items.length
  ·have cn:=cell_one_new wr (.int .i64 k) 3;have hlt':(k:Int)<p.items.length:=by omega
   gi_wp2_with (gi_at_builtin;refine wpListIn_append_own _ rfl _ _ 28 rfl (w.heap.size+1) 3 i0 (.int .i64 0) 1 8 Tryz.underlying28 hi0 hz0 hz1 hz2 rfl (by decide) _ _ _ rfl (hrow.alloc _) ⟨wr.heap.size,0,none⟩ 1 1 [.int .i64 k] rfl rfl cn (by simp[Value.oneCell']) (by unfold maxLen;omega) (by omega) (by simp;omega) ?_;intro v' w4 hown' hg4 _;go_frame)
   ·have hsz:=hb.size;have hlX:=hX.lt;have hbX:Below (w.heap.size+1) wr w4:=(((Below.refl _ wr).alloc (by omega) _)).grown hg4 (by simp;omega) (λj hj=>(hrow.lt j hj).1);go_roundw
    case rel=>
     refine⟨k+1,zs++[(k:Int)],by omega,by go_num,hb.trans (hbX.mono (by omega)),(hbX.block w.heap.size (by omega)).trans hX,?_,?_,λx hx=>?_,by simp;omega⟩
     ·simpa using hown'
     ·exact List.pairwise_append.2 ⟨HZ1.out,by simp,λa ha c hc=>by
       rw[List.mem_singleton]at hc;subst hc;have:=HZ2.out a ha;omega⟩
     ·rcases List.mem_append.1 hx with hx|hx
      ·have:=HZ2.out x hx;omega
      ·rw[List.mem_singleton]at hx;subst hx;omega
    case measure=>simp[intOf];omega
   ·go_roundw
    case rel=>
     refine⟨k+1,zs,by omega,by go_num,hb,hX,hrow,HZ1.out,λx hx=>?_,by omega⟩;have:=HZ2.out x hx;omega
    case measure=>simp[intOf];omega
  ·obtain rfl:k=p.items.length:=by omega
   gi_wp2;go_ret;refine⟨⟨_,zs,rfl,⟨hrow.1,?_⟩,HZ1.out,HZ2.out,hz3⟩,hb⟩;rcases hrow.2 with q|⟨g,cap,cur,q1,q2,q3⟩
   ·exact .inl q
   ·exact .inr ⟨g,cap,cur,q1,by omega,q3⟩
def iq(N:Nat)(a:Option Addr)(n:Nat)(w:World):Prop:=∀i,i<n→∃b o x,a=some ⟨b,o,none⟩∧b<N∧w.cell? ⟨b,o+i,none⟩=some (.int .u16 x)∧0≤x∧x≤65535
theorem iq.below{a:Option Addr}{n:Nat}{w':World}(h:iq N a n w)(hb:Below N w w'):iq N a n w':=λi hi=>
 let ⟨b,o,x,h1,h2,h3,h4⟩:=h i hi
 ⟨b,o,x,h1,h2,(hb.cell (p:=⟨b,o+i,none⟩) h2).trans h3,h4⟩
theorem Oe{a:Option Addr}{n c:Nat}(hp:iq N a n w)(hN:N≤w.heap.size){k:Nat}(hk:k<100) :
  CallsIn Fz 0 Tryz.prog 59 #[.slice a n c,.int .i64 k] w λr w'=>(∃x:Int,r=.returned (.int .i64 x)∧0≤x∧x≤65535)∧w'=w:=by
 by_cases hl:k<n
 ·obtain⟨b,o,x,rfl,h2,h3,h4,h5⟩:=hp k hl;have hlt:b<w.heap.size:=aA h2 hN;have hl':(k:Int)<n:=by omega
  have hw:wrap64 x=x:=by unfold wrap64;omega
  gi_enter Tryz.func59,Tryz.ntmps59
  gi_wp2;go_ret;exact⟨⟨x,rfl,h4,h5⟩,rfl⟩
 ·have hl':¬((k:Int)<n):=by omega
  gi_enter Tryz.func59,Tryz.ntmps59
  gi_wp2;go_ret;exact⟨⟨0,rfl,by decide,by decide⟩,rfl⟩
end
end
section
set_option maxHeartbeats 1000000
set_option maxRecDepth 10000
set_option maxHeartbeats 64000000
set_option maxRecDepth 100000
open Go Go.RowKit Lift Go.Sort
theorem Tryz.info152:(Tryz.prog.info? 152).map (λi=>(i.zero,i.size,i.bytes))=some (some (.agg #[.slice none 0 0,.bool false]),2,32):=by kernel_rfl
def oO(n:Nat)(w:World)(ob:Option Nat)(sl:Value):Prop:=∃xs:List Int,w.ownsRow 0 3 1 sl xs.length (xs.map (Value.int .i64))∧xs.Pairwise (·<·)∧(∀x∈xs,0≤x∧x≤(n:Int)-1)∧xs.length≤n∧(sl.ownBlock=none∨sl.ownBlock≠ob)
theorem um{w:World}{b n sz:Nat}{ty:TypeId}{v:Value}{xs:List Value}(h:w.ownsRow b ty sz v n xs):∃base cap,v=.slice base n cap:=by
 rcases h.2 with⟨rfl,rfl⟩|⟨g,cap,cur,rfl,_⟩
 ·exact⟨none,0,rfl⟩
 ·exact⟨_,cap,rfl⟩
theorem wG{w:World}{b n sz:Nat}{ty:TypeId}{v:Value}{xs:List Value}(h:w.ownsRow b ty sz v n xs):w.ownsRow 0 ty sz v n xs:=by
 refine⟨h.1,?_⟩;rcases h.2 with h2|⟨g,cap,cur,e1,e2,e3⟩
 ·exact .inl h2
 ·exact .inr ⟨g,cap,cur,e1,Nat.zero_le _,e3⟩
theorem oO.below{n:Nat}{w w':World}{ob:Option Nat}{sl:Value}(h:oO n w ob sl)(hb:Below w.heap.size w w'):oO n w' ob sl:=by
 obtain⟨xs,h1,h2⟩:=h;exact⟨xs,ownsRow_below h1 hb,h2⟩
theorem oO.grown{n:Nat}{w w':World}{ob ob':Option Nat}{sl:Value}(h:oO n w ob sl)(hg:w.grownBy w' ob)(ho:ob'=ob∨ob'=some w.heap.size):oO n w' ob' sl:=by
 obtain⟨xs,h1,h2,h3,h4,h5⟩:=h;refine⟨xs,h1.kept hg h5,h2,h3,h4,?_⟩;rcases ho with rfl|rfl
 ·exact h5
 ·rcases h5 with h5|_
  ·exact .inl h5
  ·refine .inr λe=>?_;have:=(h1.lt _ e).2;omega
abbrev kG(rows:List (Value×Bool)):List (List Value):=rows.map λp=>[p.1,.bool p.2]
theorem Ik(rows:List (Value×Bool)):∀r∈kG rows,r.length=2:=λr hr=>by obtain⟨p,_,rfl⟩:=List.mem_map.1 hr;rfl
theorem Oy(w:World)(x y:Value)(t:TypeId):∀j u,[x,y][j]?=some u→(w.alloc (.cells #[x,y] t)).cell? ((⟨w.heap.size,0,none⟩:Addr).add j)=some u:=by
 intro j u hj;have:=(Blk.new w #[x,y] t).cell j;rw[Addr.add_lit,Nat.zero_add,this,← hj];simp
theorem und74:Tryz.prog.underlying 74=some (.slice 152):=by kernel_rfl
section
variable {N:Nat} {t:aZ} {w:World}
theorem Cuts_in(h:bI N t w)(hO:t.Ok){e:Nat}(hl:e<t.gW.length){a:Option Addr}{m c:Nat}(hp:iq N a m w) :
  CallsIn Fz 0 Tryz.prog 21 #[.agg t.arr,.int .i64 e,.slice a m c] w λr w'=>(∃(v:Value) (rows:List (Value×Bool)),r=.returned v∧w'.ownsRow 0 152 2 v rows.length (kG rows).flatten∧rows.length≤4∧∀p∈rows,oO (t.dI e).items.length w' v.ownBlock p.1)∧Below w.heap.size w w':=by
 have hN:=h.hN;obtain⟨i0,hi0,hz0,hz1,hz2⟩:=info_parts Tryz.info152;have hb1:Below w.heap.size w (w.alloc (.cells t.arr 68)):=(Below.refl _ w).alloc (ak _) _;have hX:=Blk.new w t.arr 68;have hch:=λ{w'} (hb:Below w.heap.size w w') {bits:Int} hb0=>DY (h.below (hb.mono hN)) hO hl (bits:=bits) hb0;have hpk:=λ{w'} (hb:Below w.heap.size w w') {k:Nat} (hk:k<100)=>Oe (c:=c) (hp.below (hb.mono hN)) (Nat.le_trans hN hb.size) hk;gi_enter Tryz.func21,Tryz.ntmps21
 gi_wp2;gi_loopw [8,7] (λi out wr=>∃(k:Nat) (rows:List (Value×Bool)),k≤4∧i=.int .i64 k∧rows.length=k∧Below w.heap.size w wr∧Blk wr w.heap.size 68 t.arr∧wr.ownsRow (w.heap.size+1) 152 2 out k (kG rows).flatten∧∀p∈rows,oO (t.dI e).items.length wr out.ownBlock p.1) (λi _ _=>4-(intOf i).toNat)
 case atStart=>exact⟨0,[],by decide,rfl,rfl,hb1,hX,⟨by simp,.inl ⟨rfl,rfl⟩⟩,λp hp=>by cases hp⟩
 case round=>
  clear hb1 hX;obtain⟨k,rows,hk,rfl,hrk,hb,hX,hrow,hcr⟩:=hrel;have HC:=Lib.hid hcr;clear hcr;have x0:=hX.cell 0;have x1:=hX.cell 1;have x2:=hX.cell 2;have lX:=hX.lt;simp at x0 x1 x2;have p0:=hpk hb (k:=0) (by decide);rw[show((0:Nat):Int)=0 from rfl]at p0;have p1:=hpk hb (k:=1+k) (by omega);rw[show((1+k:Nat):Int)=1+(k:Int) by omega]at p1;have hkk:(k:Int)≤4:=by omega
  gi_wp2_with (first
   |(gi_at_call 59;(first|(with_reducible refine p0.mono ?_)|(with_reducible refine p1.mono ?_));rintro r w2 ⟨⟨x,rfl,hx⟩,hw⟩;cases hw)
   |(gi_at_call 19;refine(hch hb (by omega)).mono ?_;rintro r w3 ⟨⟨v,xs,rfl,q1,q2,q3,q4⟩,hb3⟩;have hs3:=hb3.size;have hsw:=hb.size;have hrow3:=ownsRow_below hrow hb3;obtain⟨sb,sc,rfl⟩:=um q1)
   |(gi_at_builtin;refine wpListIn_append_own_at _ rfl _ _ 74 rfl (w.heap.size+1) 152 i0 _ 2 32 und74 hi0 hz0 hz1 hz2 rfl (by decide) _ _ _ rfl (hrow3.alloc _) ⟨w3.heap.size,0,none⟩ 1 1 [_,_] rfl rfl (Oy w3 _ _ 152) (by simp[Value.oneCell']) (by unfold maxLen;omega) (by omega) (by simp;omega) ?_;intro v' w4 hown' hg4 _ hat;go_frame))
  ·have hX3:=hX.below hb3;have hlX:=hX3.lt;have hxl:=hX.lt;obtain⟨bb,hown2⟩:∃bb:Bool,w4.ownsRow (w.heap.size+1) 152 2 v' (k+1) ((kG rows).flatten++[.slice sb xs.length sc,.bool bb]):=⟨_,hown'⟩
   have hbX:Below (w.heap.size+1) wr w4:=((hb3.mono (by omega)).alloc (by omega) _).grown hg4 (by simp;omega) (λj hj=>(hrow3.lt j hj).1);go_roundw
   case rel=>
    refine⟨k+1,rows++[(.slice sb xs.length sc,bb)],by omega,by go_num,by simp;omega,hb.trans (hbX.mono (by omega)),(hbX.block w.heap.size (by omega)).trans hX,?_,λp hp=>?_⟩
    ·have e:(kG (rows++[(.slice sb xs.length sc,bb)])).flatten=(kG rows).flatten++[.slice sb xs.length sc,.bool bb]:=by simp[kG]
     rw[e];exact hown2
    ·rcases List.mem_append.1 hp with hp|hp
     ·exact(((HC.out p hp).below hb3).below ((Below.refl _ _).alloc (ak _) _)).grown hg4 hat
     ·rw[List.mem_singleton]at hp;subst hp;have hcr:oO (t.dI e).items.length w3 u7.ownBlock (.slice sb xs.length sc):=by
       refine⟨xs,wG q1,q2,q3,q4,?_⟩;rcases ho:(Value.slice sb xs.length sc).ownBlock with _|g
       ·exact .inl rfl
       ·refine .inr λe2=>?_;have h1:=(q1.lt g ho).1;have h2:=(hrow.lt g e2.symm).2;omega
      exact(hcr.below ((Below.refl _ _).alloc (ak _) _)).grown hg4 hat
   case measure=>simp[intOf];omega
  ·go_ret;exact⟨⟨_,rows,rfl,by rw[hrk];exact wG hrow,by omega,HC.out⟩,hb⟩
end
end
