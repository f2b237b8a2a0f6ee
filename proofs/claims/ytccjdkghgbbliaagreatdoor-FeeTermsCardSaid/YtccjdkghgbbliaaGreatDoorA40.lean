/- The specification's checks of papers and dues, on any file: inside the fence. -/
import Derived.Test.YtccjdkghgbbliaaGreatDoorA39
set_option linter.all false
namespace Go.Proofs.YtccjdkghgbbliaaGreatDoor
section
set_option maxHeartbeats 1000000
set_option maxRecDepth 10000
set_option maxHeartbeats 16000000
set_option maxRecDepth 100000
open Go Go.RowKit Lift
theorem bg.uH{α:Type}{N size:Nat}{a:Option Addr}{row:α→List Value}{l:List α}{w:World}(h:bg N a size (l.map row) w){k:Nat}(hk:k<l.length) :
  ∃b o,a=some ⟨b,o,none⟩∧b<N∧∀j v,(row l[k])[j]?=some v→w.cell? ⟨b,o+k * size+j,none⟩=some v:=
 h k _ (by rw[List.getElem?_map,List.getElem?_eq_getElem hk];rfl)
theorem Ld{N:Nat}{a:Option Addr}{c:Nat}{ps:List pI}{w:World}(h:bg N a 2 (ps.map pI.row) w)(hN:N≤w.heap.size)(hn:ps.length<1000000) :
  CallsIn Fz 0 Tryz.prog 138 #[.slice a ps.length c] w λe w'=>kQ e True∧Below w.heap.size w w':=by
 by_cases h8:8<ps.length
 ·have h8':(8:Int)<ps.length:=by omega
  gi_enter Tryz.func138,Tryz.ntmps138
  gi_wp2;go_ret;exact⟨⟨_,rfl,λ_=>True.intro⟩,Below.refl _ _⟩
 ·have h8':¬((8:Int)<ps.length):=by omega
  gi_enter Tryz.func138,Tryz.ntmps138
  gi_wp2;gi_loopw [3] (λi wr=>∃k:Nat,k≤ps.length∧i=.int .i64 k∧Below w.heap.size w wr) (λi _=>ps.length-(intOf i).toNat)
  case atStart=>exact⟨0,Nat.zero_le _,rfl,Below.refl _ _⟩
  case round=>
   obtain⟨k,hk,rfl,hb⟩:=hrel;by_cases hl:k<ps.length
   ·obtain⟨b,o,e1,e2,e3⟩:=(h.below (hb.mono hN)).uH hl;have hlt:b<wr.heap.size:=aA e2 (Nat.le_trans hN hb.size);generalize ps[k]=p at e3;obtain⟨pk,pd⟩:=p;have c0:=e3 0 _ rfl;have c1:=e3 1 _ rfl;simp only[Nat.add_zero]at c0;rw[e1];clear e1 e3;by_cases q1:0≤pk∧pk≤3
    ·by_cases q2:0≤pd∧pd≤36524
     ·gi_wp2_with (first
       |(gi_at_call 76;refine(gQ _ _ _ _ q1).mono ?_;rintro e w' ⟨rfl,hw⟩;obtain rfl:wr=w':=hw.symm)
       |(gi_at_call 202;refine(wI _ _ q2).mono ?_;rintro e w' ⟨rfl,hw⟩;obtain rfl:wr=w':=hw.symm))
      go_roundw
      case rel=>exact⟨k+1,by omega,by go_num,hb⟩
      case measure=>simp[intOf];omega
     ·gi_wp2_with (first
       |(gi_at_call 76;refine(gQ _ _ _ _ q1).mono ?_;rintro e w' ⟨rfl,hw⟩;obtain rfl:wr=w':=hw.symm)
       |(gi_at_call 202;refine(zJ _ _ q2).mono ?_;rintro e w' ⟨rfl,hw⟩;obtain rfl:wr=w':=hw.symm))
      go_ret;exact⟨⟨_,rfl,λ_=>True.intro⟩,hb⟩
    ·gi_wp2_with (gi_at_call 76;refine(lN _ _ _ _ q1).mono ?_;rintro e w' ⟨rfl,hw⟩;obtain rfl:wr=w':=hw.symm)
     go_ret;exact⟨⟨_,rfl,λ_=>True.intro⟩,hb⟩
   ·obtain rfl:k=ps.length:=by omega
    gi_wp2;go_ret;exact⟨⟨_,rfl,λ_=>True.intro⟩,hb⟩
theorem Ry(x:Int)(w:World)(h:x=-1∨0≤x∧x≤36524):CallsIn Fz 0 Tryz.prog 203 #[.int .i64 x] w λe w'=>e=.returned (.bool true)∧w'=w:=by
 by_cases q:x=-1
 ·subst q;gi_enter Tryz.func203,Tryz.ntmps203
  gi_wp2;go_ret;exact⟨rfl,rfl⟩
 ·gi_enter Tryz.func203,Tryz.ntmps203
  gi_wp2_with (gi_at_call 202;refine(wI _ _ (h.resolve_left q)).mono ?_;rintro e w' ⟨rfl,rfl⟩)
  go_ret;exact⟨rfl,rfl⟩
theorem Rx(x:Int)(w:World)(h:¬(x=-1∨0≤x∧x≤36524)):CallsIn Fz 0 Tryz.prog 203 #[.int .i64 x] w λe w'=>e=.returned (.bool false)∧w'=w:=by
 have q:¬x=-1:=λz=>h (.inl z);gi_enter Tryz.func203,Tryz.ntmps203
 gi_wp2_with (gi_at_call 202;refine(zJ _ _ λz=>h (.inr z)).mono ?_;rintro e w' ⟨rfl,rfl⟩)
 go_ret;exact⟨by simp[q],rfl⟩
set_option maxHeartbeats 64000000 in
theorem Qz{N:Nat}{a:Option Addr}{c:Nat}{ds:List Gn}{w:World}(h:bg N a 6 (ds.map Gn.row) w)(hN:N≤w.heap.size)(hn:ds.length<1000000) :
  CallsIn Fz 0 Tryz.prog 140 #[.slice a ds.length c] w λe w'=>kQ e True∧Below w.heap.size w w':=by
 by_cases h8:4<ds.length
 ·have h8':(4:Int)<ds.length:=by omega
  gi_enter Tryz.func140,Tryz.ntmps140
  gi_wp2;go_ret;exact⟨⟨_,rfl,λ_=>True.intro⟩,Below.refl _ _⟩
 ·have h8':¬((4:Int)<ds.length):=by omega
  gi_enter Tryz.func140,Tryz.ntmps140
  gi_wp2;gi_loopw [3,4] (λi g wr=>∃k:Nat,k≤ds.length∧i=.int .i64 k∧Below w.heap.size w wr) (λi _ _=>ds.length-(intOf i).toNat)
  case atStart=>exact⟨0,Nat.zero_le _,rfl,Below.refl _ _⟩
  case round=>
   obtain⟨k,hk,rfl,hb⟩:=hrel;by_cases hl:k<ds.length
   ·obtain⟨b,o,e1,e2,e3⟩:=(h.below (hb.mono hN)).uH hl;have hlt:b<wr.heap.size:=aA e2 (Nat.le_trans hN hb.size);generalize ds[k]=p at e3;obtain⟨d0,d1,d2,d3,d4,d5⟩:=p;have c0:=e3 0 _ rfl;have c1:=e3 1 _ rfl;have c2:=e3 2 _ rfl;have c3:=e3 3 _ rfl;have c4:=e3 4 _ rfl;have c5:=e3 5 _ rfl;simp only[Nat.add_zero]at c0;rw[e1];clear e1 e3;have hT:=mY d1 d2 wr;by_cases q1:0≤d0∧d0≤36524
    ·by_cases qt:pz d1 d2=0
     ·rw[qt]at hT;by_cases q3:d3=-1∨0≤d3∧d3≤36524<;>by_cases q4:d4=-1∨0≤d4∧d4≤36524<;>by_cases q5:d5=-1∨0≤d5∧d5≤36524
      all_goals
       gi_wp2_with (first
        |(gi_at_call 202;refine(wI _ _ q1).mono ?_;rintro e w' ⟨rfl,hw⟩;obtain rfl:wr=w':=hw.symm)
        |(gi_at_call 77;refine hT.mono ?_;rintro e w2 ⟨rfl,hb2⟩;have k3:=(hb2.cell (p:=⟨b,o+k * 6+3,none⟩) hlt).trans c3;have k4:=(hb2.cell (p:=⟨b,o+k * 6+4,none⟩) hlt).trans c4;have k5:=(hb2.cell (p:=⟨b,o+k * 6+5,none⟩) hlt).trans c5;have lt2:=aA hlt hb2.size)
        |(gi_at_call 203;(first|refine(Ry _ _ (by assumption)).mono ?_|refine(Rx _ _ (by assumption)).mono ?_);rintro e w' ⟨rfl,hw⟩;obtain rfl:w2=w':=hw.symm))
       first
       |go_ret
        exact⟨⟨_,rfl,λ_=>True.intro⟩,hb.trans (hb2.mono hb.size)⟩
       |go_roundw
        case rel=>exact⟨k+1,by omega,by go_num,hb.trans (hb2.mono hb.size)⟩
        case measure=>simp[intOf];omega
     ·generalize pz d1 d2=z at hT qt
      gi_wp2_with (first
       |(gi_at_call 202;refine(wI _ _ q1).mono ?_;rintro e w' ⟨rfl,hw⟩;obtain rfl:wr=w':=hw.symm)
       |(gi_at_call 77;refine hT.mono ?_;rintro e w2 ⟨rfl,hb2⟩))
      go_ret;exact⟨⟨_,rfl,λ_=>True.intro⟩,hb.trans (hb2.mono hb.size)⟩
    ·gi_wp2_with (gi_at_call 202;refine(zJ _ _ q1).mono ?_;rintro e w' ⟨rfl,hw⟩;obtain rfl:wr=w':=hw.symm)
     go_ret;exact⟨⟨_,rfl,λ_=>True.intro⟩,hb⟩
   ·obtain rfl:k=ds.length:=by omega
    gi_wp2;go_ret;exact⟨⟨_,rfl,λ_=>True.intro⟩,hb⟩
end
section
set_option maxHeartbeats 1000000
set_option maxRecDepth 10000
set_option maxHeartbeats 64000000
set_option maxRecDepth 100000
open Go Go.RowKit Lift
theorem ints_at{N:Nat}{a:Option Addr}{xs:List Int}{w:World}(h:bg N a 1 (jZ xs) w){i:Nat}(hi:i<xs.length) :
  ∃b o,a=some ⟨b,o,none⟩∧b<N∧∀j,j<xs.length→w.cell? ⟨b,o+j,none⟩=some (.int .i64 (xs.getD j 0)):=by
 have hr:∀j,j<xs.length→(jZ xs)[j]?=some [.int .i64 (xs.getD j 0)]:=λj hj=>by
  unfold jZ;rw[List.getElem?_map,List.getElem?_eq_getElem hj,List.getD_eq_getElem?_getD,List.getElem?_eq_getElem hj];rfl
 obtain⟨b,o,e1,e2,_⟩:=h i _ (hr i hi);refine⟨b,o,e1,e2,λj hj=>?_⟩;obtain⟨b',o',e1',_,e3'⟩:=h j _ (hr j hj);rw[e1]at e1';cases e1';have:=e3' 0 _ rfl;simpa using this
theorem JB{N:Nat}{f:bM}{a:Option Addr}{c:Nat}{cs:List mJ}{w:World}(h:bg N a 3 (cs.map mJ.row) w)(hcl:∀c∈cs,ou N c w)(hN:N≤w.heap.size)(hn:cs.length<1000000)(hl:∀c∈cs,c.items.length<1000000)(hf:0≤f.items∧f.items≤5) :
  CallsIn Fz 0 Tryz.prog 139 #[.agg f.arr,.slice a cs.length c] w λe w'=>kQ e True∧Below w.heap.size w w':=by
 have hb1:Below w.heap.size w (w.alloc (.cells f.arr 37)):=(Below.refl _ w).alloc (aj _) _;have hX:=Blk.new w f.arr 37;by_cases h4:4<cs.length
 ·have h4':(4:Int)<cs.length:=by omega
  gi_enter Tryz.func139,Tryz.ntmps139
  gi_wp2;go_ret;exact⟨⟨_,rfl,λ_=>True.intro⟩,hb1⟩
 ·have h4':¬((4:Int)<cs.length):=by omega
  gi_enter Tryz.func139,Tryz.ntmps139
  gi_wp2;gi_loopw [5,6] (λi g wr=>∃k:Nat,k≤cs.length∧i=.int .i64 k∧Below w.heap.size w wr∧Blk wr w.heap.size 37 f.arr) (λi _ _=>cs.length-(intOf i).toNat)
  case atStart=>exact⟨0,Nat.zero_le _,rfl,hb1,hX⟩
  case round=>
   obtain⟨k,hk,rfl,hb,gZ⟩:=hrel;by_cases hlt:k<cs.length
   ·obtain⟨b,o,e1,e2,e3⟩:=(h.below (hb.mono hN)).uH hlt;have hlt2:b<wr.heap.size:=aA e2 (Nat.le_trans hN hb.size);have hci:=(hcl cs[k] (List.getElem_mem hlt)).below (hb.mono hN);have hil:=hl cs[k] (List.getElem_mem hlt);generalize cs[k]=p at e3 hci hil;obtain⟨d0,d1,ia,items,ic⟩:=p;have c0:=e3 0 _ rfl;have c1:=e3 1 _ rfl;have c2:=e3 2 _ rfl;simp only[Nat.add_zero]at c0;simp only at hil;rw[e1];clear e3;by_cases q1:0≤d0∧d0≤36524
    ·by_cases q2:0≤d1∧d1≤36524
     ·gi_wp2_with (gi_at_call 202;refine(wI _ _ (by assumption)).mono ?_;rintro e w' ⟨rfl,hw⟩;obtain rfl:wr=w':=hw.symm)
      have E1:=Lib.hid e1;clear e1;gi_loopw [6] (λi wx=>∃j:Nat,j≤items.length∧i=.int .i64 j∧Below w.heap.size w wx∧Below wr.heap.size wr wx) (λi _=>items.length-(intOf i).toNat)
      case atStart=>exact⟨0,Nat.zero_le _,rfl,hb,Below.refl _ _⟩
      case round=>
       obtain⟨j,hj,rfl,hb3,hb4⟩:=hrel;have hX2:=gZ.below hb4;have ltb:=aA hlt2 hb4.size;replace c2:=(hb4.cell (p:=⟨b,o+k * 3+2,none⟩) hlt2).trans c2;by_cases hjl:j<items.length
       ·obtain⟨ib,io,i1,i2,i3⟩:=ints_at (hci.is.below (hb4.mono (Nat.le_trans hN hb.size))) hjl;simp only at i1;subst i1;have lti:ib<wr.heap.size:=aA i2 (Nat.le_trans hN hb3.size);have i4:∀j',j'<items.length→∃y:Int,wr.cell? ⟨ib,io+j',none⟩=some (.int .i64 y):=λj' hj'=>⟨_,i3 j' hj'⟩
        obtain⟨y,ck⟩:=i4 j hjl;have I3:=Lib.hid i4;clear i4;clear i3 i2;by_cases q:0≤y∧y≤f.items - 1
        ·gi_wp2;refine aZ (λw'=>Below wr.heap.size wr w') rfl mixed (by kernel_rfl) (λd=>⟨rfl,rfl,rfl,aj _,λ_ _=>rfl⟩) ?_;simp only[aF,aC,aG,Nat.reduceAdd,Nat.zero_add,List.range,List.range.loop]
         iterate 13
          (refine aS rfl rfl (by kernel_rfl) (.inr rfl) ?_
           apply ah;refine⟨λw' hw' K Q hK=>?_,?_⟩
           ·have k2:=(hw'.cell (p:=⟨b,o+k * 3+2,none⟩) ltb).trans c2;have lb:=aA ltb hw'.size;have ck':=(hw'.cell (p:=⟨ib,io+j,none⟩) lti).trans ck;have li:=aA lti hw'.size;have qX:=(hX2.below hw');have x7:=qX.cell 13;simp at x7;have lX:=qX.lt
            gi_wp2_with (gi_at_call 76;refine(gQ _ _ _ _ q).mono ?_;rintro e w3 ⟨rfl,hw3⟩;obtain rfl:w'=w3:=hw3.symm)
            try exact hw'
           apply ah;refine⟨rfl,?_⟩)
         intro w5 hw5;gi_wp2;replace c2:=(hw5.cell (p:=⟨b,o+k * 3+2,none⟩) ltb).trans c2;replace ck:=(hw5.cell (p:=⟨ib,io+j,none⟩) lti).trans ck;have hX3:=hX2.below hw5;have b5:=hb3.trans (hw5.mono hb3.size);have b6:=hb4.trans (hw5.mono hb4.size);have lt5:=aA ltb hw5.size;have li5:=aA lti hw5.size;rcases Nat.eq_zero_or_pos j with rfl|hz
         ·rw[show((0:Nat):Int)=0 from rfl];refine aZ (λw'=>Below w5.heap.size w5 w') rfl mixed (by kernel_rfl) (λd=>⟨rfl,rfl,rfl,aj _,λ_ _=>rfl⟩) ?_;simp only[aF,aC,aG,Nat.reduceAdd,Nat.zero_add,List.range,List.range.loop]
          iterate 22
           (first
            |(refine bH rfl rfl rfl (by decide) (λw f hf=>by cases hf) ?_
              simp only[Act.put,ak,ay,au])
            |(refine aS rfl rfl (by kernel_rfl) (.inr rfl) ?_
              apply ah;refine⟨λw' hw' K Q hK=>?_,?_⟩
              ·skip;gi_wp2
               try exact hw'
              apply ah;refine⟨rfl,?_⟩))
          intro w6 hw6;gi_wp2;go_roundw
          case rel=>exact⟨1,by omega,by go_num,b5.trans (hw6.mono b5.size),b6.trans (hw6.mono b6.size)⟩
          case measure=>simp[intOf];omega
         ·obtain⟨m,rfl⟩:∃m,j=m+1:=⟨j - 1,by omega⟩
          obtain⟨z,cp0⟩:=I3.out m (by omega);have cp:=(hw5.cell (p:=⟨ib,io+m,none⟩) lti).trans cp0;clear cp0;have hk1:IntKind.i64.wrap (((m+1:Nat):Int)-1)=(m:Int):=by rw[IntKind.wrap_i64];omega
          have hz':(0:Int)<((m+1:Nat):Int):=by omega
          refine aZ (λw'=>Below w5.heap.size w5 w') rfl mixed (by kernel_rfl) (λd=>⟨rfl,rfl,rfl,aj _,λ_ _=>rfl⟩) ?_;simp only[aF,aC,aG,Nat.reduceAdd,Nat.zero_add,List.range,List.range.loop]
          iterate 22
           (first
            |(refine bH rfl rfl rfl (by decide) (λw f hf=>by cases hf) ?_
              simp only[Act.put,ak,ay,au])
            |(refine aS rfl rfl (by kernel_rfl) (.inr rfl) ?_
              apply ah;refine⟨λw' hw' K Q hK=>?_,?_⟩
              ·have k2:=(hw'.cell (p:=⟨b,o+k * 3+2,none⟩) lt5).trans c2;have lb:=aA lt5 hw'.size;have ck':=(hw'.cell (p:=⟨ib,io+(m+1),none⟩) li5).trans ck;have cp':=(hw'.cell (p:=⟨ib,io+m,none⟩) li5).trans cp;have li:=aA li5 hw'.size;gi_wp2
               try exact hw'
              apply ah;refine⟨rfl,?_⟩))
          intro w6 hw6;by_cases hu:y≤z
          ·gi_wp2;go_ret;exact⟨⟨_,rfl,λ_=>True.intro⟩,b5.trans (hw6.mono b5.size)⟩
          ·gi_wp2;go_roundw
           case rel=>exact⟨m+1+1,by omega,by go_num,b5.trans (hw6.mono b5.size),b6.trans (hw6.mono b6.size)⟩
           case measure=>simp[intOf];omega
        ·gi_wp2;refine aZ (λw'=>Below wr.heap.size wr w') rfl mixed (by kernel_rfl) (λd=>⟨rfl,rfl,rfl,aj _,λ_ _=>rfl⟩) ?_;simp only[aF,aC,aG,Nat.reduceAdd,Nat.zero_add,List.range,List.range.loop]
         iterate 13
          (refine aS rfl rfl (by kernel_rfl) (.inr rfl) ?_
           apply ah;refine⟨λw' hw' K Q hK=>?_,?_⟩
           ·have k2:=(hw'.cell (p:=⟨b,o+k * 3+2,none⟩) ltb).trans c2;have lb:=aA ltb hw'.size;have ck':=(hw'.cell (p:=⟨ib,io+j,none⟩) lti).trans ck;have li:=aA lti hw'.size;have qX:=(hX2.below hw');have x7:=qX.cell 13;simp at x7;have lX:=qX.lt
            gi_wp2_with (gi_at_call 76;refine(lN _ _ _ _ q).mono ?_;rintro e w3 ⟨rfl,hw3⟩;obtain rfl:w'=w3:=hw3.symm)
            try exact hw'
           apply ah;refine⟨rfl,?_⟩)
         intro w5 hw5;gi_wp2;go_ret;exact⟨⟨_,rfl,λ_=>True.intro⟩,hb3.trans (hw5.mono hb3.size)⟩
       ·obtain rfl:j=items.length:=by omega
        gi_wp2;go_roundw
        case rel=>exact⟨k+1,by omega,by go_num,hb3,hX2⟩
        case measure=>simp[intOf];omega
     ·gi_wp2_with (gi_at_call 202;(first|refine(wI _ _ (by assumption)).mono ?_|refine(zJ _ _ (by assumption)).mono ?_);rintro e w' ⟨rfl,hw⟩;obtain rfl:wr=w':=hw.symm)
      go_ret;exact⟨⟨_,rfl,λ_=>True.intro⟩,hb⟩
    ·gi_wp2_with (gi_at_call 202;refine(zJ _ _ (by assumption)).mono ?_;rintro e w' ⟨rfl,hw⟩;obtain rfl:wr=w':=hw.symm)
     go_ret;exact⟨⟨_,rfl,λ_=>True.intro⟩,hb⟩
   ·obtain rfl:k=cs.length:=by omega
    gi_wp2;go_ret;exact⟨⟨_,rfl,λ_=>True.intro⟩,hb⟩
end
section
set_option maxHeartbeats 1000000
set_option maxRecDepth 10000
set_option maxHeartbeats 64000000
set_option maxRecDepth 100000
open Go Go.RowKit Lift
structure zu.zx (a:zu):Prop where
 ps:a.ps.length≤20
 cs:a.cs.length≤20
 ds:a.ds.length≤20
 it:∀c∈a.cs,c.items.length≤20
structure bM.zx (f:bM):Prop where
 ls:f.ls.length≤20
 ss:f.ss.length≤20
 ap:f.apps.length≤20
 a:∀a∈f.apps,a.zx
theorem EK{N:Nat}{f:bM}{w:World}(h:fP N f w)(ht:f.zx)(hf:0≤f.items∧f.items≤5){k:Nat}(hk:k<f.apps.length) :
  CallsIn Fz 0 Tryz.prog 78 #[.agg f.arr,.int .i64 k] w λe w'=>kQ e True∧Below w.heap.size w w':=by
 have hN:=h.cal.hN;have has:=ht.ap;have hb1:Below w.heap.size w (w.alloc (.cells f.arr 37)):=(Below.refl _ w).alloc (aj _) _;obtain⟨ab,ao,e1,e2,e3⟩:=h.rs.uH hk;have hA:=h.at_ f.apps[k] (List.getElem_mem hk);have hT:=ht.a f.apps[k] (List.getElem_mem hk);generalize hap:f.apps[k]=p at e3 hA hT;have c0:=(hb1.cell (aA e2 hN)).trans (e3 0 _ rfl);have c1:=(hb1.cell (aA e2 hN)).trans (e3 1 _ rfl);have c2:=(hb1.cell (aA e2 hN)).trans (e3 2 _ rfl);have c3:=(hb1.cell (aA e2 hN)).trans (e3 3 _ rfl);simp only[Nat.add_zero]at c0;have lta:ab<w.heap.size:=aA e2 hN;have hP:∀w',Below w.heap.size w w'→_:=λw' hb=>Ld (c:=p.pc) (hA.ps.below (hb.mono hN)) (Nat.le_trans hN hb.size) (by have:=hT.ps;omega);have hC:∀w',Below w.heap.size w w'→_:=λw' hb=>JB (c:=p.cc) (f:=f) (hA.cs.below (hb.mono hN)) (λc hc=>(hA.cl c hc).below (hb.mono hN)) (Nat.le_trans hN hb.size) (by have:=hT.cs;omega) (λc hc=>by have:=hT.it c hc;omega) hf;have hD:∀w',Below w.heap.size w w'→_:=λw' hb=>Qz (c:=p.dc) (hA.ds.below (hb.mono hN)) (Nat.le_trans hN hb.size) (by have:=hT.ds;omega);clear e3 hA hT hap;have hkk:(k:Int)<f.apps.length:=by omega
 have hNm:=zq p.name;have hbV:Below w.heap.size w ((w.alloc (.cells f.arr 37)).alloc (.cells #[.string p.name,.slice p.pa p.ps.length p.pc,.slice p.ca p.cs.length p.cc,.slice p.da p.ds.length p.dc] 58)):=hb1.alloc (by simp) _;have hXV:Blk ((w.alloc (.cells f.arr 37)).alloc (.cells #[.string p.name,.slice p.pa p.ps.length p.pc,.slice p.ca p.cs.length p.cc,.slice p.da p.ds.length p.dc] 58)) w.heap.size 37 f.arr:=(Blk.new w f.arr 37).below ((Below.refl _ _).alloc (aj _) _);have hAV:Blk ((w.alloc (.cells f.arr 37)).alloc (.cells #[.string p.name,.slice p.pa p.ps.length p.pc,.slice p.ca p.cs.length p.cc,.slice p.da p.ds.length p.dc] 58)) (w.heap.size+1) 58 #[.string p.name,.slice p.pa p.ps.length p.pc,.slice p.ca p.cs.length p.cc,.slice p.da p.ds.length p.dc]:=by
  have:=Blk.new (w.alloc (.cells f.arr 37)) #[.string p.name,.slice p.pa p.ps.length p.pc,.slice p.ca p.cs.length p.cc,.slice p.da p.ds.length p.dc] 58;simpa using this
 have hrows:bg N f.aa 4 (f.apps.map zu.row) w:=h.rs;clear h hb1;gi_enter Tryz.func78,Tryz.ntmps78
 gi_wp2_with (gi_at_call 131;refine(hNm _).mono ?_;rintro e w2 ⟨⟨r,rfl,hr⟩,hb2⟩;replace hXV:=hXV.below hb2;replace hAV:=hAV.below hb2;replace hbV:=hbV.trans (hb2.mono hbV.size);clear hb2 hr c0 c1 c2 c3;have q0:=hAV.cell 0;have q1:=hAV.cell 1;have q2:=hAV.cell 2;have q3:=hAV.cell 3;simp at q0 q1 q2 q3;have lA:=hAV.lt;rcases r with _|_)
 ·go_ret;exact⟨⟨_,rfl,λ_=>True.intro⟩,hbV⟩
 ·gi_loopw [6] (λi wr=>∃j:Nat,j≤k∧i=.int .i64 j∧Below w.heap.size w wr∧Blk wr w.heap.size 37 f.arr∧Blk wr (w.heap.size+1) 58 #[.string p.name,.slice p.pa p.ps.length p.pc,.slice p.ca p.cs.length p.cc,.slice p.da p.ds.length p.dc]) (λi _=>k-(intOf i).toNat)
  case atStart=>exact⟨0,Nat.zero_le _,rfl,hbV,hXV,hAV⟩
  case round=>
   clear q0 q1 q2 q3 lA hXV hAV hbV;obtain⟨j,hj,rfl,hb,gZ,hAk⟩:=hrel;by_cases hjl:j<k
   ·obtain⟨b',o',e4,e5,e6⟩:=(hrows.below (hb.mono hN)).uH (show j<f.apps.length by omega);rw[e1]at e4;cases e4;have c0:=e6 0 _ rfl;clear e6;simp only[Nat.add_zero]at c0;have ltj:ab<wr.heap.size:=aA e5 (Nat.le_trans hN hb.size);generalize f.apps[j].name=nj at c0;have hjj:(j:Int)<f.apps.length:=by omega
    gi_wp2;by_cases he:nj=p.name
    ·have he':=QA he;clear he;refine aZ (λw'=>Below wr.heap.size wr w') rfl mixed (by kernel_rfl) (λd=>⟨rfl,rfl,rfl,aj _,λ_ _=>rfl⟩) ?_;simp only[aF,aC,aG,Nat.reduceAdd,Nat.zero_add,List.range,List.range.loop]
     iterate 9
      (refine aS rfl rfl (by kernel_rfl) (.inr rfl) ?_
       apply ah;refine⟨λw' hw' K Q hK=>?_,?_⟩
       ·have qX:=gZ.below hw';have qA:=hAk.below hw';have x14:=qX.cell 14;have a0:=qA.cell 0;simp at x14 a0;rw[e1]at x14;have lX:=qX.lt;have lA:=qA.lt;have n0:=(hw'.cell (p:=⟨ab,ao+j * 4,none⟩) ltj).trans c0;have lj:=aA ltj hw'.size;gi_wp2
        try exact hw'
       apply ah;refine⟨rfl,?_⟩)
     intro w5 hw5;gi_wp2;go_ret;exact⟨⟨_,rfl,λ_=>True.intro⟩,hb.trans (hw5.mono hb.size)⟩
    ·have he':=MC he;clear he;refine aZ (λw'=>Below wr.heap.size wr w') rfl mixed (by kernel_rfl) (λd=>⟨rfl,rfl,rfl,aj _,λ_ _=>rfl⟩) ?_;simp only[aF,aC,aG,Nat.reduceAdd,Nat.zero_add,List.range,List.range.loop]
     iterate 9
      (refine aS rfl rfl (by kernel_rfl) (.inr rfl) ?_
       apply ah;refine⟨λw' hw' K Q hK=>?_,?_⟩
       ·have qX:=gZ.below hw';have qA:=hAk.below hw';have x14:=qX.cell 14;have a0:=qA.cell 0;simp at x14 a0;rw[e1]at x14;have lX:=qX.lt;have lA:=qA.lt;have n0:=(hw'.cell (p:=⟨ab,ao+j * 4,none⟩) ltj).trans c0;have lj:=aA ltj hw'.size;gi_wp2
        try exact hw'
       apply ah;refine⟨rfl,?_⟩)
     intro w5 hw5;gi_wp2;go_roundw
     case rel=>exact⟨j+1,by omega,by go_num,hb.trans (hw5.mono hb.size),gZ.below hw5,hAk.below hw5⟩
     case measure=>simp[intOf];omega
   ·obtain rfl:j=k:=by omega
    clear e1;have q0:=hAk.cell 0;have q1:=hAk.cell 1;have q2:=hAk.cell 2;have q3:=hAk.cell 3;simp at q0 q1 q2 q3;have lA:=hAk.lt
    gi_wp2_with (first
     |(gi_at_call 138;refine(hP _ hb).mono ?_;rintro e w5 ⟨⟨r,rfl,hr⟩,hb5⟩;clear hr q0 q1 q2 q3 lA;replace gZ:=gZ.below hb5;replace hAk:=hAk.below hb5;replace hb:=hb.trans (hb5.mono hb.size);clear hb5;have q0:=hAk.cell 0;have q1:=hAk.cell 1;have q2:=hAk.cell 2;have q3:=hAk.cell 3;simp at q0 q1 q2 q3;have lA:=hAk.lt;have lX:=gZ.lt;have y0:=gZ.cell 0;have y1:=gZ.cell 1;have y2:=gZ.cell 2;have y3:=gZ.cell 3;have y4:=gZ.cell 4;have y5:=gZ.cell 5;have y6:=gZ.cell 6;have y7:=gZ.cell 7;have y8:=gZ.cell 8;have y9:=gZ.cell 9;have y10:=gZ.cell 10;have y11:=gZ.cell 11;have y12:=gZ.cell 12;have y13:=gZ.cell 13;have y14:=gZ.cell 14;simp at y0 y1 y2 y3 y4 y5 y6 y7 y8 y9 y10 y11 y12 y13 y14)
     |(gi_at_call 139;refine(hC _ hb).mono ?_;rintro e w6 ⟨⟨r',rfl,hr⟩,hb5⟩;clear y0 y1 y2 y3 y4 y5 y6 y7 y8 y9 y10 y11 y12 y13 y14;clear hr q0 q1 q2 q3 lA;replace gZ:=gZ.below hb5;replace hAk:=hAk.below hb5;replace hb:=hb.trans (hb5.mono hb.size);clear hb5;have q0:=hAk.cell 0;have q1:=hAk.cell 1;have q2:=hAk.cell 2;have q3:=hAk.cell 3;simp at q0 q1 q2 q3;have lA:=hAk.lt)
     |(gi_at_call 140;refine(hD _ hb).mono ?_;rintro e w7 ⟨⟨r'',rfl,hr⟩,hb5⟩;clear hr;replace hb:=hb.trans (hb5.mono hb.size)))
    all_goals
     go_ret;exact⟨⟨_,rfl,λ_=>True.intro⟩,hb⟩
end
section
set_option maxHeartbeats 1000000
set_option maxRecDepth 10000
set_option maxHeartbeats 64000000
set_option maxRecDepth 100000
open Go Go.RowKit Lift
theorem fP.up{N:Nat}{f:bM}{w w':World}(h:fP N f w)(hb:Below w.heap.size w w'):fP N f w':=h.below (hb.mono h.cal.hN)
theorem BK{N:Nat}{f:bM}{w:World}(h:fP N f w)(ht:f.zx) :
  CallsIn Fz 0 Tryz.prog 30 #[.agg f.arr] w λe w'=>kQ e f.Gi∧Below w.heap.size w w':=by
 have hls:=ht.ls;have hss:=ht.ss;have hap:=ht.ap;have hb1:Below w.heap.size w (w.alloc (.cells f.arr 37)):=(Below.refl _ w).alloc (aj _) _;have hX:=Blk.new w f.arr 37;have wQ:=calF_in (h.up hb1).cal (by omega) (by omega);by_cases q1:1≤f.kinds∧f.kinds≤4
 ·gi_enter Tryz.func30,Tryz.ntmps30
  gi_wp2_with (first
   |(gi_at_call 75;refine wQ.mono ?_;rintro e w2 ⟨⟨r,rfl,hr⟩,hb2⟩;replace hX:=hX.below hb2;replace hb1:=hb1.trans (hb2.mono hb1.size);clear hb2 wQ;have y0:=hX.cell 0;have y1:=hX.cell 1;have y2:=hX.cell 2;have y3:=hX.cell 3;have y4:=hX.cell 4;have y5:=hX.cell 5;have y6:=hX.cell 6;have y7:=hX.cell 7;have y8:=hX.cell 8;have y9:=hX.cell 9;have y10:=hX.cell 10;have y11:=hX.cell 11;have y12:=hX.cell 12;have y13:=hX.cell 13;have y14:=hX.cell 14;simp at y0 y1 y2 y3 y4 y5 y6 y7 y8 y9 y10 y11 y12 y13 y14;have lX:=hX.lt;rcases Decidable.em (r=0)with rfl|hr0)
   |(gi_at_call 76;refine(gQ _ _ _ _ q1).mono ?_;rintro e w3 ⟨rfl,hw⟩;obtain rfl:w2=w3:=hw.symm))
  ·clear y0 y1 y2 y3 y4 y5 y6 y7 y8 y9 y10 y11 y12 y13 y14 lX;have hok:=hr (by trivial);clear hr;have hT:=Blk.new w2 #[.int .i64 f.t0,.int .i64 f.u0,.int .i64 f.t1,.int .i64 f.u1,.int .i64 f.t2,.int .i64 f.u2,.int .i64 f.t3,.int .i64 f.u3,.int .i64 f.t4,.int .i64 f.u4] 34;have hX2:=hX.below ((Below.refl _ w2).alloc (aj _) (.cells #[.int .i64 f.t0,.int .i64 f.u0,.int .i64 f.t1,.int .i64 f.u1,.int .i64 f.t2,.int .i64 f.u2,.int .i64 f.t3,.int .i64 f.u3,.int .i64 f.t4,.int .i64 f.u4] 34));have hb2:=hb1.alloc hb1.size (.cells #[.int .i64 f.t0,.int .i64 f.u0,.int .i64 f.t1,.int .i64 f.u1,.int .i64 f.t2,.int .i64 f.u2,.int .i64 f.t3,.int .i64 f.u3,.int .i64 f.t4,.int .i64 f.u4] 34);gi_loopw [5,6] (λi g wr=>∃k:Nat,k≤5∧i=.int .i64 k∧Below w.heap.size w wr∧Blk wr w.heap.size 37 f.arr∧Blk wr w2.heap.size 34 #[.int .i64 f.t0,.int .i64 f.u0,.int .i64 f.t1,.int .i64 f.u1,.int .i64 f.t2,.int .i64 f.u2,.int .i64 f.t3,.int .i64 f.u3,.int .i64 f.t4,.int .i64 f.u4]) (λi _ _=>5-(intOf i).toNat)
   case atStart=>exact⟨0,by omega,rfl,hb2,hX2,hT⟩
   case round=>
    clear hT hX2 hb2 hX hb1;obtain⟨k,hk,rfl,hb,gZ,Hf⟩:=hrel;by_cases hk5:k<5
    ·have l0:=Hf.cell 0;have l1:=Hf.cell 1;have l2:=Hf.cell 2;have l3:=Hf.cell 3;have l4:=Hf.cell 4;have l5:=Hf.cell 5;have l6:=Hf.cell 6;have l7:=Hf.cell 7;have l8:=Hf.cell 8;have l9:=Hf.cell 9;simp at l0 l1 l2 l3 l4 l5 l6 l7 l8 l9;have lT:=Hf.lt;rcases(show k=0∨k=1∨k=2∨k=3∨k=4 by omega)with rfl|rfl|rfl|rfl|rfl
     ·rw[show((0:Nat):Int)=0 from rfl];have hz:=mY f.t0 f.u0 wr;obtain⟨z,hz0⟩:∃z,pz f.t0 f.u0=z:=⟨_,rfl⟩
      rw[hz0]at hz;clear hz0
      gi_wp2_with (gi_at_call 77;refine hz.mono ?_;rintro e w5 ⟨rfl,hb5⟩;rcases Decidable.em (z=0)with rfl|hr0)
      ·go_roundw
       case rel=>exact⟨1,by omega,by go_num,hb.trans (hb5.mono hb.size),gZ.below hb5,Hf.below hb5⟩
       case measure=>simp[intOf]
      ·go_ret;exact⟨kQ.bad z rfl hr0,hb.trans (hb5.mono hb.size)⟩
     ·rw[show((1:Nat):Int)=1 from rfl];have hz:=mY f.t1 f.u1 wr;obtain⟨z,hz0⟩:∃z,pz f.t1 f.u1=z:=⟨_,rfl⟩
      rw[hz0]at hz;clear hz0
      gi_wp2_with (gi_at_call 77;refine hz.mono ?_;rintro e w5 ⟨rfl,hb5⟩;rcases Decidable.em (z=0)with rfl|hr0)
      ·go_roundw
       case rel=>exact⟨2,by omega,by go_num,hb.trans (hb5.mono hb.size),gZ.below hb5,Hf.below hb5⟩
       case measure=>simp[intOf]
      ·go_ret;exact⟨kQ.bad z rfl hr0,hb.trans (hb5.mono hb.size)⟩
     ·rw[show((2:Nat):Int)=2 from rfl];have hz:=mY f.t2 f.u2 wr;obtain⟨z,hz0⟩:∃z,pz f.t2 f.u2=z:=⟨_,rfl⟩
      rw[hz0]at hz;clear hz0
      gi_wp2_with (gi_at_call 77;refine hz.mono ?_;rintro e w5 ⟨rfl,hb5⟩;rcases Decidable.em (z=0)with rfl|hr0)
      ·go_roundw
       case rel=>exact⟨3,by omega,by go_num,hb.trans (hb5.mono hb.size),gZ.below hb5,Hf.below hb5⟩
       case measure=>simp[intOf]
      ·go_ret;exact⟨kQ.bad z rfl hr0,hb.trans (hb5.mono hb.size)⟩
     ·rw[show((3:Nat):Int)=3 from rfl];have hz:=mY f.t3 f.u3 wr;obtain⟨z,hz0⟩:∃z,pz f.t3 f.u3=z:=⟨_,rfl⟩
      rw[hz0]at hz;clear hz0
      gi_wp2_with (gi_at_call 77;refine hz.mono ?_;rintro e w5 ⟨rfl,hb5⟩;rcases Decidable.em (z=0)with rfl|hr0)
      ·go_roundw
       case rel=>exact⟨4,by omega,by go_num,hb.trans (hb5.mono hb.size),gZ.below hb5,Hf.below hb5⟩
       case measure=>simp[intOf]
      ·go_ret;exact⟨kQ.bad z rfl hr0,hb.trans (hb5.mono hb.size)⟩
     ·rw[show((4:Nat):Int)=4 from rfl];have hz:=mY f.t4 f.u4 wr;obtain⟨z,hz0⟩:∃z,pz f.t4 f.u4=z:=⟨_,rfl⟩
      rw[hz0]at hz;clear hz0
      gi_wp2_with (gi_at_call 77;refine hz.mono ?_;rintro e w5 ⟨rfl,hb5⟩;rcases Decidable.em (z=0)with rfl|hr0)
      ·go_roundw
       case rel=>exact⟨5,by omega,by go_num,hb.trans (hb5.mono hb.size),gZ.below hb5,Hf.below hb5⟩
       case measure=>simp[intOf]
      ·go_ret;exact⟨kQ.bad z rfl hr0,hb.trans (hb5.mono hb.size)⟩
    ·obtain rfl:k=5:=by omega
     rw[show((5:Nat):Int)=5 from rfl];have y0:=gZ.cell 0;have y1:=gZ.cell 1;have y2:=gZ.cell 2;have y3:=gZ.cell 3;have y4:=gZ.cell 4;have y5:=gZ.cell 5;have y6:=gZ.cell 6;have y7:=gZ.cell 7;have y8:=gZ.cell 8;have y9:=gZ.cell 9;have y10:=gZ.cell 10;have y11:=gZ.cell 11;have y12:=gZ.cell 12;have y13:=gZ.cell 13;have y14:=gZ.cell 14;simp at y0 y1 y2 y3 y4 y5 y6 y7 y8 y9 y10 y11 y12 y13 y14;have lX:=gZ.lt;by_cases q2:0≤f.items∧f.items≤5
     ·by_cases q3:4<f.apps.length
      ·have q3':(4:Int)<f.apps.length:=by omega
       gi_wp2_with (gi_at_call 76;refine(gQ _ _ _ _ q2).mono ?_;rintro e w3 ⟨rfl,hw⟩;obtain rfl:wr=w3:=hw.symm)
       go_ret;exact⟨kQ.bad 2 rfl (by decide),hb⟩
      ·have q3':¬(4:Int)<f.apps.length:=by omega
       gi_wp2_with (gi_at_call 76;refine(gQ _ _ _ _ q2).mono ?_;rintro e w3 ⟨rfl,hw⟩;obtain rfl:wr=w3:=hw.symm)
       clear y0 y1 y2 y3 y4 y5 y6 y7 y8 y9 y10 y11 y12 y13 y14 lX;gi_loopw [7,8] (λi g wx=>∃k:Nat,k≤f.apps.length∧i=.int .i64 k∧Below w.heap.size w wx∧Blk wx w.heap.size 37 f.arr) (λi _ _=>f.apps.length-(intOf i).toNat)
       case atStart=>exact⟨0,by omega,rfl,hb,gZ⟩
       case round=>
        clear gZ hb Hf;obtain⟨k,hk,rfl,hb,gZ⟩:=hrel;have y0:=gZ.cell 0;have y1:=gZ.cell 1;have y2:=gZ.cell 2;have y3:=gZ.cell 3;have y4:=gZ.cell 4;have y5:=gZ.cell 5;have y6:=gZ.cell 6;have y7:=gZ.cell 7;have y8:=gZ.cell 8;have y9:=gZ.cell 9;have y10:=gZ.cell 10;have y11:=gZ.cell 11;have y12:=gZ.cell 12;have y13:=gZ.cell 13;have y14:=gZ.cell 14;simp at y0 y1 y2 y3 y4 y5 y6 y7 y8 y9 y10 y11 y12 y13 y14;have lX:=gZ.lt;by_cases hl:k<f.apps.length
        ·have happ:=EK (h.up hb) ht q2 hl
         gi_wp2_with (gi_at_call 78;refine happ.mono ?_;rintro e w5 ⟨⟨r,rfl,hr⟩,hb5⟩;clear hr;rcases Decidable.em (r=0)with rfl|hr0)
         ·go_roundw
          case rel=>exact⟨k+1,by omega,by go_num,hb.trans (hb5.mono hb.size),gZ.below hb5⟩
          case measure=>simp[intOf];omega
         ·go_ret;exact⟨kQ.bad r rfl hr0,hb.trans (hb5.mono hb.size)⟩
        ·obtain rfl:k=f.apps.length:=by omega
         gi_wp2;go_ret;exact⟨⟨0,rfl,λ_=>hok⟩,hb⟩
     ·gi_wp2_with (gi_at_call 76;refine(lN _ _ _ _ q2).mono ?_;rintro e w3 ⟨rfl,hw⟩;obtain rfl:wr=w3:=hw.symm)
      go_ret;exact⟨kQ.bad 1 rfl (by decide),hb⟩
  ·go_ret;exact⟨kQ.bad r rfl hr0,hb1⟩
 ·gi_enter Tryz.func30,Tryz.ntmps30
  gi_wp2_with (first
   |(gi_at_call 75;refine wQ.mono ?_;rintro e w2 ⟨⟨r,rfl,hr⟩,hb2⟩;replace hX:=hX.below hb2;replace hb1:=hb1.trans (hb2.mono hb1.size);clear hb2 wQ;have y0:=hX.cell 0;have y1:=hX.cell 1;have y2:=hX.cell 2;have y3:=hX.cell 3;have y4:=hX.cell 4;have y5:=hX.cell 5;have y6:=hX.cell 6;have y7:=hX.cell 7;have y8:=hX.cell 8;have y9:=hX.cell 9;have y10:=hX.cell 10;have y11:=hX.cell 11;have y12:=hX.cell 12;have y13:=hX.cell 13;have y14:=hX.cell 14;simp at y0 y1 y2 y3 y4 y5 y6 y7 y8 y9 y10 y11 y12 y13 y14;have lX:=hX.lt;rcases Decidable.em (r=0)with rfl|hr0)
   |(gi_at_call 76;refine(lN _ _ _ _ q1).mono ?_;rintro e w3 ⟨rfl,hw⟩;obtain rfl:w2=w3:=hw.symm))
  ·go_ret;exact⟨kQ.bad 1 rfl (by decide),hb1⟩
  ·go_ret;exact⟨kQ.bad r rfl hr0,hb1⟩
end
