/- The specification's check of a table, and whether a table can be asked about: on any table, inside the fence. PRINTED BY A PROGRAM (ge.py). -/
import Derived.Test.YtccjdkghgbbliaaGreatDoorA45
set_option linter.all false
namespace Go.Proofs.YtccjdkghgbbliaaGreatDoor
section
set_option maxHeartbeats 1000000
set_option maxRecDepth 10000
set_option maxHeartbeats 64000000
set_option maxRecDepth 100000
open Go Go.RowKit Lift
structure aZ.Ok (t:aZ):Prop where
 n1:1≤t.gW.length
 n3:t.gW.length≤3
 ed:∀e,e<t.gW.length→(t.dI e).Ok
 nm:t.mvs.length≤16
 mv:∀i,i<t.mvs.length→t.Kv (t.jv i)∧∀j,j<i→t.jv j≠t.jv i
 nk:t.jG.length≤10
 kn:∀i,i<t.jG.length→t.QG (t.fO i)∧∀j,j<i→(t.fO j).key≠(t.fO i).key
section
variable {N:Nat} {t:aZ} {w:World}
theorem bI.edT(h:bI N t w){e:Nat}(he:e<t.gW.length):zL N (t.dI e) w:=by
 have hat:t.dI e=t.gW[e]:=by unfold aZ.dI;rw[List.getD_eq_getElem?_getD,List.getElem?_eq_getElem he];rfl
 rw[hat];exact h.ed _ (List.getElem_mem he)
theorem zJ(h:bI N t w)(hF:t.Fin) :
  CallsIn Fz 0 Tryz.prog 52 #[.agg t.arr] w λr w'=>kW r t.Ok∧Below w.heap.size w w':=by
 have hN:=h.hN;have he:=hF.e;have hm:=hF.m;have hki:=hF.k;have hb1:Below w.heap.size w (w.alloc (.cells t.arr 68)):=(Below.refl _ w).alloc (ak _) _;have hX:=Blk.new w t.arr 68;by_cases q1:1≤(t.gW.length:Int)∧(t.gW.length:Int)≤3
 ·gi_enter Tryz.func52,Tryz.ntmps52
  gi_wp2_with (gi_at_call 76;refine(gX _ _ _ _ q1).mono ?_;rintro e w3 ⟨rfl,rfl⟩)
  gi_loopw [3,4] (λi g wr=>∃k:Nat,k≤t.gW.length∧i=.int .i64 k∧Below w.heap.size w wr∧Blk wr w.heap.size 68 t.arr∧∀j,j<k→(t.dI j).Ok) (λi _ _=>t.gW.length-(intOf i).toNat)
  case atStart=>exact⟨0,Nat.zero_le _,rfl,hb1,hX,λj q=>by omega⟩
  case round=>
   clear hb1 hX;obtain⟨k,hk,rfl,hb,hX,A⟩:=hrel;have A1:=Lib.hid A;clear A;have x0:=hX.cell 0;have x1:=hX.cell 1;have x2:=hX.cell 2;simp at x0 x1 x2;have Jf:=hX.lt;by_cases hl:k<t.gW.length
   ·have hT:=h.below (hb.mono hN);have hll:(k:Int)<t.gW.length:=by omega
    obtain⟨b,o,e1,e2,e3⟩:=hT.edn hl;have c0:=e3 k hl;have yX:b<wr.heap.size:=aA e2 (Nat.le_trans hN hb.size);have hc:=edF_in (hT.edT hl) (Nat.le_trans hN hb.size) (hF.at hl);rw[e1]at x0;clear e1 e3;obtain⟨p,hp⟩:∃p,t.dI k=p:=⟨_,rfl⟩
    rw[hp]at c0 hc;have HP:=Lib.hid hp;clear hp
    gi_wp2_with (gi_at_call 109;refine hc.mono ?_;rintro e' w2 ⟨⟨r,rfl,hr⟩,hb2⟩;rcases Decidable.em (r=0)with hr0|hr0)
    ·subst hr0;gi_wp2;go_roundw
     case rel=>
      refine⟨k+1,by omega,by go_num,hb.trans (hb2.mono hb.size),hX.below hb2,λj z=>?_⟩;rcases(show j<k∨j=k by omega)with z|rfl
      ·exact A1.out j z
      ·exact by rw[HP.out];exact hr rfl
     case measure=>simp[intOf];omega
    ·gi_wp2;go_ret;exact⟨⟨r,rfl,λq=>absurd q hr0⟩,hb.trans (hb2.mono hb.size)⟩
   ·obtain rfl:k=t.gW.length:=by omega
    by_cases q:(16:Int)<t.mvs.length
    ·gi_wp2;go_ret;exact⟨kW.bad 2 rfl (by decide),hb⟩
    ·gi_wp2;gi_loopw [5,6] (λi g wr=>∃k:Nat,k≤t.mvs.length∧i=.int .i64 k∧Below w.heap.size w wr∧Blk wr w.heap.size 68 t.arr∧∀j,j<k→t.Kv (t.jv j)∧∀i,i<j→t.jv i≠t.jv j) (λi _ _=>t.mvs.length-(intOf i).toNat)
     case atStart=>exact⟨0,Nat.zero_le _,rfl,hb,hX,λj q=>by omega⟩
     case round=>
      clear hb hX x0 x1 x2 Jf;obtain⟨k,hk,rfl,hb,hX,A⟩:=hrel;have A2:=Lib.hid A;clear A;have x0:=hX.cell 0;have x1:=hX.cell 1;have x2:=hX.cell 2;simp at x0 x1 x2;have Jf:=hX.lt;by_cases hl:k<t.mvs.length
      ·have hT:=h.below (hb.mono hN);have hll:(k:Int)<t.mvs.length:=by omega
       have hc:=TA hT hF hl
       gi_wp2_with (gi_at_call 110;refine hc.mono ?_;rintro e' w2 ⟨⟨r,rfl,hr⟩,hb2⟩;rcases Decidable.em (r=0)with hr0|hr0)
       ·subst hr0;gi_wp2;go_roundw
        case rel=>
         refine⟨k+1,by omega,by go_num,hb.trans (hb2.mono hb.size),hX.below hb2,λj z=>?_⟩;rcases(show j<k∨j=k by omega)with z|rfl
         ·exact A2.out j z
         ·exact hr rfl
        case measure=>simp[intOf];omega
       ·gi_wp2;go_ret;exact⟨⟨r,rfl,λq=>absurd q hr0⟩,hb.trans (hb2.mono hb.size)⟩
      ·obtain rfl:k=t.mvs.length:=by omega
       by_cases q:(10:Int)<t.jG.length
       ·gi_wp2;go_ret;exact⟨kW.bad 2 rfl (by decide),hb⟩
       ·gi_wp2;gi_loopw [7,8] (λi g wr=>∃k:Nat,k≤t.jG.length∧i=.int .i64 k∧Below w.heap.size w wr∧Blk wr w.heap.size 68 t.arr∧∀j,j<k→t.QG (t.fO j)∧∀i,i<j→(t.fO i).key≠(t.fO j).key) (λi _ _=>t.jG.length-(intOf i).toNat)
        case atStart=>exact⟨0,Nat.zero_le _,rfl,hb,hX,λj q=>by omega⟩
        case round=>
         clear hb hX x0 x1 x2 Jf;obtain⟨k,hk,rfl,hb,hX,A⟩:=hrel;have A3:=Lib.hid A;clear A;have x0:=hX.cell 0;have x1:=hX.cell 1;have x2:=hX.cell 2;simp at x0 x1 x2;have Jf:=hX.lt;by_cases hl:k<t.jG.length
         ·have hT:=h.below (hb.mono hN);have hll:(k:Int)<t.jG.length:=by omega
          have hc:=kinF_in hT hF hl
          gi_wp2_with (gi_at_call 111;refine hc.mono ?_;rintro e' w2 ⟨⟨r,rfl,hr⟩,hb2⟩;rcases Decidable.em (r=0)with hr0|hr0)
          ·subst hr0;gi_wp2;go_roundw
           case rel=>
            refine⟨k+1,by omega,by go_num,hb.trans (hb2.mono hb.size),hX.below hb2,λj z=>?_⟩;rcases(show j<k∨j=k by omega)with z|rfl
            ·exact A3.out j z
            ·exact hr rfl
           case measure=>simp[intOf];omega
          ·gi_wp2;go_ret;exact⟨⟨r,rfl,λq=>absurd q hr0⟩,hb.trans (hb2.mono hb.size)⟩
         ·obtain rfl:k=t.jG.length:=by omega
          gi_wp2;go_ret;exact⟨⟨0,rfl,λ_=>⟨by omega,by omega,A1.out,by omega,A2.out,by omega,A3.out⟩⟩,hb⟩
 ·gi_enter Tryz.func52,Tryz.ntmps52
  gi_wp2_with (gi_at_call 76;refine(jO _ _ _ _ q1).mono ?_;rintro e w3 ⟨rfl,rfl⟩)
  go_ret;exact⟨kW.bad 2 rfl (by decide),hb1⟩
structure aZ.zS (t:aZ):Prop where
 e:t.gW.length≤20
 m:t.mvs.length≤20
 k:t.jG.length≤20
 i:∀j,j<t.gW.length→(t.dI j).items.length≤20
theorem aZ.zS.fin(h:t.zS):t.Fin:=⟨by have:=h.e;omega,λe he=>by
 obtain⟨j,hj,rfl⟩:=List.mem_iff_getElem.1 he;have hat:t.dI j=t.gW[j]:=by unfold aZ.dI;rw[List.getD_eq_getElem?_getD,List.getElem?_eq_getElem hj];rfl
 have:=h.i j hj;rw[hat]at this;omega,by have:=h.m;omega,by have:=h.k;omega⟩
def RetBt(e:Ending)(b:Bool)(P:Prop):Prop:=∃q:Bool,e=.returned (.bool q)∧(q=b→P)
theorem QC(h:bI N t w) :
  CallsIn Fz 0 Tryz.prog 51 #[.agg t.arr] w λr w'=>RetBt r false t.zS∧Below w.heap.size w w':=by
 have hN:=h.hN;have hb1:Below w.heap.size w (w.alloc (.cells t.arr 68)):=(Below.refl _ w).alloc (ak _) _;have hX:=Blk.new w t.arr 68;by_cases q1:(20:Int)<t.gW.length
 ·gi_enter Tryz.func51,Tryz.ntmps51
  gi_wp2;go_ret;exact⟨⟨true,rfl,λq=>Bool.noConfusion q⟩,hb1⟩
 by_cases q2:(20:Int)<t.mvs.length
 ·gi_enter Tryz.func51,Tryz.ntmps51
  gi_wp2;go_ret;exact⟨⟨true,rfl,λq=>Bool.noConfusion q⟩,hb1⟩
 by_cases q3:(20:Int)<t.jG.length
 ·gi_enter Tryz.func51,Tryz.ntmps51
  gi_wp2;go_ret;exact⟨⟨true,rfl,λq=>Bool.noConfusion q⟩,hb1⟩
 gi_enter Tryz.func51,Tryz.ntmps51
 gi_wp2;gi_loopw [3,4] (λi g wr=>∃k:Nat,k≤t.gW.length∧i=.int .i64 k∧Below w.heap.size w wr∧Blk wr w.heap.size 68 t.arr∧∀j,j<k→(t.dI j).items.length≤20) (λi _ _=>t.gW.length-(intOf i).toNat)
 case atStart=>exact⟨0,Nat.zero_le _,rfl,hb1,hX,λj q=>by omega⟩
 case round=>
  clear hb1 hX;obtain⟨k,hk,rfl,hb,hX,A⟩:=hrel;have A1:=Lib.hid A;clear A;have x0:=hX.cell 0;have x1:=hX.cell 1;have x2:=hX.cell 2;simp at x0 x1 x2;have Jf:=hX.lt;by_cases hl:k<t.gW.length
  ·have hT:=h.below (hb.mono hN);have hll:(k:Int)<t.gW.length:=by omega
   obtain⟨b,o,e1,e2,e3⟩:=hT.edn hl;have c0:=e3 k hl;have yX:b<wr.heap.size:=aA e2 (Nat.le_trans hN hb.size);have hE:=hT.edT hl;rw[e1]at x0;have E1:=Lib.hid e1;clear e1 e3;obtain⟨p,hp⟩:∃p,t.dI k=p:=⟨_,rfl⟩
   rw[hp]at c0 hE;have HP:=Lib.hid hp;clear hp;by_cases q4:(20:Int)<p.items.length
   ·gi_wp2;go_ret;exact⟨⟨true,rfl,λq=>Bool.noConfusion q⟩,hb⟩
   ·gi_wp2;gi_loopw [4] (λi wx=>wx=wr∧∃k:Nat,k≤p.items.length∧i=.int .i64 k) (λi _=>p.items.length-(intOf i).toNat)
    case atStart=>exact⟨rfl,0,Nat.zero_le _,rfl⟩
    case round=>
     obtain⟨rfl,j,hj,rfl⟩:=hrel;by_cases hjl:j<p.items.length
     ·obtain⟨ib,io,i1,i2,i3⟩:=zL.item hE hjl;obtain⟨y0,y1⟩:=i3 j hjl;have ltI:ib<wr.heap.size:=aA i2 (Nat.le_trans hN hb.size);have hjl':(j:Int)<p.items.length:=by omega
      rw[i1]at c0;clear i1 i3;generalize (p.at j).name=nm at y0;by_cases q5:(100:Int)<nm.size
      ·gi_wp2;go_ret;exact⟨⟨true,rfl,λq=>Bool.noConfusion q⟩,hb⟩
      ·gi_wp2;go_roundw
       case rel=>exact⟨by trivial,j+1,by omega,by go_num⟩
       case measure=>simp[intOf];omega
     ·obtain rfl:j=p.items.length:=by omega
      gi_wp2;go_roundw
      case rel=>
       refine⟨k+1,by omega,by go_num,hb,hX,λj z=>?_⟩;rcases(show j<k∨j=k by omega)with z|rfl
       ·exact A1.out j z
       ·rw[HP.out];omega
      case measure=>simp[intOf];omega
  ·obtain rfl:k=t.gW.length:=by omega
   gi_wp2;go_ret;exact⟨⟨false,rfl,λ_=>⟨by omega,by omega,by omega,A1.out⟩⟩,hb⟩
theorem FitT_in(h:bI N t w) :
  CallsIn Fz 0 Tryz.prog 18 #[.agg t.arr] w λr w'=>RetBt r true (t.zS∧t.Ok)∧Below w.heap.size w w':=by
 have hN:=h.hN;have hb1:Below w.heap.size w (w.alloc (.cells t.arr 68)):=(Below.refl _ w).alloc (ak _) _;have hX:=Blk.new w t.arr 68;have hc1:=QC (h.below (hb1.mono hN));gi_enter Tryz.func18,Tryz.ntmps18
 gi_wp2_with (first
  |(gi_at_call 51;refine hc1.mono ?_;rintro e w2 ⟨⟨q,rfl,hq⟩,hb2⟩;have qX:=hX.below hb2;have x0:=qX.cell 0;have x1:=qX.cell 1;have x2:=qX.cell 2;simp at x0 x1 x2;have Jf:=qX.lt;rcases q with _|_)
  |(gi_at_call 52;refine(zJ ((h.below (hb1.mono hN)).below (hb2.mono (Nat.le_trans hN hb1.size))) (hq (by trivial)).fin).mono ?_;rintro e w3 ⟨⟨r,rfl,hr⟩,hb3⟩))
 ·go_ret;refine⟨⟨decide (r=0),by congr,λq=>⟨hq (by trivial),hr (by simpa using q)⟩⟩,(hb1.trans (hb2.mono hb1.size)).trans (hb3.mono (Nat.le_trans hb1.size hb2.size))⟩
 ·go_ret;exact⟨⟨false,rfl,λq=>Bool.noConfusion q⟩,hb1.trans (hb2.mono hb1.size)⟩
end
end
section
set_option maxHeartbeats 1000000
set_option maxRecDepth 10000
set_option maxHeartbeats 64000000
set_option maxRecDepth 100000
open Go Go.RowKit Lift
theorem gbt_in(a b c:Int)(w:World):CallsIn Fz 0 Tryz.prog 117 #[.int .i64 a,.int .i64 b,.int .i64 c] w λe w'=>e=.returned (.bool (decide (b≤a)&&decide (a≤c)))∧w'=w:=by
 gi_enter Tryz.func117,Tryz.ntmps117
 gi_wp2
 ·go_ret;rename_i h;simp[h]
 ·go_ret;rename_i h;have:¬b≤a:=by omega
  simp[this]
theorem Au(a b c:Int)(w:World)(h:b≤a∧a≤c):CallsIn Fz 0 Tryz.prog 117 #[.int .i64 a,.int .i64 b,.int .i64 c] w λe w'=>e=.returned (.bool true)∧w'=w:=
 (gbt_in a b c w).mono λe w' ⟨h1,h2⟩=>⟨by rw[h1];simp[h.1,h.2],h2⟩
theorem Tj(x:UInt8)(hx:jA x=true)(w:World):CallsIn Fz 0 Tryz.prog 268 #[.int .u8 x.toNat] w λe w'=>e=.returned (.bool false)∧w'=w:=by
 have hc:(97≤x.toNat∧x.toNat≤122)∨(48≤x.toNat∧x.toNat≤57):=by
  have:=hx;simp only[jA,Bool.or_eq_true,Bool.and_eq_true,decide_eq_true_eq,UInt8.le_iff_toNat_le]at this;simpa using this
 generalize x.toNat=y at *;clear hx;rcases hc with⟨h1,h2⟩|⟨h1,h2⟩
 ·have q1:¬((y:Int)<97):=by omega
  have q2:¬((122:Int)<y):=by omega
  gi_enter Tryz.func268,Tryz.ntmps268
  gi_wp2;go_ret;exact⟨rfl,rfl⟩
 ·have q1:((y:Int)<97):=by omega
  have q2:¬((y:Int)<48):=by omega
  have q3:¬((57:Int)<y):=by omega
  gi_enter Tryz.func268,Tryz.ntmps268
  gi_wp2;go_ret;exact⟨rfl,rfl⟩
theorem Lu{B n c:Nat}{w:World}{s:List UInt8}(hn:s.length=n)(hb:n<1000000)(hB:B<w.heap.size)(hc:∀j,j<n→w.cell? ⟨B,j,none⟩=some (.int .u8 (s.getD j 0).toNat))(ha:∀x∈s,jA x=true) :
  CallsIn Fz 0 Tryz.prog 262 #[.slice (some ⟨B,0,none⟩) n c,.func (.func 268) #[] #[]] w λe w'=>e=.returned (.int .i64 (-1))∧w'=w:=by
 have HC:=Lib.hid hc;have HA:=Lib.hid ha;clear hc ha;gi_enter Tryz.func262,Tryz.ntmps262
 gi_wp2;gi_loopw [8,5] (λv i wr=>wr=w∧∃k:Nat,k≤n∧v=.int .i64 k) (λv _ _=>n-(intOf v).toNat)
 case atStart=>exact⟨rfl,0,Nat.zero_le _,rfl⟩
 case round=>
  obtain⟨rfl,k,hk,rfl⟩:=hrel;by_cases hl:k<n
  ·have hl':(k:Int)<n:=by omega
   have c0:=HC.out k hl;have hx:=Tj (s.getD k 0) (HA.out _ (by rw[List.getD_eq_getElem?_getD,List.getElem?_eq_getElem (by omega)];exact List.getElem_mem _)) wr;generalize (s.getD k 0)=x at c0 hx
   gi_wp2_with (gi_at_call 268;refine hx.mono ?_;rintro e w2 ⟨rfl,rfl⟩)
   go_roundw
   case rel=>exact⟨by trivial,k+1,by omega,by go_num⟩
   case measure=>simp[intOf];omega
  ·obtain rfl:k=n:=by omega
   gi_wp2;go_ret;exact⟨rfl,rfl⟩
theorem Ja{B n c:Nat}{w:World}{s:List UInt8}(hn:s.length=n)(hb:n<1000000)(hB:B<w.heap.size)(hc:∀j,j<n→w.cell? ⟨B,j,none⟩=some (.int .u8 (s.getD j 0).toNat))(ha:∀x∈s,jA x=true) :
  CallsIn Fz 0 Tryz.prog 233 #[.slice (some ⟨B,0,none⟩) n c,.func (.func 268) #[] #[]] w λe w'=>e=.returned (.bool false)∧w'=w:=by
 have h:=Lu (c:=c) hn hb hB hc ha;clear hc ha;gi_enter Tryz.func233,Tryz.ntmps233
 gi_wp2_with (gi_at_call 262;refine h.mono ?_;rintro e w2 ⟨rfl,rfl⟩)
 go_ret;exact⟨rfl,rfl⟩
theorem Pv{s:ByteArray}(hs:dB s)(w:World):CallsIn Fz 0 Tryz.prog 239 #[.string s] w λe w'=>e=.returned (.bool true)∧Below w.heap.size w w':=by
 have h1:=hs.one;have h2:=hs.ten;have hp:0<s.size:=by omega
 obtain⟨x1,x2⟩:=hs.first _ (Lib.data_getElem? s 0 hp);have q1:¬(((s[0]'hp).toNat:Int)<97):=by omega
 have q2:¬((122:Int)<((s[0]'hp).toNat:Int)):=by omega
 have hcv:=Lib.run_convert_string_bytes (P:=Tryz.prog) w 9 315 5 s Tryz.underlying9 (show Tryz.prog.underlying 315=some (.slice 5) by kernel_rfl) Tryz.underlying5;have hsz:=Lib.bytesWorld_size w 5 s;have hB:Below w.heap.size w (Lib.bytesWorld w 5 s):=⟨rfl,rfl,rfl,by omega,λk hk=>Lib.bytesWorld_at_old w 5 s k hk⟩
 have hL:=λc=>Ja (B:=w.heap.size) (n:=s.size) (c:=c) (w:=Lib.bytesWorld w 5 s) (s:=s.data.toList) (by rw[Lib.size_eq]) (by omega) (by omega) (λj hj=>Lib.bytesWorld_cell w 5 s j hj) (λx hx=>by
  obtain⟨j,hj,e⟩:=List.mem_iff_getElem.1 hx;exact hs.all j x (by rw[List.getElem?_eq_getElem hj,e]))
 have hgt:=Au (s.size:Int) 1 10 w (by omega);clear x1 x2;gi_enter Tryz.func239,Tryz.ntmps239
 gi_wp2_with (first
  |(gi_at_call 117;refine hgt.mono ?_;rintro e w2 ⟨rfl,rfl⟩)
  |(gi_at_call 233;refine(hL _).mono ?_;rintro e w2 ⟨rfl,rfl⟩))
 go_ret;exact⟨rfl,hB⟩
end
section
set_option maxHeartbeats 1000000
set_option maxRecDepth 10000
set_option maxHeartbeats 64000000
set_option maxRecDepth 100000
open Go Go.RowKit Lift
section
variable {N:Nat} {t:aZ} {w:World}
theorem F5{n:Int}(he:t.gW.length<1000000)(h:0≤n∧n≤t.gW.length-1)(w:World):CallsIn Fz 0 Tryz.prog 113 #[.agg t.arr,.int .i64 n] w λe w'=>e=.returned (.bool true)∧Below w.heap.size w w':=by
 have hb1:Below w.heap.size w (w.alloc (.cells t.arr 148)):=(Below.refl _ w).alloc (ak _) _;have hgt:=Au n 0 (t.gW.length-1) (w.alloc (.cells t.arr 148)) h;gi_enter Tryz.func113,Tryz.ntmps113
 gi_wp2_with (gi_at_call 117;refine hgt.mono ?_;rintro e w2 ⟨rfl,rfl⟩)
 go_ret;exact⟨rfl,hb1⟩
theorem IY(h:bI N t w)(he:t.gW.length<1000000){e:Nat}(hl:e<t.gW.length):CallsIn Fz 0 Tryz.prog 60 #[.agg t.arr,.int .i64 e] w λr w'=>r=.returned (.slice (t.dI e).ia (t.dI e).items.length (t.dI e).ic)∧Below w.heap.size w w':=by
 have hN:=h.hN;have hb1:Below w.heap.size w (w.alloc (.cells t.arr 148)):=(Below.refl _ w).alloc (ak _) _;have hgt:=Au e 0 (t.gW.length-1) (w.alloc (.cells t.arr 148)) (by omega);have hl':(e:Int)<t.gW.length:=by omega
 obtain⟨b,o,e1,e2,e3⟩:=h.edn hl;have c0:=e3 e hl;have yX:b<w.heap.size:=aA e2 hN;clear e3;obtain⟨p,hp⟩:∃p,t.dI e=p:=⟨_,rfl⟩
 rw[hp]at c0 ⊢;clear hp;gi_enter Tryz.func60,Tryz.ntmps60
 gi_wp2_with (gi_at_call 117;refine hgt.mono ?_;rintro e w2 ⟨rfl,rfl⟩)
 go_ret;exact⟨rfl,hb1⟩
theorem qJ(h:bI N t w)(hF:t.Fin){e:Nat}(hl:e<t.gW.length){n:Int}(hn:0≤n∧n≤((t.dI e).items.length:Int)-1):CallsIn Fz 0 Tryz.prog 114 #[.agg t.arr,.int .i64 e,.int .i64 n] w λr w'=>r=.returned (.bool true)∧Below w.heap.size w w':=by
 have hN:=h.hN;have hi:=hF.at hl;have hb1:Below w.heap.size w (w.alloc (.cells t.arr 148)):=(Below.refl _ w).alloc (ak _) _;have hit:=IY (h.below (hb1.mono hN)) hF.e hl;have hgt:=λw=>Au n 0 ((t.dI e).items.length-1) w hn;obtain⟨p,hp⟩:∃p,t.dI e=p:=⟨_,rfl⟩
 rw[hp]at hit hgt hi;clear hp;gi_enter Tryz.func114,Tryz.ntmps114
 gi_wp2_with (first
  |(gi_at_call 60;refine hit.mono ?_;rintro e w2 ⟨rfl,hb2⟩)
  |(gi_at_call 117;refine(hgt _).mono ?_;rintro e w2 ⟨rfl,rfl⟩))
 go_ret;exact⟨rfl,hb1.trans (hb2.mono hb1.size)⟩
structure Lst (n:Nat) (xs:List Int):Prop where
 lo:∀j,j<xs.length→0≤xs.getD j 0∧xs.getD j 0≤(n:Int)-1
 up:∀j,0<j→j<xs.length→xs.getD (j-1) 0<xs.getD j 0
theorem NW(h:bI N t w)(hF:t.Fin){e:Nat}(hl:e<t.gW.length){v:Value}{xs:List Int}(hs:cZ w v xs)(hn:xs.length<1000000)(hL:Lst (t.dI e).items.length xs) :
  CallsIn Fz 0 Tryz.prog 54 #[.agg t.arr,.int .i64 e,v] w λr w'=>r=.returned (.int .i64 0)∧Below w.heap.size w w':=by
 have hN:=h.hN;have hb1:Below w.heap.size w (w.alloc (.cells t.arr 148)):=(Below.refl _ w).alloc (ak _) _;have hX:=Blk.new w t.arr 148;have hit:=λ{w':World} (hT:bI N t w') {n:Int} hn=>qJ (n:=n) hT hF hl hn;obtain⟨base,off,cap,rfl,hs2⟩:=hs;have HS:=Lib.hid hs2;have HL:=Lib.hid hL;clear hs2 hL;gi_enter Tryz.func54,Tryz.ntmps54
 gi_wp2;gi_loopw [11] (λv wr=>∃k:Nat,k≤xs.length∧v=.int .i64 k∧Below w.heap.size w wr∧Blk wr w.heap.size 148 t.arr) (λv _=>xs.length-(intOf v).toNat)
 case atStart=>exact⟨0,Nat.zero_le _,rfl,hb1,hX⟩
 case round=>
  clear hb1 hX;obtain⟨k,hk,rfl,hb,hX⟩:=hrel;by_cases hlt:k<xs.length
  ·have hlt':(k:Int)<xs.length:=by omega
   obtain⟨B,rfl,b1,b2⟩:=HS.out k hlt;have c0:=(hb.cell (p:=⟨B,off+k,none⟩) b1).trans b2;have jL:B<wr.heap.size:=aA b1 hb.size;have hT:=h.below (hb.mono hN);have hx:=hit hT (HL.out.lo k hlt);have x0:=hX.cell 0;have x1:=hX.cell 1;have x2:=hX.cell 2;simp at x0 x1 x2;have Jf:=hX.lt;have hup:0<k→∃y:Int,wr.cell? ⟨B,off+(k-1),none⟩=some (.int .i64 y)∧y<xs.getD k 0:=λhz=>by
    obtain⟨B',e,_,b4⟩:=HS.out (k - 1) (by omega);cases e;exact⟨_,(hb.cell (p:=⟨B,off+(k-1),none⟩) b1).trans b4,HL.out.up k hz hlt⟩
   obtain⟨x,hx1⟩:∃x,xs.getD k 0=x:=⟨_,rfl⟩
   rw[hx1]at c0 hx hup;clear hx1 b2;rcases Nat.eq_zero_or_pos k with rfl|hz
   ·rw[show((0:Nat):Int)=0 from rfl];simp only[Nat.add_zero]at c0
    gi_wp2_with (gi_at_call 114;refine hx.mono ?_;rintro e w2 ⟨rfl,hb2⟩)
    go_roundw
    case rel=>exact⟨1,by omega,by go_num,hb.trans (hb2.mono hb.size),hX.below hb2⟩
    case measure=>simp[intOf];omega
   ·obtain⟨y,d0,hlt3⟩:=hup hz;have hz':(0:Int)<k:=by omega
    have hle:¬(x≤y):=by omega
    have hs1:wrap64 ((k:Int)-1)=((k-1:Nat):Int):=by unfold wrap64;omega
    have hs2:((k-1:Nat):Int)<xs.length:=by omega
    gi_wp2_with (gi_at_call 114;refine hx.mono ?_;rintro e w2 ⟨rfl,hb2⟩;replace d0:=(hb2.cell (p:=⟨B,off+(k - 1),none⟩) jL).trans d0;have ltB2:=aA jL hb2.size)
    go_roundw
    case rel=>exact⟨k+1,by omega,by go_num,hb.trans (hb2.mono hb.size),hX.below hb2⟩
    case measure=>simp[intOf];omega
  ·obtain rfl:k=xs.length:=by omega
   gi_wp2;go_ret;exact⟨rfl,hb⟩
end
theorem NY{α β:Type}{f:α→Option β}:∀{l:List α},(∀x∈l,∃y,f x=some y)→∃ys,l.mapM f=some ys
 | [],_=>⟨[],rfl⟩
 |a::l,h=>by
  obtain⟨y,hy⟩:=h a (by simp);obtain⟨ys,hys⟩:=NY (l:=l) λx hx=>h x (by simp[hx]);exact⟨y::ys,by simp[List.mapM_cons,hy,hys]⟩
theorem uV{k:TypeId}{cs:Array Value}{L:List (TypeId×Nat)}(hu:Tryz.prog.underlying k=some (.struct (Tryz.prog.fieldsOf k)))(hkt:Tryz.prog.keyType k=true)(hc:cs.size=Tryz.prog.cellsOf k)
  (hnb:(Tryz.prog.fieldsOf k).all (·.name != "_")=true) (hL:(Tryz.prog.fieldsOf k).toList.map (λf=>(f.type,f.offset))=L)
  (h:∀p∈L,∃l,Tryz.prog.keyLits Tryz.prog.types.size p.1 ((cs.toList.drop p.2).take (Tryz.prog.cellsOf p.1))=some l):∃l,keyOf Tryz.prog k (.agg cs)=some l:=by
 have hf:(Value.agg cs).formed Tryz.prog k=true:=by simp[Value.formed,hu,hc]
 have hl:∃ls,Tryz.prog.keyLits (Tryz.prog.types.size+1) k cs.toList=some ls:=by
  unfold Program.keyLits;rw[hu];simp only;rw[if_pos ⟨by simpa using hc,hnb⟩];obtain⟨ys,hys⟩:=NY (l:=(Tryz.prog.fieldsOf k).toList) (f:=λf=>Tryz.prog.keyLits Tryz.prog.types.size f.type ((cs.toList.drop f.offset).take (Tryz.prog.cellsOf f.type))) λf hf=>by
   have:=h (f.type,f.offset) (by rw[← hL];exact List.mem_map.2 ⟨f,hf,rfl⟩);exact this
  exact⟨ys.flatten,by rw[hys];rfl⟩
 obtain⟨ls,hls⟩:=hl;unfold keyOf;rw[hu];simp only;rw[if_pos (by rw[hkt,hf];rfl)];exact⟨_,by simp only[Value.cells];rw[hls];rfl⟩
theorem Uu:∃d,Tryz.prog.types.size=d+1:=by
 have h:decide (0<Tryz.prog.types.size)=true:=by kernel_rfl
 have:=of_decide_eq_true h;exact⟨Tryz.prog.types.size-1,by omega⟩
theorem Gh{n:Int}(h:(Lit.int .i64 n).wf=true):∃l,Tryz.prog.keyLits Tryz.prog.types.size 3 [.int .i64 n]=some l:=by
 obtain⟨d,hd⟩:=Uu;rw[hd];exact⟨_,by simp only[Program.keyLits,Tryz.underlying3,h];rfl⟩
theorem lit_str{s:ByteArray}(h:s.size≤maxLen):∃l,Tryz.prog.keyLits Tryz.prog.types.size 9 [.string s]=some l:=by
 obtain⟨d,hd⟩:=Uu;rw[hd];exact⟨_,by simp only[Program.keyLits,Tryz.underlying9];rw[if_pos h]⟩
theorem Nj{n:Int}(h:0≤n)(h2:n<1000000000):(Lit.int .i64 n).wf=true:=by
 have:wrap64 n=n:=by unfold wrap64;omega
 rw[← this];exact wrap64_wf _
theorem AY:Maps.Keyed Tryz.prog 361:=Maps.Keyed.of_law (deep_law (m:=2) (by decide) (by kernel_rfl) (by kernel_rfl) (by kernel_rfl))
theorem AV:Maps.Keyed Tryz.prog 293:=Maps.Keyed.of_law (deep_law (m:=2) (by decide) (by kernel_rfl) (by kernel_rfl) (by kernel_rfl))
theorem AX:Maps.Keyed Tryz.prog 295:=Maps.Keyed.of_law (deep_law (m:=2) (by decide) (by kernel_rfl) (by kernel_rfl) (by kernel_rfl))
theorem cel9':Tryz.prog.cellsOf 9=1:=by kernel_rfl
theorem und361:Tryz.prog.underlying 361=some (.struct (Tryz.prog.fieldsOf 361)):=by kernel_rfl
theorem key361{e:Int}(h0:0≤e)(h1:e<1000){s:ByteArray}(hs:s.size≤10):∃l,keyOf Tryz.prog 361 (.agg #[.int .i64 e,.string s])=some l:=
 uV und361 (by kernel_rfl) (by kernel_rfl) (by kernel_rfl) (L:=[(3,0),(9,1)]) (by kernel_rfl) λp hp=>by
  simp only[List.mem_cons,List.not_mem_nil,or_false]at hp;rcases hp with rfl|rfl
  ·simp only[zZ];exact Gh (Nj h0 (by omega))
  ·simp only[cel9'];exact lit_str (by unfold maxLen;omega)
theorem key293{a b c:Int}(h0:0≤a∧0≤b∧0≤c)(h1:a<1000∧b<1000∧c<1000):∃l,keyOf Tryz.prog 293 (.agg #[.int .i64 a,.int .i64 b,.int .i64 c])=some l:=
 uV Ux (by kernel_rfl) (by kernel_rfl) (by kernel_rfl) (L:=[(3,0),(3,1),(3,2)]) (by kernel_rfl) λp hp=>by
  simp only[List.mem_cons,List.not_mem_nil,or_false]at hp;rcases hp with rfl|rfl|rfl<;>(simp only[zZ];exact Gh (Nj (by omega) (by omega)))
theorem key295{a b c:Int}(h0:0≤a∧0≤b∧0≤c)(h1:a<1000∧b<1000∧c<1000):∃l,keyOf Tryz.prog 295 (.agg #[.int .i64 a,.int .i64 b,.int .i64 c,.int .i64 0])=some l:=
 uV Uy (by kernel_rfl) (by kernel_rfl) (by kernel_rfl) (L:=[(3,0),(3,1),(3,2),(3,3)]) (by kernel_rfl) λp hp=>by
  simp only[List.mem_cons,List.not_mem_nil,or_false]at hp;rcases hp with rfl|rfl|rfl|rfl<;>(simp only[zZ];exact Gh (Nj (by omega) (by omega)))
end
section
set_option maxHeartbeats 1000000
set_option maxRecDepth 10000
set_option maxHeartbeats 64000000
set_option maxRecDepth 100000
open Go Go.RowKit Lift
theorem Uz:Tryz.prog.underlying 359=some (.map 361 4):=by kernel_rfl
theorem aZ.Ok.fin{t:aZ}(h:t.Ok):t.Fin:=⟨by have:=h.n3;omega,λe he=>by
 obtain⟨j,hj,rfl⟩:=List.mem_iff_getElem.1 he;have hat:t.dI j=t.gW[j]:=by unfold aZ.dI;rw[List.getD_eq_getElem?_getD,List.getElem?_eq_getElem hj];rfl
 have:=(h.ed j hj).n;rw[hat]at this;omega,by have:=h.nm;omega,by have:=h.nk;omega⟩
def REd.keys(p:REd)(e:Nat)(j:Nat):List Value:=(List.range j).map λi=>.agg #[.int .i64 e,.string (p.at i).name]
def aZ.tX(t:aZ)(k:Nat):List Value:=(List.range k).flatMap λe=>(t.dI e).keys e (t.dI e).items.length
theorem keys_succ(p:REd)(e j:Nat):p.keys e (j+1)=p.keys e j++[.agg #[.int .i64 e,.string (p.at j).name]]:=by simp[REd.keys,List.range_succ]
theorem AB(t:aZ)(k:Nat):t.tX (k+1)=t.tX k++(t.dI k).keys k (t.dI k).items.length:=by simp[aZ.tX,List.range_succ]
theorem Ei{t:aZ}(h:t.Ok):∀k,k≤t.gW.length→(t.tX k).length≤8 * k
 |0,_=>by simp[aZ.tX]
 |k+1,hk=>by
  have:=Ei h k (by omega);have:=(h.ed k (by omega)).n;rw[AB,List.length_append];simp only[REd.keys,List.length_map,List.length_range];omega
theorem IW{t:aZ}(h:t.Ok){k j:Nat}(hk:k<t.gW.length)(hj:j<(t.dI k).items.length):(.agg #[.int .i64 k,.string ((t.dI k).at j).name]:Value)∉t.tX k++(t.dI k).keys k j:=λhm=>by
 rcases List.mem_append.1 hm with hm|hm
 ·obtain⟨e,he,hm⟩:=List.mem_flatMap.1 hm;obtain⟨i,_,e2⟩:=List.mem_map.1 hm;have:e<k:=List.mem_range.1 he;simp only[Value.agg.injEq,Array.mk.injEq,List.cons.injEq,Value.int.injEq,true_and]at e2;have:=e2.1;omega
 ·obtain⟨i,hi,e2⟩:=List.mem_map.1 hm;have hi':i<j:=List.mem_range.1 hi;simp only[Value.agg.injEq,Array.mk.injEq,List.cons.injEq,Value.int.injEq,true_and,Value.string.injEq,and_true]at e2;exact(h.ed k hk).ne j i hj hi' e2
section
variable {N:Nat} {t:aZ} {w:World}
theorem CY(h:bI N t w)(hO:t.Ok):CallsIn Fz 0 Tryz.prog 176 #[.agg t.arr] w λr w'=>r=.returned (.int .i64 0)∧Below w.heap.size w w':=by
 have hN:=h.hN;have h1:=hO.n1;have h3:=hO.n3;have Qz:=Lib.hid hO;clear hO;have hX1:=λo=>(Blk.new w t.arr 148).below ((Below.refl _ (w.alloc (.cells t.arr 148))).alloc (ak _) o);have hb1:Below w.heap.size w ((w.alloc (.cells t.arr 148)).alloc (.map #[] 0)):=((Below.refl _ w).alloc (ak _) _).alloc (by simp) _;have hS1:=iU.made 361 (w.alloc (.cells t.arr 148));have hgt:=Au t.gW.length 1 3 (w.alloc (.cells t.arr 148)) (by omega);have hmm:=@run_makeMap Tryz.prog;gi_enter Tryz.func176,Tryz.ntmps176
 gi_wp2_with (gi_at_call 117;refine hgt.mono ?_;rintro e w2 ⟨rfl,rfl⟩)
 gi_loopw [20] (λv wr=>∃k:Nat,k≤t.gW.length∧v=.int .i64 k∧Below w.heap.size w wr∧Blk wr w.heap.size 148 t.arr∧iU 361 wr (w.heap.size+1) (t.tX k)) (λv _=>t.gW.length-(intOf v).toNat)
 case atStart=>exact⟨0,Nat.zero_le _,rfl,hb1,hX1 _,by simpa[aZ.tX]using hS1⟩
 case round=>
  clear hb1 hX1 hS1 hgt;obtain⟨k,hk,rfl,hb,hX,hS⟩:=hrel;by_cases hl:k<t.gW.length
  ·have hl':(k:Int)<t.gW.length:=by omega
   obtain⟨b,o,e1,e2,e3⟩:=(h.below (hb.mono hN)).edn hl;have c0:=e3 k hl;have yX:b<wr.heap.size:=aA e2 (Nat.le_trans hN hb.size);have hlen:=Ei Qz.out k hk;have hfresh:=λj hj=>IW Qz.out hl (j:=j) hj;have hEd:=Qz.out.ed k hl;have hsucc:=AB t k;have hEE:=λ{w'} (hb':Below w.heap.size w w')=>(h.below (hb'.mono hN)).edT hl;rw[e1];clear e1 e3;obtain⟨p,hp⟩:∃p,t.dI k=p:=⟨_,rfl⟩
   rw[hp]at c0 hfresh hEd hsucc hEE;clear hp;have hn8:=hEd.n;have HEd:=Lib.hid hEd;have HFR:=Lib.hid hfresh;have HSU:=Lib.hid hsucc;clear hEd hfresh hsucc;have hb2:=λo=>(Below.refl _ wr).alloc (ak _) o;have q8:¬((8:Int)<p.items.length):=by omega
   gi_wp2;gi_loopw [32] (λv wx=>∃j:Nat,j≤p.items.length∧v=.int .i64 j∧Below w.heap.size w wx∧Blk wx w.heap.size 148 t.arr∧iU 361 wx (w.heap.size+1) (t.tX k++p.keys k j)) (λv _=>p.items.length-(intOf v).toNat)
   case atStart=>exact⟨0,Nat.zero_le _,rfl,hb.trans ((hb2 _).mono hb.size),hX.below (hb2 _),by simpa[REd.keys]using hS.same (hb2 _)⟩
   case round=>
    clear hb2 hX hS hb c0 yX;obtain⟨j,hj,rfl,hb,hX,hS⟩:=hrel;by_cases hjl:j<p.items.length
    ·have hjl':(j:Int)<p.items.length:=by omega
     obtain⟨ib,io,i1,i2,i3⟩:=zL.item (hEE hb) hjl;obtain⟨y0,y1⟩:=i3 j hjl;have ltI:ib<wr.heap.size:=aA i2 (Nat.le_trans hN hb.size);have hit:=HEd.out.it j hjl;have hfr:=HFR.out j hjl;have hks:=keys_succ p k j;rw[i1];clear i1 i3;obtain⟨⟨nm,cl⟩,hq⟩:∃q,p.at j=q:=⟨_,rfl⟩
     rw[hq]at y0 y1 hit hfr hks;clear hq;simp only at y0 y1 hit hfr hks;have hten:=hit.1.ten;obtain⟨kl,hkey⟩:=key361 (e:=(k:Int)) (by omega) (by omega) (s:=nm) hten;have HK:=Lib.hid hks;clear hks;have hvl:(t.tX k++p.keys k j).length≤1000:=by rw[List.length_append];simp only[REd.keys,List.length_map,List.length_range];omega
     have hBB:=((Below.refl _ wr).alloc (ak _) (.cells #[.string nm,.int .i64 cl] 159)).alloc (by simp) (.cells #[.int .i64 k,.string nm] 361);have hB7:=(Blk.new wr #[.string nm,.int .i64 cl] 159).below ((Below.refl _ _).alloc (ak _) (.cells #[.int .i64 k,.string nm] 361));have hB8:=Blk.new (wr.alloc (.cells #[.string nm,.int .i64 cl] 159)) #[.int .i64 k,.string nm] 361;simp only[World.size_alloc]at hB8;have hNm:=λw=>Pv hit.1 w;have hgc:=λw=>Au cl 1 45 w hit.2;clear hit
     gi_wp2_with (first
      |(gi_at_call 239;refine(hNm _).mono ?_;rintro e w2 ⟨rfl,hb2⟩;have hB:=hBB.trans (hb2.mono hBB.size);obtain⟨D,n,d1,hown,d3⟩:=hS.same hB;have hno:=d3 _ _ hkey hfr;have q7:=hB7.below hb2;have z0:=q7.cell 0;have z1:=q7.cell 1;have q9:=hB8.below hb2;have z2:=q9.cell 0;have z3:=q9.cell 1;simp at z0 z1 z2 z3;have l7:=q7.lt;have l8:=q9.lt)
      |(gi_at_lookup;refine gZ _ rfl _ _ 359 rfl 361 4 AY Uz Tryz.underlying4 (Tryz.zeroValue4 _) _ _ _ rfl hown _ _ rfl hkey hno ?_)
      |(gi_at_call 117;refine(hgc _).mono ?_;rintro e w3 ⟨rfl,rfl⟩)
      |(gi_at_mapUpdate;refine wpListIn_mapUpdate_own _ rfl _ _ _ 359 rfl 361 4 AY Uz (plainElem Tryz.prog 4) _ _ _ rfl hown (by unfold maxLen;omega) _ _ _ rfl rfl hkey _ [] (plainElem_bool Tryz.underlying4 true) ?_;intro w3 hown3 hgrow3))
     have hlt:=hS.lt;have hsz:=hb.size;have hXl:=hX.lt;have hsz2:=hB.size;go_roundw
     case rel=>
      refine⟨j+1,by omega,by go_num,(hb.trans (hB.mono hsz)).grown hgrow3 (by omega) (λr e=>by cases e;omega),(hX.below hB).gb hgrow3 (by omega),?_⟩;rw[HK.out,← List.append_assoc];exact iU.put AY d1 d3 hkey hown3
     case measure=>simp[intOf];omega
    ·obtain rfl:j=p.items.length:=by omega
     gi_wp2;go_roundw
     case rel=>exact⟨k+1,by omega,by go_num,hb,hX,by rw[HSU.out];exact hS⟩
     case measure=>simp[intOf];omega
  ·obtain rfl:k=t.gW.length:=by omega
   gi_wp2;go_ret;exact⟨rfl,hb⟩
end
end
section
set_option maxHeartbeats 1000000
set_option maxRecDepth 10000
set_option maxHeartbeats 64000000
set_option maxRecDepth 100000
open Go Go.RowKit Lift
theorem UA:Tryz.prog.underlying 362=some (.map 293 4):=by kernel_rfl
theorem UC:Tryz.prog.underlying 363=some (.map 295 4):=by kernel_rfl
def aZ.yC(t:aZ)(k:Nat):List Value:=(List.range k).map λi=>.agg #[.int .i64 (t.jv i).ed,.int .i64 (t.jv i).Dk,.int .i64 (t.jv i).to]
def aZ.yx(t:aZ)(k:Nat):List Value:=(List.range k).map λi=>.agg #[.int .i64 (t.fO i).ed,.int .i64 (t.fO i).one,.int .i64 (t.fO i).two,.int .i64 0]
theorem LG(t:aZ)(k:Nat):t.yC (k+1)=t.yC k++[.agg #[.int .i64 (t.jv k).ed,.int .i64 (t.jv k).Dk,.int .i64 (t.jv k).to]]:=by simp[aZ.yC,List.range_succ]
theorem Lr(t:aZ)(k:Nat):t.yx (k+1)=t.yx k++[.agg #[.int .i64 (t.fO k).ed,.int .i64 (t.fO k).one,.int .i64 (t.fO k).two,.int .i64 0]]:=by simp[aZ.yx,List.range_succ]
theorem Jg{t:aZ}(h:t.Ok){k:Nat}(hk:k<t.mvs.length):(.agg #[.int .i64 (t.jv k).ed,.int .i64 (t.jv k).Dk,.int .i64 (t.jv k).to]:Value)∉t.yC k:=λhm=>by
 obtain⟨i,hi,e2⟩:=List.mem_map.1 hm;have hi':i<k:=List.mem_range.1 hi;simp only[Value.agg.injEq,Array.mk.injEq,List.cons.injEq,Value.int.injEq,true_and,and_true]at e2;refine(h.mv k hk).2 i hi' ?_;generalize t.jv i=a at *;generalize t.jv k=b at *;obtain⟨a1,a2,a3⟩:=a;obtain⟨b1,b2,b3⟩:=b;simp only at e2;rw[e2.1,e2.2.1,e2.2.2]
theorem I7{t:aZ}(h:t.Ok){k:Nat}(hk:k<t.jG.length):(.agg #[.int .i64 (t.fO k).ed,.int .i64 (t.fO k).one,.int .i64 (t.fO k).two,.int .i64 0]:Value)∉t.yx k:=λhm=>by
 obtain⟨i,hi,e2⟩:=List.mem_map.1 hm;have hi':i<k:=List.mem_range.1 hi;simp only[Value.agg.injEq,Array.mk.injEq,List.cons.injEq,Value.int.injEq,true_and,and_true]at e2;exact(h.kn k hk).2 i hi' (by unfold vJ.key;rw[e2.1,e2.2.1,e2.2.2])
section
variable {N:Nat} {t:aZ} {w:World}
theorem Gi{e:Int}(hO:t.Ok)(h0:0≤e)(h1:e<t.gW.length):t.many e≤8:=by
 obtain⟨e',rfl⟩:∃e':Nat,e=e':=⟨e.toNat,by omega⟩
 have:=(hO.ed e' (by omega)).n;simp only[aZ.many,Int.toNat_natCast];omega
theorem CZ(h:bI N t w)(hO:t.Ok):CallsIn Fz 0 Tryz.prog 177 #[.agg t.arr] w λr w'=>r=.returned (.int .i64 0)∧Below w.heap.size w w':=by
 have hN:=h.hN;have h3:=hO.n3;have hm:=hO.nm;have hF:=hO.fin;have Qz:=Lib.hid hO;clear hO;have hX1:=λo=>(Blk.new w t.arr 148).below ((Below.refl _ (w.alloc (.cells t.arr 148))).alloc (ak _) o);have hb1:Below w.heap.size w ((w.alloc (.cells t.arr 148)).alloc (.map #[] 0)):=((Below.refl _ w).alloc (ak _) _).alloc (by simp) _;have hS1:=iU.made 293 (w.alloc (.cells t.arr 148));have hmm:=@run_makeMap Tryz.prog;have q16:¬((16:Int)<t.mvs.length):=by omega
 gi_enter Tryz.func177,Tryz.ntmps177
 gi_wp2;gi_loopw [16] (λv wr=>∃k:Nat,k≤t.mvs.length∧v=.int .i64 k∧Below w.heap.size w wr∧Blk wr w.heap.size 148 t.arr∧iU 293 wr (w.heap.size+1) (t.yC k)) (λv _=>t.mvs.length-(intOf v).toNat)
 case atStart=>exact⟨0,Nat.zero_le _,rfl,hb1,hX1 _,by simpa[aZ.yC]using hS1⟩
 case round=>
  clear hb1 hX1 hS1 hmm;obtain⟨k,hk,rfl,hb,hX,hS⟩:=hrel;by_cases hl:k<t.mvs.length
  ·have hl':(k:Int)<t.mvs.length:=by omega
   have hT:=h.below (hb.mono hN);obtain⟨b,o,e1,e2,e3⟩:=hT.mv hl;obtain⟨c0,c1,c2⟩:=e3 k hl;have yX:b<wr.heap.size:=aA e2 (Nat.le_trans hN hb.size);have hfr:=Jg Qz.out hl;have hsu:=LG t k;obtain⟨⟨p1,p2,p3⟩,-⟩:=Qz.out.mv k hl;rw[e1];clear e1 e3;obtain⟨⟨ed,Dk,to⟩,hp⟩:∃p,t.jv k=p:=⟨_,rfl⟩
   rw[hp]at c0 c1 c2 hfr hsu p1 p2 p3;clear hp;simp only at c0 c1 c2 hfr hsu p1 p2 p3;have m1:=Gi Qz.out (e:=ed) (by omega) (by omega);have m2:=Gi Qz.out (e:=ed+1) (by omega) (by omega);obtain⟨kl,hkey⟩:=key293 (a:=ed) (b:=Dk) (c:=to) (by omega) (by omega);obtain⟨e',rfl⟩:∃e:Nat,ed=e:=⟨ed.toNat,by omega⟩
   have hel:e'<t.gW.length:=by omega
   have O5:e'+1<t.gW.length:=by omega
   have it0:=λ{w'} (hT:bI N t w')=>qJ (n:=Dk) hT hF hel (by simpa[aZ.many]using p2);have it1:∀{w'} (hT:bI N t w'),CallsIn Fz 0 Tryz.prog 114 #[.agg t.arr,.int .i64 ((e':Int)+1),.int .i64 to] w' λr w2=>r=.returned (.bool true)∧Below w'.heap.size w' w2:=λhT=>qJ (e:=e'+1) (n:=to) hT hF O5 p3;have ie0:=λw=>F5 (t:=t) (n:=(e':Int)) hF.e (by omega) w;have ie1:=λw=>F5 (t:=t) (n:=(e':Int)+1) hF.e (by omega) w;have hvl:(t.yC k).length≤1000:=by simp[aZ.yC];omega
   have HK:=Lib.hid hsu;have hed:(e':Int)≤3:=by omega
   clear hsu p1 p2 p3 m1 m2 hel O5;have HB:=(Below.refl _ wr).alloc (ak _) (.cells #[.int .i64 e',.int .i64 Dk,.int .i64 to] 293);have hM:=Blk.new wr #[.int .i64 e',.int .i64 Dk,.int .i64 to] 293;have hX2:=hX.below HB;have x0:=hX2.cell 0;have x1:=hX2.cell 1;have x2:=hX2.cell 2;have lX:=hX2.lt;simp at x0 x1 x2;clear hX2
   gi_wp2_with (first
    |(gi_at_call 113;(first|(with_reducible refine(ie0 _).mono ?_)|(with_reducible refine(ie1 _).mono ?_));rintro e w2 ⟨rfl,hb2⟩;replace hM:=hM.below hb2;replace HB:=HB.trans (hb2.mono HB.size);clear hb2 x0 x1 x2 lX;(try clear m0 m1 m2 lM);have qX:=hX.below HB;have x0:=qX.cell 0;have x1:=qX.cell 1;have x2:=qX.cell 2;have lX:=qX.lt;have m0:=hM.cell 0;have m1:=hM.cell 1;have m2:=hM.cell 2;have lM:=hM.lt;simp at x0 x1 x2 m0 m1 m2;clear qX)
    |(gi_at_call 114;(first|(with_reducible refine(it0 (hT.below (HB.mono (Nat.le_trans hN hb.size)))).mono ?_)|(with_reducible refine(it1 (hT.below (HB.mono (Nat.le_trans hN hb.size)))).mono ?_));rintro e w2 ⟨rfl,hb2⟩;replace hM:=hM.below hb2;replace HB:=HB.trans (hb2.mono HB.size);clear hb2 x0 x1 x2 lX;(try clear m0 m1 m2 lM);have qX:=hX.below HB;have x0:=qX.cell 0;have x1:=qX.cell 1;have x2:=qX.cell 2;have lX:=qX.lt;have m0:=hM.cell 0;have m1:=hM.cell 1;have m2:=hM.cell 2;have lM:=hM.lt;simp at x0 x1 x2 m0 m1 m2;clear qX)
    |(gi_at_lookup;obtain⟨D,n,d1,hown,d3⟩:=hS.same HB;have hno:=d3 _ _ hkey hfr;refine gZ _ rfl _ _ 362 rfl 293 4 AV UA Tryz.underlying4 (Tryz.zeroValue4 _) _ _ _ rfl hown _ _ rfl hkey hno ?_)
    |(gi_at_mapUpdate;refine wpListIn_mapUpdate_own _ rfl _ _ _ 362 rfl 293 4 AV UA (plainElem Tryz.prog 4) _ _ _ rfl hown (by unfold maxLen;omega) _ _ _ rfl rfl hkey _ [] (plainElem_bool Tryz.underlying4 true) ?_;intro w3 hown3 hgrow3))
   have hlt:=hS.lt;have hsz:=hb.size;have hXl:=hX.lt;have hsz2:=HB.size;go_roundw
   case rel=>
    refine⟨k+1,by omega,by go_num,(hb.trans (HB.mono hsz)).grown hgrow3 (by omega) (λr e=>by cases e;omega),(hX.below HB).gb hgrow3 (by omega),?_⟩;rw[HK.out];exact iU.put AV d1 d3 hkey hown3
   case measure=>simp[intOf];omega
  ·obtain rfl:k=t.mvs.length:=by omega
   gi_wp2;go_ret;exact⟨rfl,hb⟩
theorem Ie(h:bI N t w)(hO:t.Ok):CallsIn Fz 0 Tryz.prog 178 #[.agg t.arr] w λr w'=>r=.returned (.int .i64 0)∧Below w.heap.size w w':=by
 have hN:=h.hN;have h3:=hO.n3;have hm:=hO.nk;have hF:=hO.fin;have Qz:=Lib.hid hO;clear hO;have hX1:=λo=>(Blk.new w t.arr 148).below ((Below.refl _ (w.alloc (.cells t.arr 148))).alloc (ak _) o);have hb1:Below w.heap.size w ((w.alloc (.cells t.arr 148)).alloc (.map #[] 0)):=((Below.refl _ w).alloc (ak _) _).alloc (by simp) _;have hS1:=iU.made 295 (w.alloc (.cells t.arr 148));have hmm:=@run_makeMap Tryz.prog;have q16:¬((10:Int)<t.jG.length):=by omega
 gi_enter Tryz.func178,Tryz.ntmps178
 gi_wp2;gi_loopw [17] (λv wr=>∃k:Nat,k≤t.jG.length∧v=.int .i64 k∧Below w.heap.size w wr∧Blk wr w.heap.size 148 t.arr∧iU 295 wr (w.heap.size+1) (t.yx k)) (λv _=>t.jG.length-(intOf v).toNat)
 case atStart=>exact⟨0,Nat.zero_le _,rfl,hb1,hX1 _,by simpa[aZ.yx]using hS1⟩
 case round=>
  clear hb1 hX1 hS1 hmm;obtain⟨k,hk,rfl,hb,hX,hS⟩:=hrel;by_cases hl:k<t.jG.length
  ·have hl':(k:Int)<t.jG.length:=by omega
   have hT:=h.below (hb.mono hN);obtain⟨b,o,e1,e2,e3⟩:=hT.kn hl;obtain⟨c0,c1,c2,c3⟩:=e3 k hl;have yX:b<wr.heap.size:=aA e2 (Nat.le_trans hN hb.size);have hfr:=I7 Qz.out hl;have hsu:=Lr t k;obtain⟨⟨p1,p2,p3,p4,p5⟩,-⟩:=Qz.out.kn k hl;rw[e1];clear e1 e3;obtain⟨⟨ed,one,two,lvl⟩,hp⟩:∃p,t.fO k=p:=⟨_,rfl⟩
   rw[hp]at c0 c1 c2 c3 hfr hsu p1 p2 p3 p4 p5;clear hp;simp only at c0 c1 c2 c3 hfr hsu p1 p2 p3 p4 p5;have m1:=Gi Qz.out (e:=ed) (by omega) (by omega);obtain⟨kl,hkey⟩:=key295 (a:=ed) (b:=one) (c:=two) (by omega) (by omega);obtain⟨e',rfl⟩:∃e:Nat,ed=e:=⟨ed.toNat,by omega⟩
   have hel:e'<t.gW.length:=by omega
   have it0:=λ{w'} (hT:bI N t w')=>qJ (n:=one) hT hF hel (by simpa[aZ.many]using p2);have it1:=λ{w'} (hT:bI N t w')=>qJ (n:=two) hT hF hel (by simpa[aZ.many]using p3);have ie0:=λw=>F5 (t:=t) (n:=(e':Int)) hF.e (by omega) w;have hgl:=λw=>Au lvl 1 5 w p5;have hvl:(t.yx k).length≤1000:=by simp[aZ.yx];omega
   have p4':¬(two≤one):=by omega
   have HK:=Lib.hid hsu;clear hsu p1 p2 p3 p5 m1 hel;have HB:=((Below.refl _ wr).alloc (ak _) (.cells #[.int .i64 e',.int .i64 one,.int .i64 two,.int .i64 lvl] 295)).alloc (by simp) (.cells #[.int .i64 e',.int .i64 one,.int .i64 two,.int .i64 0] 295);have hM:=(Blk.new wr #[.int .i64 e',.int .i64 one,.int .i64 two,.int .i64 lvl] 295).below ((Below.refl _ _).alloc (ak _) (.cells #[.int .i64 e',.int .i64 one,.int .i64 two,.int .i64 0] 295));have hZ:=Blk.new (wr.alloc (.cells #[.int .i64 e',.int .i64 one,.int .i64 two,.int .i64 lvl] 295)) #[.int .i64 e',.int .i64 one,.int .i64 two,.int .i64 0] 295;simp only[World.size_alloc]at hZ;have x0:=hX.cell 0;have x1:=hX.cell 1;have x2:=hX.cell 2;have lX:=hX.lt;simp at x0 x1 x2
   gi_wp2_with (first
    |(gi_at_call 113;with_reducible refine(ie0 _).mono ?_;rintro e w2 ⟨rfl,hb2⟩;replace hM:=hM.below hb2;replace hZ:=hZ.below hb2;replace HB:=HB.trans (hb2.mono HB.size);clear hb2 x0 x1 x2 lX;(try clear m0 m1 m2 m3 lM z0 z1 z2 z3 lZ);have qX:=hX.below HB;have x0:=qX.cell 0;have x1:=qX.cell 1;have x2:=qX.cell 2;have lX:=qX.lt;have m0:=hM.cell 0;have m1:=hM.cell 1;have m2:=hM.cell 2;have m3:=hM.cell 3;have lM:=hM.lt;have z0:=hZ.cell 0;have z1:=hZ.cell 1;have z2:=hZ.cell 2;have z3:=hZ.cell 3;have lZ:=hZ.lt;simp at x0 x1 x2 m0 m1 m2 m3 z0 z1 z2 z3;clear qX)
    |(gi_at_call 114;(first|(with_reducible refine(it0 (hT.below (HB.mono (Nat.le_trans hN hb.size)))).mono ?_)|(with_reducible refine(it1 (hT.below (HB.mono (Nat.le_trans hN hb.size)))).mono ?_));rintro e w2 ⟨rfl,hb2⟩;replace hM:=hM.below hb2;replace hZ:=hZ.below hb2;replace HB:=HB.trans (hb2.mono HB.size);clear hb2 x0 x1 x2 lX;(try clear m0 m1 m2 m3 lM z0 z1 z2 z3 lZ);have qX:=hX.below HB;have x0:=qX.cell 0;have x1:=qX.cell 1;have x2:=qX.cell 2;have lX:=qX.lt;have m0:=hM.cell 0;have m1:=hM.cell 1;have m2:=hM.cell 2;have m3:=hM.cell 3;have lM:=hM.lt;have z0:=hZ.cell 0;have z1:=hZ.cell 1;have z2:=hZ.cell 2;have z3:=hZ.cell 3;have lZ:=hZ.lt;simp at x0 x1 x2 m0 m1 m2 m3 z0 z1 z2 z3;clear qX)
    |(gi_at_call 117;with_reducible refine(hgl _).mono ?_;rintro e w2 ⟨rfl,hw⟩;cases hw)
    |(gi_at_lookup;obtain⟨D,n,d1,hown,d3⟩:=hS.same HB;have hno:=d3 _ _ hkey hfr;refine gZ _ rfl _ _ 363 rfl 295 4 AX UC Tryz.underlying4 (Tryz.zeroValue4 _) _ _ _ rfl hown _ _ rfl hkey hno ?_)
    |(gi_at_mapUpdate;refine wpListIn_mapUpdate_own _ rfl _ _ _ 363 rfl 295 4 AX UC (plainElem Tryz.prog 4) _ _ _ rfl hown (by unfold maxLen;omega) _ _ _ rfl rfl hkey _ [] (plainElem_bool Tryz.underlying4 true) ?_;intro w3 hown3 hgrow3))
   have hlt:=hS.lt;have hsz:=hb.size;have hXl:=hX.lt;have hsz2:=HB.size;go_roundw
   case rel=>
    refine⟨k+1,by omega,by go_num,(hb.trans (HB.mono hsz)).grown hgrow3 (by omega) (λr e=>by cases e;omega),(hX.below HB).gb hgrow3 (by omega),?_⟩;rw[HK.out];exact iU.put AX d1 d3 hkey hown3
   case measure=>simp[intOf];omega
  ·obtain rfl:k=t.jG.length:=by omega
   gi_wp2;go_ret;exact⟨rfl,hb⟩
end
end
