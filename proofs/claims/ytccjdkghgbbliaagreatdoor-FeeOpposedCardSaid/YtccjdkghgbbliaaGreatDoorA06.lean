/- Giving back, inside the fence. -/
import Derived.Test.YtccjdkghgbbliaaGreatDoorA04
import Derived.Test.YtccjdkghgbbliaaGreatDoorA05
set_option linter.all false
namespace Go.Proofs.YtccjdkghgbbliaaGreatDoor
section
set_option maxHeartbeats 1000000
set_option maxRecDepth 10000
open Go Go.RowKit Lift
theorem mixed:Tryz.prog.follows .mixedOrders=true:=by kernel_rfl
theorem NM{N:Nat}{l:Lay}{b:Book}{t:Tl}{s:St}{w:World}(h:aJ N l b t s w)(hv:Valid b){c:Nat}(hc:c<b.cs.length) :
 CallsIn Fz 0 Tryz.prog 161 #[.pointer (some ⟨t.T,0,none⟩),.int .i64 c] w λe w'=>e=.returned (.tuple #[])∧aJ N l b t (s.give b c) w'∧Below N w w':=by
 obtain⟨hk1,hk3⟩:=hv.bg hc;gi_enter Tryz.func161,Tryz.ntmps161
 gi_wp2;refine cu (λw'=>Below w.heap.size w w') (λw'=>∃w1,Below w.heap.size w w1∧w'=w1.setCell ⟨t.T,5+b.bg c,none⟩ (.int .i64 (wrap64 (s.acc (b.bg c)+(s.cases c).held)))) 23 rfl mixed (by kernel_rfl) (λd=>⟨rfl,rfl,rfl,ak _,λ_ _=>rfl⟩) ?_;simp only[aG,aC,aF,Nat.reduceAdd,Nat.zero_add,List.range,List.range.loop]
 iterate 4
  refine aS rfl rfl (by kernel_rfl) (.inl (by simp)) ?_;apply ah;refine⟨λw' hw' K Q hK=>?_,?_⟩
  ·gi_wp2;exact hw'
  apply ah;refine⟨rfl,?_⟩
 refine aS rfl rfl (by kernel_rfl) (.inl (by simp)) ?_;apply ah;refine⟨λw' hw' K Q hK=>?_,?_⟩
 ·have H:=h.same hw';have f0:=H.c0;have f1:=H.c1;have f2:=H.c2;have f3:=H.c3;gi_wp2;exact hw'
 apply ah;refine⟨rfl,?_⟩;refine aS rfl rfl (by kernel_rfl) (.inl (by simp)) ?_;apply ah;refine⟨λw' hw' K Q hK=>?_,?_⟩
 ·gi_wp2;exact hw'
 apply ah;refine⟨rfl,?_⟩;refine aS rfl rfl (by kernel_rfl) (.inl (by simp)) ?_;apply ah;refine⟨λw' hw' K Q hK=>?_,?_⟩
 ·have H:=h.same hw'
  gi_wp2_with (gi_at_call 144;refine(o7 H.bk hv hc).mono ?_;rintro e w'' ⟨rfl,hb⟩)
  exact hw'.trans (hb.mono hw'.size)
 iterate 3
  apply ah;refine⟨rfl,?_⟩;refine aS rfl rfl (by kernel_rfl) (.inl (by simp)) ?_;apply ah;refine⟨λw' hw' K Q hK=>?_,?_⟩
  ·gi_wp2;exact hw'
 apply ah;refine⟨rfl,?_⟩;refine aS rfl rfl (by kernel_rfl) (.inl (by simp)) ?_;apply ah;refine⟨λw' hw' K Q hK=>?_,?_⟩
 ·have H:=h.same hw';have f0:=H.yV hk3;gi_wp2;exact hw'
 iterate 3
  apply ah;refine⟨rfl,?_⟩;refine aS rfl rfl (by kernel_rfl) (.inl (by simp)) ?_;apply ah;refine⟨λw' hw' K Q hK=>?_,?_⟩
  ·gi_wp2;exact hw'
 apply ah;refine⟨rfl,?_⟩;refine aS rfl rfl (by kernel_rfl) (.inl (by simp)) ?_;apply ah;refine⟨λw' hw' K Q hK=>?_,?_⟩
 ·have H:=h.same hw';have f0:=H.c4;gi_wp2;exact hw'
 iterate 3
  apply ah;refine⟨rfl,?_⟩;refine aS rfl rfl (by kernel_rfl) (.inl (by simp)) ?_;apply ah;refine⟨λw' hw' K Q hK=>?_,?_⟩
  ·gi_wp2;exact hw'
 apply ah;refine⟨rfl,?_⟩;refine aS rfl rfl (by kernel_rfl) (.inl (by simp)) ?_;apply ah;refine⟨λw' hw' K Q hK=>?_,?_⟩
 ·have H:=h.same hw';have f0:=H.jr hc;gi_wp2;exact hw'
 apply ah;refine⟨rfl,?_⟩;refine aS rfl rfl (by kernel_rfl) (.inl (by simp)) ?_;apply ah;refine⟨λw' hw' K Q hK=>?_,?_⟩
 ·gi_wp2;exact hw'
 iterate 3
  apply ah;refine⟨rfl,?_⟩;refine aI rfl rfl (by decide) ?_;apply ah;refine⟨λT w' hw' K Q hK=>?_,?_⟩
  ·gi_wp2;exact hw'
 apply ah;refine⟨rfl,?_⟩;refine ig rfl rfl rfl ?_;apply ah;refine⟨λw' hw' K Q hK=>?_,?_⟩
 ·have H:=h.same hw';have f0:=H.yV hk3;have f1:=H.eG (5+b.bg c);gi_wp2;exact⟨w',hw',rfl⟩
 refine⟨undef,rfl,?_⟩;rintro _ ⟨w1,hw1,rfl⟩;have H1:=(h.same hw1).Cc hk3 (wrap64 (s.acc (b.bg c)+(s.cases c).held));have B1:=(hw1.mono h.bk.hN).setCell (p:=⟨t.T,5+b.bg c,none⟩) h.NT (.int .i64 (wrap64 (s.acc (b.bg c)+(s.cases c).held)));generalize w1.setCell _ _=w2 at H1 B1 ⊢;have f4:=H1.c4;have f0:=H1.jr hc;have f1:=H1.fV (c * 4+1);gi_wp2;go_end0;exact⟨rfl,H1.iR hc 0,B1.setCell H1.NS _⟩
end
section
set_option maxHeartbeats 1000000
set_option maxRecDepth 10000
open Go Go.RowKit Lift
def iter{α:Type}(f:Nat→α→α):Nat→α→α
 |0,s=>s
 |k+1,s=>f k (iter f k s)
def St.setState(s:St)(c:Nat)(x:Int):St:={ s with cases:=upd s.cases c { s.cases c with state:=x } }
def St.jW(b:Book)(day:Int)(c:Nat)(s:St):St:=if(b.fee c day).2=false∧(s.cases c).state=0 then(s.give b c).setState c 2 else s
def St.iY(b:Book)(day:Int)(s:St):St:=iter (St.jW b day) b.cs.length s
theorem TD{N:Nat}{l:Lay}{b:Book}{t:Tl}{s:St}{w:World}(h:aJ N l b t s w)(hv:Valid b)(day:Int) :
 CallsIn Fz 0 Tryz.prog 99 #[.pointer (some ⟨t.T,0,none⟩),.int .i64 day] w λe w'=>e=.returned (.tuple #[])∧aJ N l b t (s.iY b day) w'∧Below N w w':=by
 have hn:=hv.nk;have f4:=h.c4;gi_enter Tryz.func99,Tryz.ntmps99
 gi_wp2;clear f4;gi_loopw [12] (λi wr=>∃k:Nat,k≤b.cs.length∧i=.int .i64 k∧aJ N l b t (iter (St.jW b day) k s) wr∧Below N w wr) (λi _=>b.cs.length-(intOf i).toNat)
 case atStart=>exact⟨0,Nat.zero_le _,rfl,h,Below.refl _ _⟩
 case round=>
  obtain⟨k,hk,rfl,H,HB⟩:=hrel;by_cases hlt:k<b.cs.length
  ·have f0:=H.c0;have f1:=H.c1;have f2:=H.c2;have f3:=H.c3;have hstep:iter (St.jW b day) (k+1) s=St.jW b day k (iter (St.jW b day) k s):=rfl;generalize iter (St.jW b day) k s=S at H hstep;by_cases hd:(b.fee k day).2=true
   ·have hL:St.jW b day k S=S:=if_neg (by simp[hd]);have HS:=Lib.hid (hstep.trans hL);clear hstep hL
    gi_wp2_with (gi_at_call 63;refine(lu H.bk hv hlt day).mono ?_;rintro e w2 ⟨rfl,hb⟩;have H2:=H.same hb;have g4:=H2.c4;have g0:=H2.dL hlt;clear f0 f1 f2 f3)
    go_roundw
    case rel=>exact⟨k+1,by omega,by go_num,by rw[HS.out];exact H2,HB.trans (hb.mono H.bk.hN)⟩
    case measure=>simp[intOf];omega
   ·have hd':(b.fee k day).2=false:=by simpa using hd
    by_cases hs:(S.cases k).state=0
    ·have hL:St.jW b day k S=(S.give b k).setState k 2:=if_pos ⟨hd',hs⟩;have HS:=Lib.hid (hstep.trans hL);clear hstep hL hd
     gi_wp2_with (first
      |(gi_at_call 63;refine(lu H.bk hv hlt day).mono ?_;rintro e w2 ⟨rfl,hb⟩;have H2:=H.same hb;have g4:=H2.c4;have g0:=H2.dL hlt;clear f0 f1 f2 f3)
      |(gi_at_call 161;refine(NM H2 hv hlt).mono ?_;rintro e w3 ⟨rfl,H3,hb3⟩;clear g4 g0;have g4:=H3.c4;have g0:=H3.dL hlt;have g1:=H3.fV (k * 4)))
     go_roundw
     case rel=>exact⟨k+1,by omega,by go_num,by rw[HS.out];exact H3.setState hlt 2,((HB.trans (hb.mono H.bk.hN)).trans hb3).setCell H3.NS _⟩
     case measure=>simp[intOf];omega
    ·have hL:St.jW b day k S=S:=if_neg (by simp[hs]);have HS:=Lib.hid (hstep.trans hL);clear hstep hL hd
     gi_wp2_with (gi_at_call 63;refine(lu H.bk hv hlt day).mono ?_;rintro e w2 ⟨rfl,hb⟩;have H2:=H.same hb;have g4:=H2.c4;have g0:=H2.dL hlt;clear f0 f1 f2 f3)
     go_roundw
     case rel=>exact⟨k+1,by omega,by go_num,by rw[HS.out];exact H2,HB.trans (hb.mono H.bk.hN)⟩
     case measure=>simp[intOf];omega
  ·obtain rfl:k=b.cs.length:=by omega
   gi_wp2;go_end0;exact⟨rfl,H,HB⟩
end
section
set_option maxHeartbeats 1000000
set_option maxRecDepth 10000
open Go Go.RowKit Lift
theorem upd_upd{α:Type}(f:Nat→α)(i:Nat)(x y:α):upd (upd f i x) i y=upd f i y:=by
 funext j;unfold upd;split<;>rfl
section
variable {N:Nat} {l:Lay} {b:Book} {t:Tl} {s:St} {w:World}
theorem aJ.setDay(h:aJ N l b t s w){c:Nat}(hc:c<b.cs.length)(x:Int):aJ N l b t { s with cases:=upd s.cases c { s.cases c with day:=x } } (w.setCell ⟨t.Sb,c * 4+2,none⟩ (.int .i64 x)):=by
 refine h.Ho (j:=2) hc (by omega) λi u hu=>?_;rcases sK hu with⟨rfl,rfl⟩|⟨rfl,rfl⟩|⟨rfl,rfl⟩|⟨rfl,rfl⟩
 ·exact .inr ⟨by omega,rfl⟩
 ·exact .inr ⟨by omega,rfl⟩
 ·exact .inl ⟨rfl,rfl⟩
 ·exact .inr ⟨by omega,rfl⟩
theorem aJ.setFee(h:aJ N l b t s w){c:Nat}(hc:c<b.cs.length)(x:Int):aJ N l b t { s with cases:=upd s.cases c { s.cases c with fee:=x } } (w.setCell ⟨t.Sb,c * 4+3,none⟩ (.int .i64 x)):=by
 refine h.Ho (j:=3) hc (by omega) λi u hu=>?_;rcases sK hu with⟨rfl,rfl⟩|⟨rfl,rfl⟩|⟨rfl,rfl⟩|⟨rfl,rfl⟩
 ·exact .inr ⟨by omega,rfl⟩
 ·exact .inr ⟨by omega,rfl⟩
 ·exact .inr ⟨by omega,rfl⟩
 ·exact .inl ⟨rfl,rfl⟩
theorem aJ.setAll(h:aJ N l b t s w){c:Nat}(hc:c<b.cs.length)(x0 x1 x2 x3:Int) :
  aJ N l b t { s with cases:=upd s.cases c ⟨x0,x1,x2,x3⟩ } ((((w.setCell ⟨t.Sb,c * 4,none⟩ (.int .i64 x0)).setCell ⟨t.Sb,c * 4+1,none⟩ (.int .i64 x1)).setCell ⟨t.Sb,c * 4+2,none⟩ (.int .i64 x2)).setCell ⟨t.Sb,c * 4+3,none⟩ (.int .i64 x3)):=by
 have:=(((h.setState hc x0).iR hc x1).setDay hc x2).setFee hc x3;simpa only[upd_same,upd_upd]using this
end
def St.iR(s:St)(c:Nat)(x:Int):St:={ s with cases:=upd s.cases c { s.cases c with held:=x } }
def St.zT(s:St)(k:Nat)(x:Int):St:={ s with tkn:=upd s.tkn k (wrap64 (s.tkn k+x)) }
def St.kept(s:St)(c:Nat)(day n:Int):St:={ s with cases:=upd s.cases c ⟨1,0,day,n⟩ }
def St.TB(b:Book)(day:Int)(c:Nat)(s:St):St:=(((s.iR c (wrap64 ((s.cases c).held - (b.fee c day).1))).zT (b.bg c) (b.fee c day).1).give b c).kept c day (b.fee c day).1
def St.oq(b:Book)(day:Int)(c:Nat)(s:St):St:=if(s.cases c).state=0∧(b.fee c day).2=true∧(b.fee c day).1≤(s.cases c).held then St.TB b day c s else s
def St.keep(b:Book)(day:Int)(s:St):St:=iter (St.oq b day) b.cs.length s
set_option maxHeartbeats 8000000 in
theorem N7{N:Nat}{l:Lay}{b:Book}{t:Tl}{s:St}{w:World}(h:aJ N l b t s w)(hv:Valid b)(day:Int) :
 CallsIn Fz 0 Tryz.prog 100 #[.pointer (some ⟨t.T,0,none⟩),.int .i64 day] w λe w'=>e=.returned (.tuple #[])∧aJ N l b t (s.keep b day) w'∧Below N w w':=by
 have hn:=hv.nk;have f4:=h.c4;gi_enter Tryz.func100,Tryz.ntmps100
 gi_wp2;clear f4;gi_loopw [13] (λi wr=>∃k:Nat,k≤b.cs.length∧i=.int .i64 k∧aJ N l b t (iter (St.oq b day) k s) wr∧Below N w wr) (λi _=>b.cs.length-(intOf i).toNat)
 case atStart=>exact⟨0,Nat.zero_le _,rfl,h,Below.refl _ _⟩
 case round=>
  obtain⟨k,hk,rfl,H,HB⟩:=hrel;by_cases hlt:k<b.cs.length
  ·have f0:=H.c0;have f1:=H.c1;have f2:=H.c2;have f3:=H.c3;have f4:=H.c4;have hstep:iter (St.oq b day) (k+1) s=St.oq b day k (iter (St.oq b day) k s):=rfl;generalize iter (St.oq b day) k s=S at H hstep;by_cases hs:(S.cases k).state=0
   ·by_cases hd:(b.fee k day).2=true
    ·by_cases hh:(S.cases k).held<(b.fee k day).1
     ·have hL:St.oq b day k S=S:=if_neg (by omega);have HS:=Lib.hid (hstep.trans hL);clear hstep hL
      gi_wp2_with (gi_at_call 63;refine(lu H.bk hv hlt day).mono ?_;rintro e w2 ⟨rfl,hb⟩;have H2:=H.same hb;have g0:=H2.dL hlt;have g1:=H2.jr hlt;clear f0 f1 f2 f3 f4)
      go_roundw
      case rel=>exact⟨k+1,by omega,by go_num,by rw[HS.out];exact H2,HB.trans (hb.mono H.bk.hN)⟩
      case measure=>simp[intOf];omega
     ·have hL:St.oq b day k S=(((S.iR k (wrap64 ((S.cases k).held - (b.fee k day).1))).zT (b.bg k) (b.fee k day).1).give b k).kept k day (b.fee k day).1:=if_pos ⟨hs,hd,by omega⟩;have HS:=Lib.hid (hstep.trans hL);have hle:(b.fee k day).1≤(S.cases k).held:=by omega
      clear hstep hL;obtain⟨hk1,hk3⟩:=hv.bg hlt
      gi_wp2_with (gi_at_call 63;refine(lu H.bk hv hlt day).mono ?_;rintro e w2 ⟨rfl,hb⟩;have H2:=H.same hb;have g0:=H2.dL hlt;have g1:=H2.jr hlt;have g2:=H2.fV (k * 4+1);clear f0 f1 f2 f3 f4)
      have H3:=H2.iR hlt (wrap64 ((S.cases k).held - (b.fee k day).1));have HB3:=(HB.trans (hb.mono H.bk.hN)).setCell (p:=⟨t.Sb,k * 4+1,none⟩) H2.NS (.int .i64 (wrap64 ((S.cases k).held - (b.fee k day).1)));clear g0 g1 g2
      change aJ N l b t (S.iR k (wrap64 ((S.cases k).held - (b.fee k day).1))) _ at H3
      generalize w2.setCell _ _=w3 at H3 HB3 ⊢;generalize S.iR k (wrap64 ((S.cases k).held - (b.fee k day).1))=S3 at H3 HS;refine cu (λw'=>Below w3.heap.size w3 w') (λw'=>∃w1,Below w3.heap.size w3 w1∧w'=w1.setCell ⟨t.T,8+b.bg k,none⟩ (.int .i64 (wrap64 (S3.tkn (b.bg k)+(b.fee k day).1)))) 16 rfl mixed (by kernel_rfl) (λd=>⟨rfl,rfl,rfl,ak _,λ_ _=>rfl⟩) ?_;simp only[aG,aC,aF,Nat.reduceAdd,Nat.zero_add,List.range,List.range.loop]
      iterate 4
       refine aS rfl rfl (by kernel_rfl) (.inl (by simp)) ?_;apply ah;refine⟨λw' hw' K Q hK=>?_,?_⟩
       ·gi_wp2;exact hw'
       apply ah;refine⟨rfl,?_⟩
      refine aS rfl rfl (by kernel_rfl) (.inl (by simp)) ?_;apply ah;refine⟨λw' hw' K Q hK=>?_,?_⟩
      ·have G:=H3.same hw';have f0:=G.c0;have f1:=G.c1;have f2:=G.c2;have f3:=G.c3;gi_wp2;exact hw'
      apply ah;refine⟨rfl,?_⟩;refine aS rfl rfl (by kernel_rfl) (.inl (by simp)) ?_;apply ah;refine⟨λw' hw' K Q hK=>?_,?_⟩
      ·gi_wp2;exact hw'
      apply ah;refine⟨rfl,?_⟩;refine aS rfl rfl (by kernel_rfl) (.inl (by simp)) ?_;apply ah;refine⟨λw' hw' K Q hK=>?_,?_⟩
      ·have G:=H3.same hw'
       gi_wp2_with (gi_at_call 144;refine(o7 G.bk hv hlt).mono ?_;rintro e w'' ⟨rfl,hb'⟩)
       exact hw'.trans (hb'.mono hw'.size)
      iterate 3
       apply ah;refine⟨rfl,?_⟩;refine aS rfl rfl (by kernel_rfl) (.inl (by simp)) ?_;apply ah;refine⟨λw' hw' K Q hK=>?_,?_⟩
       ·gi_wp2;exact hw'
      apply ah;refine⟨rfl,?_⟩;refine aS rfl rfl (by kernel_rfl) (.inl (by simp)) ?_;apply ah;refine⟨λw' hw' K Q hK=>?_,?_⟩
      ·have G:=H3.same hw';have f0:=G.Rw hk3;gi_wp2;exact hw'
      iterate 2
       apply ah;refine⟨rfl,?_⟩;refine aS rfl rfl (by kernel_rfl) (.inl (by simp)) ?_;apply ah;refine⟨λw' hw' K Q hK=>?_,?_⟩
       ·gi_wp2;exact hw'
      iterate 3
       apply ah;refine⟨rfl,?_⟩;refine aI rfl rfl (by decide) ?_;apply ah;refine⟨λT w' hw' K Q hK=>?_,?_⟩
       ·gi_wp2;exact hw'
      apply ah;refine⟨rfl,?_⟩;refine ig rfl rfl rfl ?_;apply ah;refine⟨λw' hw' K Q hK=>?_,?_⟩
      ·have G:=H3.same hw';have f0:=G.Rw hk3;have f1:=G.eG (8+b.bg k);gi_wp2;exact⟨w',hw',rfl⟩
      refine⟨undef,rfl,?_⟩;rintro _ ⟨w4,hw4,rfl⟩;have H4:=(H3.same hw4).setTkn hk3 (wrap64 (S3.tkn (b.bg k)+(b.fee k day).1));have HB4:=(HB3.trans (hw4.mono H3.bk.hN)).setCell (p:=⟨t.T,8+b.bg k,none⟩) H3.NT (.int .i64 (wrap64 (S3.tkn (b.bg k)+(b.fee k day).1)))
      change aJ N l b t (S3.zT (b.bg k) (b.fee k day).1) _ at H4
      generalize w4.setCell _ _=w5 at H4 HB4 ⊢;generalize S3.zT (b.bg k) (b.fee k day).1=S4 at H4 HS
      gi_wp2_with (gi_at_call 161;refine(NM H4 hv hlt).mono ?_;rintro e w6 ⟨rfl,H5,hb5⟩;have g0:=H5.dL hlt;have g1:=H5.jr hlt;have g2:=H5.sDay hlt;have g3:=H5.sFee hlt;have e0:=H5.fV (k * 4);have e1:=H5.fV (k * 4+1);have e2:=H5.fV (k * 4+2);have e3:=H5.fV (k * 4+3))
      go_roundw
      case rel=>exact⟨k+1,by omega,by go_num,by rw[HS.out];exact H5.setAll hlt 1 0 day (b.fee k day).1,((((HB4.trans hb5).setCell H5.NS _).setCell H5.NS _).setCell H5.NS _).setCell H5.NS _⟩
      case measure=>simp[intOf];omega
    ·have hd':(b.fee k day).2=false:=by simpa using hd
     clear hd;have hL:St.oq b day k S=S:=if_neg (by simp[hd']);have HS:=Lib.hid (hstep.trans hL);clear hstep hL
     gi_wp2_with (gi_at_call 63;refine(lu H.bk hv hlt day).mono ?_;rintro e w2 ⟨rfl,hb⟩;have H2:=H.same hb;have g0:=H2.dL hlt;have g1:=H2.jr hlt;clear f0 f1 f2 f3 f4)
     go_roundw
     case rel=>exact⟨k+1,by omega,by go_num,by rw[HS.out];exact H2,HB.trans (hb.mono H.bk.hN)⟩
     case measure=>simp[intOf];omega
   ·have hL:St.oq b day k S=S:=if_neg (by simp[hs]);have HS:=Lib.hid (hstep.trans hL);clear hstep hL
    gi_wp2_with (gi_at_call 63;refine(lu H.bk hv hlt day).mono ?_;rintro e w2 ⟨rfl,hb⟩;have H2:=H.same hb;have g0:=H2.dL hlt;have g1:=H2.jr hlt;clear f0 f1 f2 f3 f4)
    go_roundw
    case rel=>exact⟨k+1,by omega,by go_num,by rw[HS.out];exact H2,HB.trans (hb.mono H.bk.hN)⟩
    case measure=>simp[intOf];omega
  ·obtain rfl:k=b.cs.length:=by omega
   gi_wp2;go_end0;exact⟨rfl,H,HB⟩
end
section
set_option maxHeartbeats 1000000
set_option maxRecDepth 10000
open Go Go.RowKit Lift
def Blk(w:World)(B:Nat)(ty:TypeId)(cs:Array Value):Prop:=w.heap[B]?=some (.cells cs ty (0,0))
section
variable {w w':World} {B:Nat} {ty:TypeId} {cs:Array Value}
theorem Blk.lt(h:Blk w B ty cs):B<w.heap.size:=(Array.getElem?_eq_some_iff.1 h).1
theorem Blk.cell(h:Blk w B ty cs)(j:Nat):w.cell? ⟨B,j,none⟩=cs[j]?:=by simp[World.cell?,show w.heap[B]?=_ from h]
theorem Blk.frozen(h:Blk w B ty cs)(j:Nat):w.frozen? ⟨B,j,none⟩=false:=by simp[World.frozen?,show w.heap[B]?=_ from h]
theorem Blk.below(h:Blk w B ty cs)(hb:Below w.heap.size w w'):Blk w' B ty cs:=(hb.block B h.lt).trans h
theorem Blk.set(h:Blk w B ty cs){g j:Nat}(hg:g≠B)(v:Value):Blk (w.setCell ⟨g,j,none⟩ v) B ty cs:=(Below.heap_setCell w ⟨g,j,none⟩ v B (λe=>hg e.symm)).trans h
theorem Blk.new(w:World)(cs:Array Value)(ty:TypeId):Blk (w.alloc (.cells cs ty)) w.heap.size ty cs:=Array.getElem?_push_size
end
def Book.aV(b:Book)(i:Nat):Pay:=b.ps.getD i ⟨0,0,0,0,0⟩
structure PayIn (N:Nat) (l:Lay) (b:Book) (i:Nat) (w:World) (pb po:Nat):Prop where
 ep:l.pb=some ⟨pb,po,none⟩
 hp:pb<N
 rp:w.rangeAt pb (po+i * 5) (b.aV i).row
 mp:b.aV i∈b.ps
theorem dZ.pay{N:Nat}{l:Lay}{b:Book}{w:World}(h:dZ N l b w){i:Nat}(hi:i<b.ps.length):∃pb po,PayIn N l b i w pb po:=by
 have e1:b.ps[i]?=some (b.aV i):=by simp[Book.aV,hi]
 obtain⟨pb,po,a1,a2,a3⟩:=h.ps i _ (by rw[List.getElem?_map,e1];rfl);exact⟨pb,po,a1,a2,a3,List.mem_of_getElem? e1⟩
def St.addAcc(s:St)(k:Nat)(x:Int):St:={ s with acc:=upd s.acc k (wrap64 (s.acc k+x)) }
def St.Eb(s:St)(k:Nat)(x:Int):St:={ s with pd:=upd s.pd k (wrap64 (s.pd k+x)) }
def St.Dk(b:Book)(i:Nat)(s:St):St:=(s.Eb (b.aV i).bg (b.aV i).amount).addAcc (b.aV i).bg (b.aV i).amount
theorem NK{N:Nat}{l:Lay}{b:Book}{t:Tl}{s:St}{w:World}(h:aJ N l b t s w)(hv:Valid b){i:Nat}(hi:i<b.ps.length) :
 CallsIn Fz 0 Tryz.prog 339 #[.pointer (some ⟨t.T,0,none⟩),.int .i64 i] w λe w'=>e=.returned (.tuple #[])∧aJ N l b t (s.Dk b i) w'∧Below N w w':=by
 obtain⟨pb,po,hP⟩:=h.bk.pay hi;have hN:=h.bk.hN;have hpw:pb<w.heap.size:=aB hP.hp hN;have vp:=hv.p _ hP.mp;have p0:=hP.rp 0 _ rfl;have p1:=hP.rp 1 _ rfl;have p2:=hP.rp 2 _ rfl;have p3:=hP.rp 3 _ rfl;have p4:=hP.rp 4 _ rfl;have f3:=h.c3;rw[hP.ep]at f3;simp only[Nat.add_zero]at p0;have hnc:=hv.nc;have hk3:(b.aV i).bg<3:=by omega
 unfold St.Dk;generalize b.aV i=p at *;obtain⟨kd,dy,k,am,cc⟩:=p;simp only at *;have I7:=h.ltT;gi_enter Tryz.func339,Tryz.ntmps339
 gi_wp2;have hq:=Blk.new w #[.int .i64 kd,.int .i64 dy,.int .i64 k,.int .i64 am,.int .i64 cc] 93;have hb1:Below w.heap.size w (w.alloc (.cells #[.int .i64 kd,.int .i64 dy,.int .i64 k,.int .i64 am,.int .i64 cc] 93)):=(Below.refl _ w).alloc (ak _) _;have H1:=h.same hb1;have HB1:=hb1.mono hN;clear p0 p1 p2 p3 p4 f3 hb1;have hne:t.T≠w.heap.size:=by omega
 generalize w.alloc _=w1 at H1 HB1 hq ⊢;generalize w.heap.size=B at hq hne ⊢;refine cu (λw'=>Below w1.heap.size w1 w') (λw'=>∃wx,Below w1.heap.size w1 wx∧w'=wx.setCell ⟨t.T,11+k,none⟩ (.int .i64 (wrap64 (s.pd k+am)))) 13 rfl mixed (by kernel_rfl) (λd=>⟨rfl,rfl,rfl,ak _,λ_ _=>rfl⟩) ?_;simp only[aG,aC,aF,Nat.reduceAdd,Nat.zero_add,List.range,List.range.loop]
 iterate 2
  iterate 2
   refine aI rfl rfl (by decide) ?_;apply ah;refine⟨λT w' hw' K Q hK=>?_,?_⟩
   ·gi_wp2;exact hw'
   apply ah;refine⟨rfl,?_⟩
  refine aS rfl rfl (by kernel_rfl) (.inl (by simp)) ?_;apply ah;refine⟨λw' hw' K Q hK=>?_,?_⟩
  ·have G:=H1.same hw';have q:=hq.below hw';have q2:=q.cell 2;have q3:=q.cell 3;have f0:=G.cPd hk3;have f1:=G.eG (11+k);simp at q2 q3;gi_wp2;exact hw'
  apply ah;refine⟨rfl,?_⟩;refine aI rfl rfl (by decide) ?_;apply ah;refine⟨λT w' hw' K Q hK=>?_,?_⟩
  ·gi_wp2;exact hw'
  apply ah;refine⟨rfl,?_⟩
 refine aS rfl rfl (by kernel_rfl) (.inl (by simp)) ?_;apply ah;refine⟨λw' hw' K Q hK=>?_,?_⟩
 ·have G:=H1.same hw';have q:=hq.below hw';have q2:=q.cell 2;have q3:=q.cell 3;have f0:=G.cPd hk3;have f1:=G.eG (11+k);simp at q2 q3;gi_wp2;exact hw'
 iterate 4
  apply ah;refine⟨rfl,?_⟩;refine aI rfl rfl (by decide) ?_;apply ah;refine⟨λT w' hw' K Q hK=>?_,?_⟩
  ·gi_wp2;exact hw'
 apply ah;refine⟨rfl,?_⟩;refine ig rfl rfl rfl ?_;apply ah;refine⟨λw' hw' K Q hK=>?_,?_⟩
 ·have G:=H1.same hw';have q:=hq.below hw';have q2:=q.cell 2;have q3:=q.cell 3;have f0:=G.cPd hk3;have f1:=G.eG (11+k);simp at q2 q3;gi_wp2;exact⟨w',hw',rfl⟩
 refine⟨undef,rfl,?_⟩;rintro _ ⟨w2,hw2,rfl⟩;have H2:=(H1.same hw2).setPd hk3 (wrap64 (s.pd k+am));have HB2:=(HB1.trans (hw2.mono H1.bk.hN)).setCell (p:=⟨t.T,11+k,none⟩) H1.NT (.int .i64 (wrap64 (s.pd k+am)));have hq2:=(hq.below hw2).set (j:=11+k) hne (.int .i64 (wrap64 (s.pd k+am)))
 change aJ N l b t (s.Eb k am) _ at H2
 generalize w2.setCell _ _=w3 at H2 HB2 hq2 ⊢;obtain⟨s2,hs2⟩:∃s2,s2=s.Eb k am:=⟨_,rfl⟩
 rw[← hs2]at H2;have HS:=Lib.hid hs2;clear hs2;gi_wp2;refine cu (λw'=>Below w3.heap.size w3 w') (λw'=>∃wx,Below w3.heap.size w3 wx∧w'=wx.setCell ⟨t.T,5+k,none⟩ (.int .i64 (wrap64 (s2.acc k+am)))) 13 rfl mixed (by kernel_rfl) (λd=>⟨rfl,rfl,rfl,ak _,λ_ _=>rfl⟩) ?_;simp only[aG,aC,aF,Nat.reduceAdd,Nat.zero_add,List.range,List.range.loop]
 iterate 2
  iterate 2
   refine aI rfl rfl (by decide) ?_;apply ah;refine⟨λT w' hw' K Q hK=>?_,?_⟩
   ·gi_wp2;exact hw'
   apply ah;refine⟨rfl,?_⟩
  refine aS rfl rfl (by kernel_rfl) (.inl (by simp)) ?_;apply ah;refine⟨λw' hw' K Q hK=>?_,?_⟩
  ·have G:=H2.same hw';have q:=hq2.below hw';have q2:=q.cell 2;have q3:=q.cell 3;have f0:=G.yV hk3;have f1:=G.eG (5+k);simp at q2 q3;gi_wp2;exact hw'
  apply ah;refine⟨rfl,?_⟩;refine aI rfl rfl (by decide) ?_;apply ah;refine⟨λT w' hw' K Q hK=>?_,?_⟩
  ·gi_wp2;exact hw'
  apply ah;refine⟨rfl,?_⟩
 refine aS rfl rfl (by kernel_rfl) (.inl (by simp)) ?_;apply ah;refine⟨λw' hw' K Q hK=>?_,?_⟩
 ·have G:=H2.same hw';have q:=hq2.below hw';have q2:=q.cell 2;have q3:=q.cell 3;have f0:=G.yV hk3;have f1:=G.eG (5+k);simp at q2 q3;gi_wp2;exact hw'
 iterate 4
  apply ah;refine⟨rfl,?_⟩;refine aI rfl rfl (by decide) ?_;apply ah;refine⟨λT w' hw' K Q hK=>?_,?_⟩
  ·gi_wp2;exact hw'
 apply ah;refine⟨rfl,?_⟩;refine ig rfl rfl rfl ?_;apply ah;refine⟨λw' hw' K Q hK=>?_,?_⟩
 ·have G:=H2.same hw';have q:=hq2.below hw';have q2:=q.cell 2;have q3:=q.cell 3;have f0:=G.yV hk3;have f1:=G.eG (5+k);simp at q2 q3;gi_wp2;exact⟨w',hw',rfl⟩
 refine⟨undef,rfl,?_⟩;rintro _ ⟨w4,hw4,rfl⟩;have H3:=(H2.same hw4).Cc hk3 (wrap64 (s2.acc k+am));have HB3:=(HB2.trans (hw4.mono H2.bk.hN)).setCell (p:=⟨t.T,5+k,none⟩) H2.NT (.int .i64 (wrap64 (s2.acc k+am)));gi_wp2;go_end0;have e:=HS.out;subst e;exact⟨rfl,H3,HB3⟩
end
