/- The specification's small functions, inside the fence. -/
import Derived.Test.YtnkejaohnhpbpaaGreatDoorA07
import Derived.Test.YtnkejaohnhpbpaaGreatDoorA10
set_option linter.all false
section
namespace Go.Proofs.YtnkejaohnhpbpaaGreatDoor
open Go Go.RowKit Lift
theorem In_in(a b c:Int)(w:World):CallsIn Fz 0 Tryz.prog 78 #[.int .i64 a,.int .i64 b,.int .i64 c] w λe w'=>e=.returned (.bool (decide (b≤a)&&decide (a≤c)))∧w'=w:=by
 gi_enter Tryz.func78,Tryz.ntmps78
 gi_wp2
 ·go_ret;rename_i h;simp[h]
 ·go_ret;rename_i h;have:¬b≤a:=by omega
  simp[this]
theorem jg(a b c:Int)(w:World)(h:b≤a∧a≤c):CallsIn Fz 0 Tryz.prog 78 #[.int .i64 a,.int .i64 b,.int .i64 c] w λe w'=>e=.returned (.bool true)∧w'=w:=by
 have k:=In_in a b c w;rw[show(decide (b≤a)&&decide (a≤c))=true by simp[h]]at k;exact k
theorem sW(a b c:Int)(w:World)(h:¬(b≤a∧a≤c)):CallsIn Fz 0 Tryz.prog 78 #[.int .i64 a,.int .i64 b,.int .i64 c] w λe w'=>e=.returned (.bool false)∧w'=w:=by
 have k:=In_in a b c w;rw[show(decide (b≤a)&&decide (a≤c))=false by rw[Bool.and_eq_false_iff,decide_eq_false_iff_not,decide_eq_false_iff_not];omega]at k;exact k
theorem jU(a:Int)(w:World)(h:0≤a∧a≤9999):CallsIn Fz 0 Tryz.prog 47 #[.int .i64 a] w λe w'=>e=.returned (.bool true)∧w'=w:=by
 gi_enter Tryz.func47,Tryz.ntmps47
 gi_wp2_with (gi_at_call 78;refine(jg _ _ _ _ h).mono ?_;rintro e w' ⟨rfl,rfl⟩)
 go_ret;exact⟨rfl,rfl⟩
theorem I8(a:Int)(w:World)(h:¬(0≤a∧a≤9999)):CallsIn Fz 0 Tryz.prog 47 #[.int .i64 a] w λe w'=>e=.returned (.bool false)∧w'=w:=by
 gi_enter Tryz.func47,Tryz.ntmps47
 gi_wp2_with (gi_at_call 78;refine(sW _ _ _ _ h).mono ?_;rintro e w' ⟨rfl,rfl⟩)
 go_ret;exact⟨rfl,rfl⟩
def okAt(s:ByteArray)(i:Nat):Prop:=∀x,s.data.toList[i]?=some x→(97≤x.toNat∧x.toNat≤122)∨(48≤x.toNat∧x.toNat≤57)∧i≠0
set_option maxRecDepth 100000 in
set_option maxHeartbeats 4000000 in
theorem En(s:ByteArray)(w:World):CallsIn Fz 0 Tryz.prog 89 #[.string s] w λe w'=>(∃r:Bool,e=.returned (.bool r)∧(r=true↔dM s))∧Below w.heap.size w w':=by
 rw[show(dM s)=((s.size≠0∧s.size≤10)∧∀i,okAt s i)from propext (IB s)];by_cases h0:s.size=0
 ·have e0:(s.size:Int)=0:=by omega
  gi_enter Tryz.func89,Tryz.ntmps89
  gi_wp2;go_ret;exact⟨⟨false,rfl,by simp[h0]⟩,Below.refl _ _⟩
 ·have e0:¬((s.size:Int)=0):=by omega
  by_cases h10:10<s.size
  ·have e1:(10:Int)<s.size:=by omega
   gi_enter Tryz.func89,Tryz.ntmps89
   gi_wp2;go_ret;exact⟨⟨false,rfl,by simp;omega⟩,Below.refl _ _⟩
  ·have e1:¬((10:Int)<s.size):=by omega
   gi_enter Tryz.func89,Tryz.ntmps89
   gi_wp2;gi_loopw [3] (λv wr=>Below w.heap.size w wr∧∃k:Nat,k≤s.size∧v=.int .i64 k∧∀i,i<k→okAt s i) (λv _=>s.size-(intOf v).toNat)
   case atStart=>exact⟨Below.refl _ _,0,Nat.zero_le _,rfl,λi hi=>by omega⟩
   case round=>
    obtain⟨HB,k,hk,rfl,hok⟩:=hrel;by_cases hl:k<s.size
    ·obtain⟨x,hx⟩:∃x:UInt8,s[k]'hl=x:=⟨_,rfl⟩
     have hxl:s.data.toList[k]?=some x:=by rw[← hx];exact Lib.data_getElem? s k hl
     have Hx:=Lib.hid hxl;have HK:=Lib.hid hok;clear hxl hok;have hiz:(k:Int)<(s.size:Int):=by omega
     have hx256:(x.toNat:Int)<256:=by have:=UInt8.toNat_lt x;omega
     have good:okAt s k→∀i,i<k+1→okAt s i:=λh i hi=>by
      by_cases e:i=k
      ·subst e;exact h
      ·exact HK.out i (by omega)
     have HG:=Lib.hid good;clear good;by_cases hlet:(97:Int)≤x.toNat∧(x.toNat:Int)≤122
     ·by_cases hdig:(48:Int)≤x.toNat∧(x.toNat:Int)≤57
      ·omega
      ·gi_wp2_with fail
       gi_big_quiet_th (first|(gi_at_call 78;refine CallsIn.quiet_of_same (jg _ _ _ _ (by omega)))|(gi_at_call 78;refine CallsIn.quiet_of_same (sW _ _ _ _ (by omega))))
       gi_wp2;go_roundw
       case rel=>exact⟨HB.trans ((below_drewN _ nq).mono HB.size),k+1,by omega,by go_num,HG.out λy hy=>by rw[Hx.out]at hy;cases hy;exact .inl (by omega)⟩
       case measure=>simp[intOf];omega
     ·by_cases hdig:(48:Int)≤x.toNat∧(x.toNat:Int)≤57
      ·by_cases hk0:k=0
       ·subst hk0
        gi_wp2_with fail
        gi_big_quiet_th (first|(gi_at_call 78;refine CallsIn.quiet_of_same (jg _ _ _ _ (by omega)))|(gi_at_call 78;refine CallsIn.quiet_of_same (sW _ _ _ _ (by omega))))
        gi_wp2;go_ret;exact⟨⟨false,rfl,by
         simp only[Bool.false_eq_true,false_iff];exact λh=>by
          rcases h.2 0 x Hx.out with q|q
          ·omega
          ·exact q.2 rfl⟩,HB.trans ((below_drewN _ nq).mono HB.size)⟩
       ·have hk0':¬((k:Int)=0):=by omega
        gi_wp2_with fail
        gi_big_quiet_th (first|(gi_at_call 78;refine CallsIn.quiet_of_same (jg _ _ _ _ (by omega)))|(gi_at_call 78;refine CallsIn.quiet_of_same (sW _ _ _ _ (by omega))))
        gi_wp2;go_roundw
        case rel=>exact⟨HB.trans ((below_drewN _ nq).mono HB.size),k+1,by omega,by go_num,HG.out λy hy=>by rw[Hx.out]at hy;cases hy;exact .inr ⟨by omega,hk0⟩⟩
        case measure=>simp[intOf];omega
      ·gi_wp2_with fail
       gi_big_quiet_th (first|(gi_at_call 78;refine CallsIn.quiet_of_same (jg _ _ _ _ (by omega)))|(gi_at_call 78;refine CallsIn.quiet_of_same (sW _ _ _ _ (by omega))))
       gi_wp2;go_ret;exact⟨⟨false,rfl,by
        simp only[Bool.false_eq_true,false_iff];exact λh=>by
         rcases h.2 k x Hx.out with q|q<;>omega⟩,HB.trans ((below_drewN _ nq).mono HB.size)⟩
    ·obtain rfl:k=s.size:=by omega
     have HK:=Lib.hid hok;clear hok;gi_wp2;go_ret;refine⟨⟨true,rfl,?_⟩,HB⟩;simp only[true_iff];refine⟨⟨h0,by omega⟩,λi x hx=>HK.out i ?_ x hx⟩;have:=(List.getElem?_eq_some_iff.1 hx).1;rw[← Lib.size_eq]at this;exact this
theorem yA{s:ByteArray}(h:dM s)(w:World):CallsIn Fz 0 Tryz.prog 89 #[.string s] w λe w'=>e=.returned (.bool true)∧Below w.heap.size w w':=
 (En s w).mono λe w' ⟨⟨r,he,hr⟩,hb⟩=>⟨by rw[he,hr.2 h],hb⟩
theorem CW{s:ByteArray}(h:¬dM s)(w:World):CallsIn Fz 0 Tryz.prog 89 #[.string s] w λe w'=>e=.returned (.bool false)∧Below w.heap.size w w':=
 (En s w).mono λe w' ⟨⟨r,he,hr⟩,hb⟩=>⟨by
  cases r with
  |false=>exact he
  |true=>exact absurd (hr.1 rfl) h,hb⟩
theorem Nq{x s:ByteArray}(h:¬x=s):(x.toList==s.toList)=false:=by
 rw[Lib.toList_data,Lib.toList_data];refine Bool.eq_false_iff.2 λe=>h ?_;have:=eq_of_beq e;obtain⟨⟨x⟩⟩:=x;obtain⟨⟨s⟩⟩:=s;simp only at this;rw[this]
theorem eqb_t{x s:ByteArray}(h:x=s):(x.toList==s.toList)=true:=by rw[h];exact beq_self_eq_true _
def iM(s:ByteArray):Nat→List ByteArray→Int
 |_,[]=>-1
 |i,x::l=>if x=s then(i:Int)else iM s (i+1) l
theorem Au(s x:ByteArray)(i:Nat)(l:List ByteArray):iM s i (x::l)=if x=s then(i:Int)else iM s (i+1) l:=rfl
theorem uX(s:ByteArray):∀(l:List ByteArray) (i:Nat),0≤iM s i l↔s∈l
 | [],i=>by simp[iM]
 |x::l,i=>by
  unfold iM;split
  ·rename_i h;subst h;simp
  ·rename_i h;rw[uX s l (i+1)];simp[Ne.symm h]
set_option maxHeartbeats 4000000 in
theorem Find_in{N:Nat}{cb:Option Addr}{cap n:Nat}{xs:List ByteArray}{s:ByteArray}{w:World}(hN:N≤w.heap.size)(hr:dB N cb 1 (xs.map λs=>[.string s]) w)(hlen:xs.length=n)(hn:xs.length<1000000) :
  CallsIn Fz 0 Tryz.prog 90 #[.slice cb n cap,.string s] w λe w'=>e=.returned (.int .i64 (iM s 0 xs))∧w'=w:=by
 subst hlen;gi_enter Tryz.func90,Tryz.ntmps90
 gi_wp2;gi_loopw [5] (λv wr=>w=wr∧∃k:Nat,k≤xs.length∧v=.int .i64 k∧iM s 0 xs=iM s k (xs.drop k)) (λv _=>xs.length-(intOf v).toNat)
 case atStart=>exact⟨rfl,0,Nat.zero_le _,rfl,rfl⟩
 case round=>
  obtain⟨rfl,k,hk,rfl,hf⟩:=hrel;by_cases hl:k<xs.length
  ·obtain⟨B,o,e1,e2,e3⟩:=hr k [.string xs[k]] (by simp[hl]);have c0:=e3 0 _ rfl;simp only[Nat.mul_one,Nat.add_zero]at c0;have hlt:B<w.heap.size:=aG e2 hN;rw[List.drop_eq_getElem_cons hl]at hf;clear e3 hr;subst e1;obtain⟨x,hx⟩:∃x,xs[k]=x:=⟨_,rfl⟩
   rw[hx]at c0 hf;clear hx;rw[Au]at hf;by_cases he:x=s
   ·rw[if_pos he]at hf;subst he;have HF:=Lib.hid hf;clear hf;gi_wp2;go_ret;exact⟨by rw[HF.out];rfl,rfl⟩
   ·rw[if_neg he]at hf;have HF:=Lib.hid hf;have he':=Nq he;clear hf;gi_wp2;go_roundw
    case rel=>exact⟨by trivial,k+1,by omega,by go_num,HF.out⟩
    case measure=>simp[intOf];omega
  ·obtain rfl:k=xs.length:=by omega
   rw[List.drop_length]at hf;have HF:=Lib.hid hf;clear hf;gi_wp2;go_ret;exact⟨by rw[HF.out];rfl,rfl⟩
theorem iG{l:Lay}{b:aN}{n:Int}{w:World}(h:0≤n∧n<b.coins.length)(hs:b.coins.length<1000000):CallsIn Fz 0 Tryz.prog 61 #[.agg (l.bY b),.int .i64 n] w λe w'=>e=.returned (.bool true)∧Below w.heap.size w w':=by
 gi_enter Tryz.func61,Tryz.ntmps61
 gi_wp2_with (gi_at_call 78;refine(jg _ _ _ _ (by omega)).mono ?_;rintro e w' ⟨rfl,rfl⟩)
 go_ret;exact⟨rfl,(Below.refl _ w).alloc (ay _) _⟩
theorem wE{l:Lay}{b:aN}{n:Int}{w:World}(h:¬(0≤n∧n<b.coins.length))(hs:b.coins.length<1000000):CallsIn Fz 0 Tryz.prog 61 #[.agg (l.bY b),.int .i64 n] w λe w'=>e=.returned (.bool false)∧Below w.heap.size w w':=by
 gi_enter Tryz.func61,Tryz.ntmps61
 gi_wp2_with (gi_at_call 78;refine(sW _ _ _ _ (by omega)).mono ?_;rintro e w' ⟨rfl,rfl⟩)
 go_ret;exact⟨rfl,(Below.refl _ w).alloc (ay _) _⟩
theorem wC{l:Lay}{b:aN}{n:Int}{w:World}(h:0≤n∧n<b.cs.length)(hs:b.cs.length<1000000):CallsIn Fz 0 Tryz.prog 77 #[.agg (l.bY b),.int .i64 n] w λe w'=>e=.returned (.bool true)∧Below w.heap.size w w':=by
 gi_enter Tryz.func77,Tryz.ntmps77
 gi_wp2_with (gi_at_call 78;refine(jg _ _ _ _ (by omega)).mono ?_;rintro e w' ⟨rfl,rfl⟩)
 go_ret;exact⟨rfl,(Below.refl _ w).alloc (ay _) _⟩
theorem BJ{l:Lay}{b:aN}{n:Int}{w:World}(h:¬(0≤n∧n<b.cs.length))(hs:b.cs.length<1000000):CallsIn Fz 0 Tryz.prog 77 #[.agg (l.bY b),.int .i64 n] w λe w'=>e=.returned (.bool false)∧Below w.heap.size w w':=by
 gi_enter Tryz.func77,Tryz.ntmps77
 gi_wp2_with (gi_at_call 78;refine(sW _ _ _ _ (by omega)).mono ?_;rintro e w' ⟨rfl,rfl⟩)
 go_ret;exact⟨rfl,(Below.refl _ w).alloc (ay _) _⟩
set_option maxHeartbeats 2000000 in
theorem EG{N:Nat}{l:Lay}{b:aN}{w:World}(hbk:bV N l b w){c:Nat}(hc:c<b.cs.length)(ht:0≤(b.aV c).tar∧(b.aV c).tar<b.ts.length) :
  CallsIn Fz 0 Tryz.prog 62 #[.agg (l.bY b),.int .i64 c] w λe w'=>e=.returned (.int .i64 (b.fQ (b.aV c).tar.toNat).aS)∧Below w.heap.size w w':=by
 obtain⟨t,ht2⟩:∃t:Nat,(b.aV c).tar=t:=⟨(b.aV c).tar.toNat,by omega⟩
 have htl:t<b.ts.length:=by omega
 obtain⟨kb,ko,a1,a2,a3⟩:=hbk.ks c (b.aV c).row (by rw[List.getElem?_map,List.getElem?_eq_getElem hc,gK hc];rfl);obtain⟨tb,to,b1,b2,b3⟩:=hbk.ts t (b.fQ t).row (by rw[List.getElem?_map,List.getElem?_eq_getElem htl,gV htl];rfl);have k1:=a3 1 _ rfl;have t1:=b3 1 _ rfl;have hkb:kb<w.heap.size:=aG a2 hbk.hN;have htb:tb<w.heap.size:=aG b2 hbk.hN;rw[ht2]at k1 ⊢;rw[Int.toNat_natCast];clear a3 b3;unfold Lay.bY;rw[a1,b1];generalize (b.fQ t).aS=co at *;gi_enter Tryz.func62,Tryz.ntmps62
 gi_wp2;gi_big_quiet_th (fail)
 gi_wp2;go_ret;exact⟨rfl,⟨rfl,rfl,rfl,by simp[World.drewN],λk hk=>((Below.refl w.heap.size w).alloc (ay _) _).block k hk⟩⟩
end Go.Proofs.YtnkejaohnhpbpaaGreatDoor
end
section
namespace Go.Proofs.YtnkejaohnhpbpaaGreatDoor
open Go Go.RowKit Lift
theorem OJ{α:Type}{f:α→List Value}{xs:List α}{k i:Nat}{r:List Value}(h:((xs.take k).map f)[i]?=some r):(xs.map f)[i]?=some r:=by
 rw[List.getElem?_map,List.getElem?_take]at h;rw[List.getElem?_map];split at h
 ·exact h
 ·cases h
set_option maxHeartbeats 8000000 in
theorem rY{N:Nat}{l:Lay}{b:aN}{w:World}(hbk:bV N l b w)(hcap:b.coins.length≤l.cc) :
  CallsIn Fz 0 Tryz.prog 53 #[.slice l.cb b.coins.length l.cc] w λe w'=>e=.returned (.int .i64 b.fH)∧Below w.heap.size w w':=by
 by_cases h3:3<b.coins.length
 ·have h3':(3:Int)<b.coins.length:=by omega
  gi_enter Tryz.func53,Tryz.ntmps53
  gi_wp2;go_ret;exact⟨dW (show b.fH=2 from gy h3),Below.refl _ _⟩
 ·have h3':¬((3:Int)<b.coins.length):=by omega
  gi_enter Tryz.func53,Tryz.ntmps53
  gi_wp2;gi_loopw [3] (λv wr=>Below w.heap.size w wr∧∃k:Nat,k≤b.coins.length∧v=.int .i64 k∧dU b.jr k=0) (λv _=>b.coins.length-(intOf v).toNat)
  case atStart=>exact⟨Below.refl _ _,0,Nat.zero_le _,rfl,rfl⟩
  case round=>
   obtain⟨HB,k,hk,rfl,hok⟩:=hrel;by_cases hl:k<b.coins.length
   ·have hbr:=hbk.below (HB.mono hbk.hN);obtain⟨B,o,e1,e2,e3⟩:=hbr.cs k [.string b.coins[k]] (by simp[hl]);have c0:=e3 0 _ rfl;simp only[Nat.mul_one,Nat.add_zero]at c0;have hlt:B<wr.heap.size:=aG e2 hbr.hN;have hC1:b.jr k=kL (nmd b.coins[k]) (decide (b.coins[k]∈b.coins.take k)) true true:=by unfold aN.jr;rw[lG hl]
    have hfi:=uX b.coins[k] (b.coins.take k) 0;have hcall:∀w2,Below wr.heap.size wr w2→∀j,CallsIn Fz 0 Tryz.prog 90 #[.slice l.cb k l.cc,.string b.coins[k]] (w2.drewN j) λe w'=>e=.returned (.int .i64 (iM b.coins[k] 0 (b.coins.take k)))∧w'=w2.drewN j:=λw2 h2 j=>
     Find_in (N:=N) (w:=w2.drewN j) (Nat.le_trans hbr.hN h2.size) (λi r hi=>(hbr.cs.below (h2.mono hbr.hN)) i r (OJ hi)) (by rw[List.length_take];omega) (by rw[List.length_take];omega)
    generalize iM b.coins[k] 0 (b.coins.take k)=fr at *;generalize b.coins[k]=s at *;rw[e1]at hcall ⊢;have good:b.jr k=0→dU b.jr (k+1)=0:=λh=>gX hok h;have bad:∀f:Int,f≠0→b.jr k=f→b.fH=f:=λf hf hg=>(dD h3).trans (gY hok hg hf _ hl);have HG:=Lib.hid good;have HBD:=Lib.hid bad;have HC:=Lib.hid hC1;have HE:=Lib.hid e3;have HO:=Lib.hid hok;clear good bad hC1 e3 hok;by_cases hnm:dM s
    ·by_cases hd:s∈b.coins.take k
     ·have hfr:=hfi.2 hd;have HD:=Lib.hid hd;clear hfi hd
      gi_wp2_with (gi_at_call 89;refine(yA hnm _).mono ?_;rintro e w2 ⟨rfl,hb2⟩;have d0:=(hb2.cell (p:=⟨B,o+k,none⟩) hlt).trans c0;have hlt2:=aG hlt hb2.size)
      gi_big_quiet_th (first|(gi_at_call 90;refine CallsIn.quiet_of_same (hcall _ hb2 _)))
      gi_wp2;go_ret;exact⟨dW (HBD.out 5 (by decide) (HC.out.trans (ef5 (fV hnm) (dt HD.out)))),HB.trans ((hb2.mono HB.size).trans ((below_drewN _ nq).mono (Nat.le_trans HB.size hb2.size)))⟩
     ·have hfr:¬(0≤fr):=λq=>hd (hfi.1 q);have HD:=Lib.hid hd;clear hfi hd
      gi_wp2_with (gi_at_call 89;refine(yA hnm _).mono ?_;rintro e w2 ⟨rfl,hb2⟩;have d0:=(hb2.cell (p:=⟨B,o+k,none⟩) hlt).trans c0;have hlt2:=aG hlt hb2.size)
      gi_big_quiet_th (first|(gi_at_call 90;refine CallsIn.quiet_of_same (hcall _ hb2 _)))
      gi_wp2;go_roundw
      case rel=>exact⟨HB.trans ((hb2.mono HB.size).trans ((below_drewN _ nq).mono (Nat.le_trans HB.size hb2.size))),k+1,by omega,by go_num,HG.out (HC.out.trans (ef0 (fV hnm) (df HD.out) rfl rfl))⟩
      case measure=>simp[intOf];omega
    ·clear hfi hcall
     gi_wp2_with (gi_at_call 89;refine(CW hnm _).mono ?_;rintro e w2 ⟨rfl,hb2⟩)
     go_ret;exact⟨dW (HBD.out 4 (by decide) (HC.out.trans (ef4 (BM hnm)))),HB.trans (hb2.mono HB.size)⟩
   ·obtain rfl:k=b.coins.length:=by omega
    have HO:=Lib.hid hok;clear hok;gi_wp2;go_ret;exact⟨dW (show b.fH=0 from(dD h3).trans HO.out),HB⟩
end Go.Proofs.YtnkejaohnhpbpaaGreatDoor
end
section
namespace Go.Proofs.YtnkejaohnhpbpaaGreatDoor
open Go Go.RowKit Lift
set_option maxRecDepth 1000000 in
set_option maxHeartbeats 16000000 in
theorem pO{N:Nat}{l:Lay}{b:aN}{w:World}(hbk:bV N l b w)(hc:b.coins.length<1000000)(ht:b.ts.length<1000000) :
  CallsIn Fz 0 Tryz.prog 54 #[.agg (l.bY b)] w λe w'=>e=.returned (.int .i64 b.iP)∧Below w.heap.size w w':=by
 obtain⟨xcb,xtb,xkb,xpb,xcc,xtc,xkc,xpc⟩:=l;have hb1:Below w.heap.size w (w.alloc (.cells #[.slice xcb b.coins.length xcc,.slice xtb b.ts.length xtc,.slice xkb b.cs.length xkc,.slice xpb b.ps.length xpc] 27)):=(Below.refl _ w).alloc (ay _) _;have hA:=Blk.new w #[.slice xcb b.coins.length xcc,.slice xtb b.ts.length xtc,.slice xkb b.cs.length xkc,.slice xpb b.ps.length xpc] 27;simp only[Lay.bY];have hN1:=hbk.below (hb1.mono hbk.hN);by_cases hbig:4<b.ts.length
 ·have hbig':(4:Int)<b.ts.length:=by omega
  gi_enter Tryz.func54,Tryz.ntmps54
  gi_wp2;go_ret;exact⟨dW (show b.iP=2 from gy hbig),hb1⟩
 ·have hbig':¬((4:Int)<b.ts.length):=by omega
  gi_enter Tryz.func54,Tryz.ntmps54
  gi_wp2;generalize w.alloc _=W at *;have hWs:=hb1.size;gi_loopw [3] (λv wr=>Below W.heap.size W wr∧∃k:Nat,k≤b.ts.length∧v=.int .i64 k∧dU b.mg k=0) (λv _=>b.ts.length-(intOf v).toNat)
  case atStart=>exact⟨Below.refl _ _,0,Nat.zero_le _,rfl,rfl⟩
  case round=>
   obtain⟨HB,k,hk,rfl,hok⟩:=hrel;have hbr:=hN1.below (HB.mono hN1.hN);have hBr:=hA.below HB;have a0:=hBr.cell 0;have a1:=hBr.cell 1;have a2:=hBr.cell 2;have a3:=hBr.cell 3;simp at a0 a1 a2 a3;have hltB:=hBr.lt;by_cases hl:k<b.ts.length
   ·obtain⟨tb,to,e1,e2,e3⟩:=hbr.ts k b.ts[k].row (by simp[hl]);have hatk:b.fQ k=b.ts[k]:=gV hl;have hO1:b.mg k=wS b.coins.length ((b.ts.take k).map (·.name)) b.ts[k]:=by unfold aN.mg;rw[hatk]
    have good:b.mg k=0→dU b.mg (k+1)=0:=λh=>gX hok h;have bad:∀f:Int,f≠0→b.mg k=f→b.iP=f:=λf hf hg=>(dD hbig).trans (gY hok hg hf _ hl);clear hatk;generalize b.ts[k]=x at *;obtain⟨nm,co,ba,ea,fr⟩:=x;have c0:=e3 0 _ rfl;have c1:=e3 1 _ rfl;have c2:=e3 2 _ rfl;have c3:=e3 3 _ rfl;have c4:=e3 4 _ rfl;simp only[Nat.add_zero]at c0;have hlt:tb<wr.heap.size:=aG e2 hbr.hN;dsimp only at e1;subst e1;have hT:=Blk.new wr #[.string nm,.int .i64 co,.int .i64 ba,.int .i64 ea,.int .i64 fr] 69;have hb2:Below wr.heap.size wr (wr.alloc (.cells #[.string nm,.int .i64 co,.int .i64 ba,.int .i64 ea,.int .i64 fr] 69)):=(Below.refl _ wr).alloc (ay _) _;have HG:=Lib.hid good;have HBD:=Lib.hid bad;have HC:=Lib.hid hO1;have HO:=Lib.hid hok;clear good bad hO1 hok e3;by_cases hnm:dM nm
    ·gi_wp2_with (gi_at_call 89;refine(yA hnm _).mono ?_;rintro e w2 ⟨rfl,hb3⟩;have hB3:=hb2.trans (hb3.mono hb2.size);have hT2:=hT.below hb3;have x0:=hT2.cell 0;have x1:=hT2.cell 1;have x2:=hT2.cell 2;have x3:=hT2.cell 3;have x4:=hT2.cell 4;have hB2:=hBr.below hB3;have g0:=hB2.cell 0;have g1:=hB2.cell 1;have g2:=hB2.cell 2;have g3:=hB2.cell 3;simp at x0 x1 x2 x3 x4 g0 g1 g2 g3;have hltT:=hT2.lt;have hltB2:=hB2.lt;clear c0 c1 c2 c3 c4 a0 a1 a2 a3)
     gi_loopw [5] (λv wr=>Below w2.heap.size w2 wr∧∃j:Nat,j≤k∧v=.int .i64 j∧∀i,i<j→(b.fQ i).name≠nm) (λv _=>k-(intOf v).toNat)
     case atStart=>exact⟨Below.refl _ _,0,Nat.zero_le _,rfl,λi hi=>by omega⟩
     case round=>
      obtain⟨HB4,j,hj,rfl,hne⟩:=hrel;have hT4:=hT2.below HB4;have hB4:=hB2.below HB4;have hltT4:=hT4.lt;have hltB4:=hB4.lt;have HALL:=HB.trans ((hB3.trans (HB4.mono hB3.size)).mono HB.size);clear x0 x1 x2 x3 x4 g0 g1 g2 g3;have hbr4:=hN1.below (HALL.mono hN1.hN);have x0:=hT4.cell 0;have x1:=hT4.cell 1;have x2:=hT4.cell 2;have x3:=hT4.cell 3;have x4:=hT4.cell 4;have g0:=hB4.cell 0;have g1:=hB4.cell 1;have g2:=hB4.cell 2;have g3:=hB4.cell 3;simp at x0 x1 x2 x3 x4 g0 g1 g2 g3;by_cases hlj:j<k
      ·obtain⟨tb',to',f1,f2,f3⟩:=hbr4.ts j (b.fQ j).row (by rw[List.getElem?_map,List.getElem?_eq_getElem (by omega),gV (by omega)];rfl);dsimp only at f1;cases f1;have d0:=f3 0 _ rfl;simp only[Nat.add_zero]at d0;have hlt4:=aG f2 hbr4.hN;have HN:=Lib.hid hne;clear f3 hne;have hlk:(j:Int)<b.ts.length:=by omega
       obtain⟨nj,hnj⟩:∃nj,(b.fQ j).name=nj:=⟨_,rfl⟩
       rw[hnj]at d0;have HNJ:=Lib.hid hnj;clear hnj;by_cases hq:nj=nm
       ·have hq':=eqb_t hq
        gi_wp2_with fail
        gi_big_quiet_th (fail)
        gi_wp2;go_ret;exact⟨dW (HBD.out 5 (by decide) (HC.out.trans (ef5 (fV hnm) (dt (vg (f:=jI.name) (d:=⟨⟨#[]⟩,0,0,0,0⟩) (Nat.le_of_lt hl) hlj (HNJ.out.trans hq)))))),hb1.trans ((HALL.trans ((below_drewN _ nq).mono HALL.size)).mono hWs)⟩
       ·have hq':=Nq hq
        gi_wp2_with fail
        gi_big_quiet_th (fail)
        gi_wp2;go_roundw
        case rel=>exact⟨HB4.trans ((below_drewN _ nq).mono HB4.size),j+1,by omega,by go_num,λi hi=>by
         by_cases e:i=j
         ·subst e;rw[HNJ.out];exact hq
         ·exact HN.out i (by omega)⟩
        case measure=>simp[intOf];omega
      ·obtain rfl:j=k:=by omega
       have HN:=Lib.hid hne;clear hne;have HNI:Hid (nm∉(b.ts.take j).map (·.name)):=mX (f:=jI.name) (d:=⟨⟨#[]⟩,0,0,0,0⟩) (Nat.le_of_lt hl) HN.out;have hjj:¬((j:Int)<(j:Int)):=by omega
       have hcoinT:0≤co∧co<b.coins.length→∀w5,CallsIn Fz 0 Tryz.prog 61 #[.agg #[.slice xcb b.coins.length xcc,.slice (some ⟨tb,to,none⟩) b.ts.length xtc,.slice xkb b.cs.length xkc,.slice xpb b.ps.length xpc],.int .i64 co] w5 λe w'=>e=.returned (.bool true)∧Below w5.heap.size w5 w':=λq w5=>
        iG (l:=⟨xcb,some ⟨tb,to,none⟩,xkb,xpb,xcc,xtc,xkc,xpc⟩) (b:=b) (w:=w5) q hc
       have hcoinF:¬(0≤co∧co<b.coins.length)→∀w5,CallsIn Fz 0 Tryz.prog 61 #[.agg #[.slice xcb b.coins.length xcc,.slice (some ⟨tb,to,none⟩) b.ts.length xtc,.slice xkb b.cs.length xkc,.slice xpb b.ps.length xpc],.int .i64 co] w5 λe w'=>e=.returned (.bool false)∧Below w5.heap.size w5 w':=λq w5=>
        wE (l:=⟨xcb,some ⟨tb,to,none⟩,xkb,xpb,xcc,xtc,xkc,xpc⟩) (b:=b) (w:=w5) q hc
       by_cases q0:0≤co∧co<b.coins.length
       ·by_cases q1:0≤ba∧ba≤10000
        ·by_cases q2:0≤ea∧ea≤10000
         ·by_cases q3:0≤fr∧fr≤45
          ·gi_wp2_with (first|(gi_at_call 61;with_reducible refine(hcoinT q0 _).mono ?_;rintro e w5 ⟨rfl,hb5⟩;have hT5:=hT4.below hb5;have y0:=hT5.cell 0;have y1:=hT5.cell 1;have y2:=hT5.cell 2;have y3:=hT5.cell 3;have y4:=hT5.cell 4;simp at y0 y1 y2 y3 y4;have hltT5:=hT5.lt)|(gi_at_call 78;with_reducible refine(jg ba 0 10000 _ (by omega)).mono ?_;rintro e w5 ⟨rfl,rfl⟩)|(gi_at_call 78;with_reducible refine(jg ea 0 10000 _ (by omega)).mono ?_;rintro e w5 ⟨rfl,rfl⟩)|(gi_at_call 78;with_reducible refine(jg fr 0 45 _ (by omega)).mono ?_;rintro e w5 ⟨rfl,rfl⟩))
           go_roundw
           case rel=>exact⟨(HALL.trans (hb5.mono HALL.size)),j+1,by omega,by go_num,HG.out (HC.out.trans (ef0 (fV hnm) (df HNI.out) (dt q0) (dt ⟨q1,q2,q3⟩)))⟩
           case measure=>simp[intOf];omega
          ·gi_wp2_with (first|(gi_at_call 61;with_reducible refine(hcoinT q0 _).mono ?_;rintro e w5 ⟨rfl,hb5⟩;have hT5:=hT4.below hb5;have y0:=hT5.cell 0;have y1:=hT5.cell 1;have y2:=hT5.cell 2;have y3:=hT5.cell 3;have y4:=hT5.cell 4;simp at y0 y1 y2 y3 y4;have hltT5:=hT5.lt)|(gi_at_call 78;with_reducible refine(jg ba 0 10000 _ (by omega)).mono ?_;rintro e w5 ⟨rfl,rfl⟩)|(gi_at_call 78;with_reducible refine(jg ea 0 10000 _ (by omega)).mono ?_;rintro e w5 ⟨rfl,rfl⟩)|(gi_at_call 78;with_reducible refine(sW fr 0 45 _ (by omega)).mono ?_;rintro e w5 ⟨rfl,rfl⟩))
           go_ret;exact⟨dW (HBD.out 1 (by decide) (HC.out.trans (ef1 (fV hnm) (df HNI.out) (dt q0) (df λq=>q3 q.2.2)))),hb1.trans ((HALL.trans (hb5.mono HALL.size)).mono hWs)⟩
         ·gi_wp2_with (first|(gi_at_call 61;with_reducible refine(hcoinT q0 _).mono ?_;rintro e w5 ⟨rfl,hb5⟩;have hT5:=hT4.below hb5;have y0:=hT5.cell 0;have y1:=hT5.cell 1;have y2:=hT5.cell 2;have y3:=hT5.cell 3;have y4:=hT5.cell 4;simp at y0 y1 y2 y3 y4;have hltT5:=hT5.lt)|(gi_at_call 78;with_reducible refine(jg ba 0 10000 _ (by omega)).mono ?_;rintro e w5 ⟨rfl,rfl⟩)|(gi_at_call 78;with_reducible refine(sW ea 0 10000 _ (by omega)).mono ?_;rintro e w5 ⟨rfl,rfl⟩))
          go_ret;exact⟨dW (HBD.out 1 (by decide) (HC.out.trans (ef1 (fV hnm) (df HNI.out) (dt q0) (df λq=>q2 q.2.1)))),hb1.trans ((HALL.trans (hb5.mono HALL.size)).mono hWs)⟩
        ·gi_wp2_with (first|(gi_at_call 61;with_reducible refine(hcoinT q0 _).mono ?_;rintro e w5 ⟨rfl,hb5⟩;have hT5:=hT4.below hb5;have y0:=hT5.cell 0;have y1:=hT5.cell 1;have y2:=hT5.cell 2;have y3:=hT5.cell 3;have y4:=hT5.cell 4;simp at y0 y1 y2 y3 y4;have hltT5:=hT5.lt)|(gi_at_call 78;with_reducible refine(sW ba 0 10000 _ (by omega)).mono ?_;rintro e w5 ⟨rfl,rfl⟩))
         go_ret;exact⟨dW (HBD.out 1 (by decide) (HC.out.trans (ef1 (fV hnm) (df HNI.out) (dt q0) (df λq=>q1 q.1)))),hb1.trans ((HALL.trans (hb5.mono HALL.size)).mono hWs)⟩
       ·gi_wp2_with (first|(gi_at_call 61;with_reducible refine(hcoinF q0 _).mono ?_;rintro e w5 ⟨rfl,hb5⟩))
        go_ret;exact⟨dW (HBD.out 6 (by decide) (HC.out.trans (ef6 (fV hnm) (df HNI.out) (df q0)))),hb1.trans ((HALL.trans (hb5.mono HALL.size)).mono hWs)⟩
    ·gi_wp2_with (gi_at_call 89;refine(CW hnm _).mono ?_;rintro e w2 ⟨rfl,hb3⟩)
     go_ret;exact⟨dW (HBD.out 4 (by decide) (HC.out.trans (ef4 (BM hnm)))),hb1.trans ((HB.trans ((hb2.trans (hb3.mono hb2.size)).mono HB.size)).mono hWs)⟩
   ·obtain rfl:k=b.ts.length:=by omega
    have HO:=Lib.hid hok;clear hok;gi_wp2;go_ret;exact⟨dW (show b.iP=0 from(dD hbig).trans HO.out),hb1.trans (HB.mono hWs)⟩
end Go.Proofs.YtnkejaohnhpbpaaGreatDoor
end
section
namespace Go.Proofs.YtnkejaohnhpbpaaGreatDoor
open Go Go.RowKit Lift
set_option maxRecDepth 1000000 in
set_option maxHeartbeats 16000000 in
theorem rX{N:Nat}{l:Lay}{b:aN}{w:World}(hbk:bV N l b w)(hc:b.coins.length<1000000)(ht:b.ts.length<1000000) :
  CallsIn Fz 0 Tryz.prog 55 #[.agg (l.bY b)] w λe w'=>e=.returned (.int .i64 b.je)∧Below w.heap.size w w':=by
 obtain⟨xcb,xtb,xkb,xpb,xcc,xtc,xkc,xpc⟩:=l;have hb1:Below w.heap.size w (w.alloc (.cells #[.slice xcb b.coins.length xcc,.slice xtb b.ts.length xtc,.slice xkb b.cs.length xkc,.slice xpb b.ps.length xpc] 27)):=(Below.refl _ w).alloc (ay _) _;have hA:=Blk.new w #[.slice xcb b.coins.length xcc,.slice xtb b.ts.length xtc,.slice xkb b.cs.length xkc,.slice xpb b.ps.length xpc] 27;simp only[Lay.bY];have hN1:=hbk.below (hb1.mono hbk.hN);by_cases hbig:6<b.cs.length
 ·have hbig':(6:Int)<b.cs.length:=by omega
  gi_enter Tryz.func55,Tryz.ntmps55
  gi_wp2;go_ret;exact⟨dW (show b.je=2 from gy hbig),hb1⟩
 ·have hbig':¬((6:Int)<b.cs.length):=by omega
  gi_enter Tryz.func55,Tryz.ntmps55
  gi_wp2;generalize w.alloc _=W at *;have hWs:=hb1.size;gi_loopw [3] (λv wr=>Below W.heap.size W wr∧∃k:Nat,k≤b.cs.length∧v=.int .i64 k∧dU b.lC k=0) (λv _=>b.cs.length-(intOf v).toNat)
  case atStart=>exact⟨Below.refl _ _,0,Nat.zero_le _,rfl,rfl⟩
  case round=>
   obtain⟨HB,k,hk,rfl,hok⟩:=hrel;have hbr:=hN1.below (HB.mono hN1.hN);have hBr:=hA.below HB;have a0:=hBr.cell 0;have a1:=hBr.cell 1;have a2:=hBr.cell 2;have a3:=hBr.cell 3;simp at a0 a1 a2 a3;have hltB:=hBr.lt;by_cases hl:k<b.cs.length
   ·obtain⟨tb,to,e1,e2,e3⟩:=hbr.ks k b.cs[k].row (by simp[hl]);have hatk:b.aV k=b.cs[k]:=gK hl;have hO1:b.lC k=uP b.ts.length ((b.cs.take k).map (·.name)) b.cs[k]:=by unfold aN.lC;rw[hatk]
    have good:b.lC k=0→dU b.lC (k+1)=0:=λh=>gX hok h;have bad:∀f:Int,f≠0→b.lC k=f→b.je=f:=λf hf hg=>(dD hbig).trans (gY hok hg hf _ hl);clear hatk;generalize b.cs[k]=x at *;obtain⟨nm,tr,cl,du,gr,ex⟩:=x;have c0:=e3 0 _ rfl;have c1:=e3 1 _ rfl;have c2:=e3 2 _ rfl;have c3:=e3 3 _ rfl;have c4:=e3 4 _ rfl;have c5:=e3 5 _ rfl;simp only[Nat.add_zero]at c0;have hlt:tb<wr.heap.size:=aG e2 hbr.hN;dsimp only at e1;subst e1;have hT:=Blk.new wr #[.string nm,.int .i64 tr,.int .i64 cl,.int .i64 du,.int .i64 gr,.int .i64 ex] 60;have hb2:Below wr.heap.size wr (wr.alloc (.cells #[.string nm,.int .i64 tr,.int .i64 cl,.int .i64 du,.int .i64 gr,.int .i64 ex] 60)):=(Below.refl _ wr).alloc (ay _) _;have HG:=Lib.hid good;have HBD:=Lib.hid bad;have HC:=Lib.hid hO1;have HO:=Lib.hid hok;clear good bad hO1 hok e3;by_cases hnm:dM nm
    ·gi_wp2_with (gi_at_call 89;refine(yA hnm _).mono ?_;rintro e w2 ⟨rfl,hb3⟩;have hB3:=hb2.trans (hb3.mono hb2.size);have hT2:=hT.below hb3;have x0:=hT2.cell 0;have x1:=hT2.cell 1;have x2:=hT2.cell 2;have x3:=hT2.cell 3;have x4:=hT2.cell 4;have x5:=hT2.cell 5;have hB2:=hBr.below hB3;have g0:=hB2.cell 0;have g1:=hB2.cell 1;have g2:=hB2.cell 2;have g3:=hB2.cell 3;simp at x0 x1 x2 x3 x4 x5 g0 g1 g2 g3;have hltT:=hT2.lt;have hltB2:=hB2.lt;clear c0 c1 c2 c3 c4 c5 a0 a1 a2 a3)
     gi_loopw [5] (λv wr=>Below w2.heap.size w2 wr∧∃j:Nat,j≤k∧v=.int .i64 j∧∀i,i<j→(b.aV i).name≠nm) (λv _=>k-(intOf v).toNat)
     case atStart=>exact⟨Below.refl _ _,0,Nat.zero_le _,rfl,λi hi=>by omega⟩
     case round=>
      obtain⟨HB4,j,hj,rfl,hne⟩:=hrel;have hT4:=hT2.below HB4;have hB4:=hB2.below HB4;have hltT4:=hT4.lt;have hltB4:=hB4.lt;have HALL:=HB.trans ((hB3.trans (HB4.mono hB3.size)).mono HB.size);clear x0 x1 x2 x3 x4 x5 g0 g1 g2 g3;have hbr4:=hN1.below (HALL.mono hN1.hN);have x0:=hT4.cell 0;have x1:=hT4.cell 1;have x2:=hT4.cell 2;have x3:=hT4.cell 3;have x4:=hT4.cell 4;have x5:=hT4.cell 5;have g0:=hB4.cell 0;have g1:=hB4.cell 1;have g2:=hB4.cell 2;have g3:=hB4.cell 3;simp at x0 x1 x2 x3 x4 x5 g0 g1 g2 g3;by_cases hlj:j<k
      ·obtain⟨tb',to',f1,f2,f3⟩:=hbr4.ks j (b.aV j).row (by rw[List.getElem?_map,List.getElem?_eq_getElem (by omega),gK (by omega)];rfl);dsimp only at f1;cases f1;have d0:=f3 0 _ rfl;simp only[Nat.add_zero]at d0;have hlt4:=aG f2 hbr4.hN;have HN:=Lib.hid hne;clear f3 hne;have hlk:(j:Int)<b.cs.length:=by omega
       obtain⟨nj,hnj⟩:∃nj,(b.aV j).name=nj:=⟨_,rfl⟩
       rw[hnj]at d0;have HNJ:=Lib.hid hnj;clear hnj;by_cases hq:nj=nm
       ·have hq':=eqb_t hq
        gi_wp2_with fail
        gi_big_quiet_th (fail)
        gi_wp2;go_ret;exact⟨dW (HBD.out 5 (by decide) (HC.out.trans (ef5 (fV hnm) (dt (vg (f:=jH.name) (d:=⟨⟨#[]⟩,0,0,0,0,0⟩) (Nat.le_of_lt hl) hlj (HNJ.out.trans hq)))))),hb1.trans ((HALL.trans ((below_drewN _ nq).mono HALL.size)).mono hWs)⟩
       ·have hq':=Nq hq
        gi_wp2_with fail
        gi_big_quiet_th (fail)
        gi_wp2;go_roundw
        case rel=>exact⟨HB4.trans ((below_drewN _ nq).mono HB4.size),j+1,by omega,by go_num,λi hi=>by
         by_cases e:i=j
         ·subst e;rw[HNJ.out];exact hq
         ·exact HN.out i (by omega)⟩
        case measure=>simp[intOf];omega
      ·obtain rfl:j=k:=by omega
       have HN:=Lib.hid hne;clear hne;have HNI:Hid (nm∉(b.cs.take j).map (·.name)):=mX (f:=jH.name) (d:=⟨⟨#[]⟩,0,0,0,0,0⟩) (Nat.le_of_lt hl) HN.out;have hjj:¬((j:Int)<(j:Int)):=by omega
       by_cases q0:0≤tr∧tr<b.ts.length
       ·by_cases q1:0≤cl∧cl≤45
        ·by_cases q2:0≤du∧du≤9999
         ·by_cases q3:0≤gr∧gr≤999
          ·by_cases q4:0≤ex∧ex≤10000
           ·gi_wp2_with (first|(gi_at_call 78;with_reducible refine(jg tr 0 ((b.ts.length:Int) - 1) _ (by omega)).mono ?_;rintro e w5 ⟨rfl,rfl⟩)|(gi_at_call 78;with_reducible refine(jg cl 0 45 _ (by omega)).mono ?_;rintro e w5 ⟨rfl,rfl⟩)|(gi_at_call 47;with_reducible refine(jU du _ q2).mono ?_;rintro e w5 ⟨rfl,rfl⟩)|(gi_at_call 78;with_reducible refine(jg gr 0 999 _ (by omega)).mono ?_;rintro e w5 ⟨rfl,rfl⟩)|(gi_at_call 78;with_reducible refine(jg ex 0 10000 _ (by omega)).mono ?_;rintro e w5 ⟨rfl,rfl⟩))
            go_roundw
            case rel=>exact⟨HALL,j+1,by omega,by go_num,HG.out (HC.out.trans (ef0 (fV hnm) (df HNI.out) (dt q0) (dt ⟨q1,q2,q3,q4⟩)))⟩
            case measure=>simp[intOf];omega
           ·gi_wp2_with (first|(gi_at_call 78;with_reducible refine(jg tr 0 ((b.ts.length:Int) - 1) _ (by omega)).mono ?_;rintro e w5 ⟨rfl,rfl⟩)|(gi_at_call 78;with_reducible refine(jg cl 0 45 _ (by omega)).mono ?_;rintro e w5 ⟨rfl,rfl⟩)|(gi_at_call 47;with_reducible refine(jU du _ q2).mono ?_;rintro e w5 ⟨rfl,rfl⟩)|(gi_at_call 78;with_reducible refine(jg gr 0 999 _ (by omega)).mono ?_;rintro e w5 ⟨rfl,rfl⟩)|(gi_at_call 78;with_reducible refine(sW ex 0 10000 _ (by omega)).mono ?_;rintro e w5 ⟨rfl,rfl⟩))
            go_ret;exact⟨dW (HBD.out 1 (by decide) (HC.out.trans (ef1 (fV hnm) (df HNI.out) (dt q0) (df λq=>q4 q.2.2.2)))),hb1.trans (HALL.mono hWs)⟩
          ·gi_wp2_with (first|(gi_at_call 78;with_reducible refine(jg tr 0 ((b.ts.length:Int) - 1) _ (by omega)).mono ?_;rintro e w5 ⟨rfl,rfl⟩)|(gi_at_call 78;with_reducible refine(jg cl 0 45 _ (by omega)).mono ?_;rintro e w5 ⟨rfl,rfl⟩)|(gi_at_call 47;with_reducible refine(jU du _ q2).mono ?_;rintro e w5 ⟨rfl,rfl⟩)|(gi_at_call 78;with_reducible refine(sW gr 0 999 _ (by omega)).mono ?_;rintro e w5 ⟨rfl,rfl⟩))
           go_ret;exact⟨dW (HBD.out 1 (by decide) (HC.out.trans (ef1 (fV hnm) (df HNI.out) (dt q0) (df λq=>q3 q.2.2.1)))),hb1.trans (HALL.mono hWs)⟩
         ·gi_wp2_with (first|(gi_at_call 78;with_reducible refine(jg tr 0 ((b.ts.length:Int) - 1) _ (by omega)).mono ?_;rintro e w5 ⟨rfl,rfl⟩)|(gi_at_call 78;with_reducible refine(jg cl 0 45 _ (by omega)).mono ?_;rintro e w5 ⟨rfl,rfl⟩)|(gi_at_call 47;with_reducible refine(I8 du _ q2).mono ?_;rintro e w5 ⟨rfl,rfl⟩))
          go_ret;exact⟨dW (HBD.out 1 (by decide) (HC.out.trans (ef1 (fV hnm) (df HNI.out) (dt q0) (df λq=>q2 q.2.1)))),hb1.trans (HALL.mono hWs)⟩
        ·gi_wp2_with (first|(gi_at_call 78;with_reducible refine(jg tr 0 ((b.ts.length:Int) - 1) _ (by omega)).mono ?_;rintro e w5 ⟨rfl,rfl⟩)|(gi_at_call 78;with_reducible refine(sW cl 0 45 _ (by omega)).mono ?_;rintro e w5 ⟨rfl,rfl⟩))
         go_ret;exact⟨dW (HBD.out 1 (by decide) (HC.out.trans (ef1 (fV hnm) (df HNI.out) (dt q0) (df λq=>q1 q.1)))),hb1.trans (HALL.mono hWs)⟩
       ·gi_wp2_with (first|(gi_at_call 78;with_reducible refine(sW tr 0 ((b.ts.length:Int) - 1) _ (by omega)).mono ?_;rintro e w5 ⟨rfl,rfl⟩))
        go_ret;exact⟨dW (HBD.out 6 (by decide) (HC.out.trans (ef6 (fV hnm) (df HNI.out) (df q0)))),hb1.trans (HALL.mono hWs)⟩
    ·gi_wp2_with (gi_at_call 89;refine(CW hnm _).mono ?_;rintro e w2 ⟨rfl,hb3⟩)
     go_ret;exact⟨dW (HBD.out 4 (by decide) (HC.out.trans (ef4 (BM hnm)))),hb1.trans ((HB.trans ((hb2.trans (hb3.mono hb2.size)).mono HB.size)).mono hWs)⟩
   ·obtain rfl:k=b.cs.length:=by omega
    have HO:=Lib.hid hok;clear hok;gi_wp2;go_ret;exact⟨dW (show b.je=0 from(dD hbig).trans HO.out),hb1.trans (HB.mono hWs)⟩
end Go.Proofs.YtnkejaohnhpbpaaGreatDoor
end
