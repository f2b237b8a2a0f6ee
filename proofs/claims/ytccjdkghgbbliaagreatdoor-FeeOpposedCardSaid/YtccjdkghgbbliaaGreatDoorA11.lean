/- The specification's small functions, inside the fence. -/
import Derived.Test.YtccjdkghgbbliaaGreatDoorA10
set_option linter.all false
namespace Go.Proofs.YtccjdkghgbbliaaGreatDoor
section
set_option maxHeartbeats 1000000
set_option maxRecDepth 10000
open Go Go.RowKit Lift
theorem In_in(a b c:Int)(w:World):CallsIn Fz 0 Tryz.prog 76 #[.int .i64 a,.int .i64 b,.int .i64 c] w λe w'=>e=.returned (.bool (decide (b≤a)&&decide (a≤c)))∧w'=w:=by
 gi_enter Tryz.func76,Tryz.ntmps76
 gi_wp2
 ·go_ret;rename_i h;simp[h]
 ·go_ret;rename_i h;have:¬b≤a:=by omega
  simp[this]
theorem jM(a b c:Int)(w:World)(h:b≤a∧a≤c):CallsIn Fz 0 Tryz.prog 76 #[.int .i64 a,.int .i64 b,.int .i64 c] w λe w'=>e=.returned (.bool true)∧w'=w:=by
 have k:=In_in a b c w;rw[show(decide (b≤a)&&decide (a≤c))=true by simp[h]]at k;exact k
theorem uH(a b c:Int)(w:World)(h:¬(b≤a∧a≤c)):CallsIn Fz 0 Tryz.prog 76 #[.int .i64 a,.int .i64 b,.int .i64 c] w λe w'=>e=.returned (.bool false)∧w'=w:=by
 have k:=In_in a b c w;rw[show(decide (b≤a)&&decide (a≤c))=false by rw[Bool.and_eq_false_iff,decide_eq_false_iff_not,decide_eq_false_iff_not];omega]at k;exact k
theorem GY(a:Int)(w:World)(h:0≤a∧a≤9999):CallsIn Fz 0 Tryz.prog 134 #[.int .i64 a] w λe w'=>e=.returned (.bool true)∧w'=w:=by
 gi_enter Tryz.func134,Tryz.ntmps134
 gi_wp2_with (gi_at_call 76;refine(jM _ _ _ _ h).mono ?_;rintro e w' ⟨rfl,rfl⟩)
 go_ret;exact⟨rfl,rfl⟩
theorem Uk(a:Int)(w:World)(h:¬(0≤a∧a≤9999)):CallsIn Fz 0 Tryz.prog 134 #[.int .i64 a] w λe w'=>e=.returned (.bool false)∧w'=w:=by
 gi_enter Tryz.func134,Tryz.ntmps134
 gi_wp2_with (gi_at_call 76;refine(uH _ _ _ _ h).mono ?_;rintro e w' ⟨rfl,rfl⟩)
 go_ret;exact⟨rfl,rfl⟩
def okAt(s:ByteArray)(i:Nat):Prop:=∀x,s.data.toList[i]?=some x→(97≤x.toNat∧x.toNat≤122)∨(48≤x.toNat∧x.toNat≤57)∧i≠0
set_option maxRecDepth 100000 in
set_option maxHeartbeats 16000000 in
theorem H9(s:ByteArray)(w:World):CallsIn Fz 0 Tryz.prog 131 #[.string s] w λe w'=>(∃r:Bool,e=.returned (.bool r)∧(r=true↔bY s))∧Below w.heap.size w w':=by
 rw[show(bY s)=((s.size≠0∧s.size≤10)∧∀i,okAt s i)from propext (LX s)];by_cases h0:s.size=0
 ·have e0:(s.size:Int)=0:=by omega
  gi_enter Tryz.func131,Tryz.ntmps131
  gi_wp2;go_ret;exact⟨⟨false,rfl,by simp[h0]⟩,Below.refl _ _⟩
 ·have e0:¬((s.size:Int)=0):=by omega
  by_cases h10:10<s.size
  ·have e1:(10:Int)<s.size:=by omega
   gi_enter Tryz.func131,Tryz.ntmps131
   gi_wp2;go_ret;exact⟨⟨false,rfl,by simp;omega⟩,Below.refl _ _⟩
  ·have e1:¬((10:Int)<s.size):=by omega
   gi_enter Tryz.func131,Tryz.ntmps131
   gi_wp2;gi_loopw [3] (λv wr=>Below w.heap.size w wr∧∃k:Nat,k≤s.size∧v=.int .i64 k∧∀i,i<k→okAt s i) (λv _=>s.size-(intOf v).toNat)
   case atStart=>exact⟨Below.refl _ _,0,Nat.zero_le _,rfl,λi hi=>by omega⟩
   case round=>
    obtain⟨HB,k,hk,rfl,hok⟩:=hrel;by_cases hl:k<s.size
    ·obtain⟨x,hx⟩:∃x:UInt8,s[k]'hl=x:=⟨_,rfl⟩
     have hxl:s.data.toList[k]?=some x:=by rw[← hx];exact Lib.data_getElem? s k hl
     have Hx:=Lib.hid hxl;have HK:=Lib.hid hok;clear hxl hok;have hiz:(k:Int)<(s.size:Int):=by omega
     have hx256:(x.toNat:Int)<256:=by have:=UInt8.toNat_lt x;omega
     have good:okAt s k→∀i,i<k+1→okAt s i:=λh i hi=>by
      by_cases e:i=k
      ·subst e;exact h
      ·exact HK.out i (by omega)
     have HG:=Lib.hid good;clear good;by_cases hlet:(97:Int)≤x.toNat∧(x.toNat:Int)≤122
     ·by_cases hdig:(48:Int)≤x.toNat∧(x.toNat:Int)≤57
      ·omega
      ·gi_wp2_with fail
       gi_big_quiet_th (first|(gi_at_call 76;refine CallsIn.quiet_of_same (jM _ _ _ _ (by omega)))|(gi_at_call 76;refine CallsIn.quiet_of_same (uH _ _ _ _ (by omega))))
       gi_wp2;go_roundw
       case rel=>exact⟨HB.trans ((below_drewN _ nq).mono HB.size),k+1,by omega,by go_num,HG.out λy hy=>by rw[Hx.out]at hy;cases hy;exact .inl (by omega)⟩
       case measure=>simp[intOf];omega
     ·by_cases hdig:(48:Int)≤x.toNat∧(x.toNat:Int)≤57
      ·by_cases hk0:k=0
       ·subst hk0
        gi_wp2_with fail
        gi_big_quiet_th (first|(gi_at_call 76;refine CallsIn.quiet_of_same (jM _ _ _ _ (by omega)))|(gi_at_call 76;refine CallsIn.quiet_of_same (uH _ _ _ _ (by omega))))
        gi_wp2;go_ret;exact⟨⟨false,rfl,by
         simp only[Bool.false_eq_true,false_iff];exact λh=>by
          rcases h.2 0 x Hx.out with q|q
          ·omega
          ·exact q.2 rfl⟩,HB.trans ((below_drewN _ nq).mono HB.size)⟩
       ·have hk0':¬((k:Int)=0):=by omega
        gi_wp2_with fail
        gi_big_quiet_th (first|(gi_at_call 76;refine CallsIn.quiet_of_same (jM _ _ _ _ (by omega)))|(gi_at_call 76;refine CallsIn.quiet_of_same (uH _ _ _ _ (by omega))))
        gi_wp2;go_roundw
        case rel=>exact⟨HB.trans ((below_drewN _ nq).mono HB.size),k+1,by omega,by go_num,HG.out λy hy=>by rw[Hx.out]at hy;cases hy;exact .inr ⟨by omega,hk0⟩⟩
        case measure=>simp[intOf];omega
      ·gi_wp2_with fail
       gi_big_quiet_th (first|(gi_at_call 76;refine CallsIn.quiet_of_same (jM _ _ _ _ (by omega)))|(gi_at_call 76;refine CallsIn.quiet_of_same (uH _ _ _ _ (by omega))))
       gi_wp2;go_ret;exact⟨⟨false,rfl,by
        simp only[Bool.false_eq_true,false_iff];exact λh=>by
         rcases h.2 k x Hx.out with q|q<;>omega⟩,HB.trans ((below_drewN _ nq).mono HB.size)⟩
    ·obtain rfl:k=s.size:=by omega
     have HK:=Lib.hid hok;clear hok;gi_wp2;go_ret;refine⟨⟨true,rfl,?_⟩,HB⟩;simp only[true_iff];refine⟨⟨h0,by omega⟩,λi x hx=>HK.out i ?_ x hx⟩;have:=(List.getElem?_eq_some_iff.1 hx).1;rw[← Lib.size_eq]at this;exact this
theorem zB{s:ByteArray}(h:bY s)(w:World):CallsIn Fz 0 Tryz.prog 131 #[.string s] w λe w'=>e=.returned (.bool true)∧Below w.heap.size w w':=
 (H9 s w).mono λe w' ⟨⟨r,he,hr⟩,hb⟩=>⟨by rw[he,hr.2 h],hb⟩
theorem Fq{s:ByteArray}(h:¬bY s)(w:World):CallsIn Fz 0 Tryz.prog 131 #[.string s] w λe w'=>e=.returned (.bool false)∧Below w.heap.size w w':=
 (H9 s w).mono λe w' ⟨⟨r,he,hr⟩,hb⟩=>⟨by
  cases r with
  |false=>exact he
  |true=>exact absurd (hr.1 rfl) h,hb⟩
theorem RN{x s:ByteArray}(h:¬x=s):(x.toList==s.toList)=false:=by
 rw[Lib.toList_data,Lib.toList_data];refine Bool.eq_false_iff.2 λe=>h ?_;have:=eq_of_beq e;obtain⟨⟨x⟩⟩:=x;obtain⟨⟨s⟩⟩:=s;simp only at this;rw[this]
theorem eqb_t{x s:ByteArray}(h:x=s):(x.toList==s.toList)=true:=by rw[h];exact beq_self_eq_true _
def iF(s:ByteArray):Nat→List ByteArray→Int
 |_,[]=>-1
 |i,x::l=>if x=s then(i:Int)else iF s (i+1) l
theorem Dj(s x:ByteArray)(i:Nat)(l:List ByteArray):iF s i (x::l)=if x=s then(i:Int)else iF s (i+1) l:=rfl
theorem wz(s:ByteArray):∀(l:List ByteArray) (i:Nat),0≤iF s i l↔s∈l
 | [],i=>by simp[iF]
 |x::l,i=>by
  unfold iF;split
  ·rename_i h;subst h;simp
  ·rename_i h;rw[wz s l (i+1)];simp[Ne.symm h]
set_option maxHeartbeats 16000000 in
theorem Find_in{N:Nat}{cb:Option Addr}{cap n:Nat}{xs:List ByteArray}{s:ByteArray}{w:World}(hN:N≤w.heap.size)(hr:bD N cb 1 (xs.map λs=>[.string s]) w)(hlen:xs.length=n)(hn:xs.length<1000000) :
  CallsIn Fz 0 Tryz.prog 132 #[.slice cb n cap,.string s] w λe w'=>e=.returned (.int .i64 (iF s 0 xs))∧w'=w:=by
 subst hlen;gi_enter Tryz.func132,Tryz.ntmps132
 gi_wp2;gi_loopw [5] (λv wr=>w=wr∧∃k:Nat,k≤xs.length∧v=.int .i64 k∧iF s 0 xs=iF s k (xs.drop k)) (λv _=>xs.length-(intOf v).toNat)
 case atStart=>exact⟨rfl,0,Nat.zero_le _,rfl,rfl⟩
 case round=>
  obtain⟨rfl,k,hk,rfl,hf⟩:=hrel;by_cases hl:k<xs.length
  ·obtain⟨B,o,e1,e2,e3⟩:=hr k [.string xs[k]] (by simp[hl]);have c0:=e3 0 _ rfl;simp only[Nat.mul_one,Nat.add_zero]at c0;have hlt:B<w.heap.size:=aB e2 hN;rw[List.drop_eq_getElem_cons hl]at hf;clear e3 hr;subst e1;obtain⟨x,hx⟩:∃x,xs[k]=x:=⟨_,rfl⟩
   rw[hx]at c0 hf;clear hx;rw[Dj]at hf;by_cases he:x=s
   ·rw[if_pos he]at hf;subst he;have HF:=Lib.hid hf;clear hf;gi_wp2;go_ret;exact⟨by rw[HF.out];rfl,rfl⟩
   ·rw[if_neg he]at hf;have HF:=Lib.hid hf;have he':=RN he;clear hf;gi_wp2;go_roundw
    case rel=>exact⟨by trivial,k+1,by omega,by go_num,HF.out⟩
    case measure=>simp[intOf];omega
  ·obtain rfl:k=xs.length:=by omega
   rw[List.drop_length]at hf;have HF:=Lib.hid hf;clear hf;gi_wp2;go_ret;exact⟨by rw[HF.out];rfl,rfl⟩
theorem Ez{l:Lay}{b:aO}{n:Int}{w:World}(h:0≤n∧n<b.aK.length)(hs:b.aK.length<1000000):CallsIn Fz 0 Tryz.prog 133 #[.agg (l.bn b),.int .i64 n] w λe w'=>e=.returned (.bool true)∧Below w.heap.size w w':=by
 gi_enter Tryz.func133,Tryz.ntmps133
 gi_wp2_with (gi_at_call 76;refine(jM _ _ _ _ (by omega)).mono ?_;rintro e w' ⟨rfl,rfl⟩)
 go_ret;exact⟨rfl,(Below.refl _ w).alloc (ak _) _⟩
theorem Ey{l:Lay}{b:aO}{n:Int}{w:World}(h:¬(0≤n∧n<b.aK.length))(hs:b.aK.length<1000000):CallsIn Fz 0 Tryz.prog 133 #[.agg (l.bn b),.int .i64 n] w λe w'=>e=.returned (.bool false)∧Below w.heap.size w w':=by
 gi_enter Tryz.func133,Tryz.ntmps133
 gi_wp2_with (gi_at_call 76;refine(uH _ _ _ _ (by omega)).mono ?_;rintro e w' ⟨rfl,rfl⟩)
 go_ret;exact⟨rfl,(Below.refl _ w).alloc (ak _) _⟩
theorem PD{l:Lay}{b:aO}{n:Int}{w:World}(h:0≤n∧n<b.cs.length)(hs:b.cs.length<1000000):CallsIn Fz 0 Tryz.prog 135 #[.agg (l.bn b),.int .i64 n] w λe w'=>e=.returned (.bool true)∧Below w.heap.size w w':=by
 gi_enter Tryz.func135,Tryz.ntmps135
 gi_wp2_with (gi_at_call 76;refine(jM _ _ _ _ (by omega)).mono ?_;rintro e w' ⟨rfl,rfl⟩)
 go_ret;exact⟨rfl,(Below.refl _ w).alloc (ak _) _⟩
theorem Pz{l:Lay}{b:aO}{n:Int}{w:World}(h:¬(0≤n∧n<b.cs.length))(hs:b.cs.length<1000000):CallsIn Fz 0 Tryz.prog 135 #[.agg (l.bn b),.int .i64 n] w λe w'=>e=.returned (.bool false)∧Below w.heap.size w w':=by
 gi_enter Tryz.func135,Tryz.ntmps135
 gi_wp2_with (gi_at_call 76;refine(uH _ _ _ _ (by omega)).mono ?_;rintro e w' ⟨rfl,rfl⟩)
 go_ret;exact⟨rfl,(Below.refl _ w).alloc (ak _) _⟩
set_option maxHeartbeats 8000000 in
theorem RG{N:Nat}{l:Lay}{b:aO}{w:World}(hbk:bQ N l b w){c:Nat}(hc:c<b.cs.length)(ht:0≤(b.aY c).tar∧(b.aY c).tar<b.ts.length) :
  CallsIn Fz 0 Tryz.prog 136 #[.agg (l.bn b),.int .i64 c] w λe w'=>e=.returned (.int .i64 (b.gy (b.aY c).tar.toNat).bg)∧Below w.heap.size w w':=by
 obtain⟨t,ht2⟩:∃t:Nat,(b.aY c).tar=t:=⟨(b.aY c).tar.toNat,by omega⟩
 have htl:t<b.ts.length:=by omega
 obtain⟨kb,ko,a1,a2,a3⟩:=hbk.ks c (b.aY c).row (by rw[List.getElem?_map,List.getElem?_eq_getElem hc,gJ hc];rfl);obtain⟨tb,to,b1,b2,b3⟩:=hbk.ts t (b.gy t).row (by rw[List.getElem?_map,List.getElem?_eq_getElem htl,gQ htl];rfl);have k1:=a3 1 _ rfl;have t1:=b3 1 _ rfl;have hkb:kb<w.heap.size:=aB a2 hbk.hN;have htb:tb<w.heap.size:=aB b2 hbk.hN;rw[ht2]at k1 ⊢;rw[Int.toNat_natCast];clear a3 b3;unfold Lay.bn;rw[a1,b1];generalize (b.gy t).bg=co at *;gi_enter Tryz.func136,Tryz.ntmps136
 gi_wp2;gi_big_quiet_th (fail)
 gi_wp2;go_ret;exact⟨rfl,⟨rfl,rfl,rfl,by simp[World.drewN],λk hk=>((Below.refl w.heap.size w).alloc (ak _) _).block k hk⟩⟩
end
section
set_option maxHeartbeats 1000000
set_option maxRecDepth 10000
open Go Go.RowKit Lift
theorem Ut{α:Type}{f:α→List Value}{xs:List α}{k i:Nat}{r:List Value}(h:((xs.take k).map f)[i]?=some r):(xs.map f)[i]?=some r:=by
 rw[List.getElem?_map,List.getElem?_take]at h;rw[List.getElem?_map];split at h
 ·exact h
 ·cases h
set_option maxHeartbeats 32000000 in
theorem tY{N:Nat}{l:Lay}{b:aO}{w:World}(hbk:bQ N l b w)(hcap:b.aK.length≤l.cc) :
  CallsIn Fz 0 Tryz.prog 69 #[.slice l.cb b.aK.length l.cc] w λe w'=>e=.returned (.int .i64 b.fA)∧Below w.heap.size w w':=by
 by_cases h3:3<b.aK.length
 ·have h3':(3:Int)<b.aK.length:=by omega
  gi_enter Tryz.func69,Tryz.ntmps69
  gi_wp2;go_ret;exact⟨fJ (show b.fA=2 from fU h3),Below.refl _ _⟩
 ·have h3':¬((3:Int)<b.aK.length):=by omega
  gi_enter Tryz.func69,Tryz.ntmps69
  gi_wp2;gi_loopw [3] (λv wr=>Below w.heap.size w wr∧∃k:Nat,k≤b.aK.length∧v=.int .i64 k∧dU b.jh k=0) (λv _=>b.aK.length-(intOf v).toNat)
  case atStart=>exact⟨Below.refl _ _,0,Nat.zero_le _,rfl,rfl⟩
  case round=>
   obtain⟨HB,k,hk,rfl,hok⟩:=hrel;by_cases hl:k<b.aK.length
   ·have hbr:=hbk.below (HB.mono hbk.hN);obtain⟨B,o,e1,e2,e3⟩:=hbr.cs k [.string b.aK[k]] (by simp[hl]);have c0:=e3 0 _ rfl;simp only[Nat.mul_one,Nat.add_zero]at c0;have hlt:B<wr.heap.size:=aB e2 hbr.hN;have hC1:b.jh k=ku (nmd b.aK[k]) (decide (b.aK[k]∈b.aK.take k)) true true:=by unfold aO.jh;rw[kZ hl]
    have hfi:=wz b.aK[k] (b.aK.take k) 0;have hcall:∀w2,Below wr.heap.size wr w2→∀j,CallsIn Fz 0 Tryz.prog 132 #[.slice l.cb k l.cc,.string b.aK[k]] (w2.drewN j) λe w'=>e=.returned (.int .i64 (iF b.aK[k] 0 (b.aK.take k)))∧w'=w2.drewN j:=λw2 h2 j=>
     Find_in (N:=N) (w:=w2.drewN j) (Nat.le_trans hbr.hN h2.size) (λi r hi=>(hbr.cs.below (h2.mono hbr.hN)) i r (Ut hi)) (by rw[List.length_take];omega) (by rw[List.length_take];omega)
    generalize iF b.aK[k] 0 (b.aK.take k)=fr at *;generalize b.aK[k]=s at *;rw[e1]at hcall ⊢;have good:b.jh k=0→dU b.jh (k+1)=0:=λh=>gU hok h;have bad:∀f:Int,f≠0→b.jh k=f→b.fA=f:=λf hf hg=>(dA h3).trans (gW hok hg hf _ hl);have HG:=Lib.hid good;have wZ:=Lib.hid bad;have HC:=Lib.hid hC1;have HE:=Lib.hid e3;have HO:=Lib.hid hok;clear good bad hC1 e3 hok;by_cases hnm:bY s
    ·by_cases hd:s∈b.aK.take k
     ·have hfr:=hfi.2 hd;have HD:=Lib.hid hd;clear hfi hd
      gi_wp2_with (gi_at_call 131;refine(zB hnm _).mono ?_;rintro e w2 ⟨rfl,hb2⟩;have d0:=(hb2.cell (p:=⟨B,o+k,none⟩) hlt).trans c0;have hlt2:=aB hlt hb2.size)
      gi_big_quiet_th (first|(gi_at_call 132;refine CallsIn.quiet_of_same (hcall _ hb2 _)))
      gi_wp2;go_ret;exact⟨fJ (wZ.out 5 (by decide) (HC.out.trans (ef5 (fO hnm) (dt HD.out)))),HB.trans ((hb2.mono HB.size).trans ((below_drewN _ nq).mono (Nat.le_trans HB.size hb2.size)))⟩
     ·have hfr:¬(0≤fr):=λq=>hd (hfi.1 q);have HD:=Lib.hid hd;clear hfi hd
      gi_wp2_with (gi_at_call 131;refine(zB hnm _).mono ?_;rintro e w2 ⟨rfl,hb2⟩;have d0:=(hb2.cell (p:=⟨B,o+k,none⟩) hlt).trans c0;have hlt2:=aB hlt hb2.size)
      gi_big_quiet_th (first|(gi_at_call 132;refine CallsIn.quiet_of_same (hcall _ hb2 _)))
      gi_wp2;go_roundw
      case rel=>exact⟨HB.trans ((hb2.mono HB.size).trans ((below_drewN _ nq).mono (Nat.le_trans HB.size hb2.size))),k+1,by omega,by go_num,HG.out (HC.out.trans (ef0 (fO hnm) (df HD.out) rfl rfl))⟩
      case measure=>simp[intOf];omega
    ·clear hfi hcall
     gi_wp2_with (gi_at_call 131;refine(Fq hnm _).mono ?_;rintro e w2 ⟨rfl,hb2⟩)
     go_ret;exact⟨fJ (wZ.out 4 (by decide) (HC.out.trans (ef4 (EI hnm)))),HB.trans (hb2.mono HB.size)⟩
   ·obtain rfl:k=b.aK.length:=by omega
    have HO:=Lib.hid hok;clear hok;gi_wp2;go_ret;exact⟨fJ (show b.fA=0 from(dA h3).trans HO.out),HB⟩
end
section
set_option maxHeartbeats 1000000
set_option maxRecDepth 10000
open Go Go.RowKit Lift
set_option maxRecDepth 1000000 in
set_option maxHeartbeats 64000000 in
theorem qm{N:Nat}{l:Lay}{b:aO}{w:World}(hbk:bQ N l b w)(hc:b.aK.length<1000000)(ht:b.ts.length<1000000) :
  CallsIn Fz 0 Tryz.prog 70 #[.agg (l.bn b)] w λe w'=>e=.returned (.int .i64 b.iG)∧Below w.heap.size w w':=by
 obtain⟨rH,vS,rM,sW,rJ,rQ,rO,rP⟩:=l;have hb1:Below w.heap.size w (w.alloc (.cells #[.slice rH b.aK.length rJ,.slice vS b.ts.length rQ,.slice rM b.cs.length rO,.slice sW b.ps.length rP] 27)):=(Below.refl _ w).alloc (ak _) _;have hA:=Blk.new w #[.slice rH b.aK.length rJ,.slice vS b.ts.length rQ,.slice rM b.cs.length rO,.slice sW b.ps.length rP] 27;simp only[Lay.bn];have hN1:=hbk.below (hb1.mono hbk.hN);by_cases hbig:4<b.ts.length
 ·have hbig':(4:Int)<b.ts.length:=by omega
  gi_enter Tryz.func70,Tryz.ntmps70
  gi_wp2;go_ret;exact⟨fJ (show b.iG=2 from fU hbig),hb1⟩
 ·have hbig':¬((4:Int)<b.ts.length):=by omega
  gi_enter Tryz.func70,Tryz.ntmps70
  gi_wp2;generalize w.alloc _=W at *;have hWs:=hb1.size;gi_loopw [3] (λv wr=>Below W.heap.size W wr∧∃k:Nat,k≤b.ts.length∧v=.int .i64 k∧dU b.mD k=0) (λv _=>b.ts.length-(intOf v).toNat)
  case atStart=>exact⟨Below.refl _ _,0,Nat.zero_le _,rfl,rfl⟩
  case round=>
   obtain⟨HB,k,hk,rfl,hok⟩:=hrel;have hbr:=hN1.below (HB.mono hN1.hN);have hBr:=hA.below HB;have a0:=hBr.cell 0;have a1:=hBr.cell 1;have a2:=hBr.cell 2;have a3:=hBr.cell 3;simp at a0 a1 a2 a3;have Td:=hBr.lt;by_cases hl:k<b.ts.length
   ·obtain⟨tb,to,e1,e2,e3⟩:=hbr.ts k b.ts[k].row (by simp[hl]);have SN:b.gy k=b.ts[k]:=gQ hl;have hO1:b.mD k=xW b.aK.length ((b.ts.take k).map (·.name)) b.ts[k]:=by unfold aO.mD;rw[SN]
    have good:b.mD k=0→dU b.mD (k+1)=0:=λh=>gU hok h;have bad:∀f:Int,f≠0→b.mD k=f→b.iG=f:=λf hf hg=>(dA hbig).trans (gW hok hg hf _ hl);clear SN;generalize b.ts[k]=x at *;obtain⟨nm,co,ba,ea,fr⟩:=x;have c0:=e3 0 _ rfl;have c1:=e3 1 _ rfl;have c2:=e3 2 _ rfl;have c3:=e3 3 _ rfl;have c4:=e3 4 _ rfl;simp only[Nat.add_zero]at c0;have hlt:tb<wr.heap.size:=aB e2 hbr.hN;dsimp only at e1;subst e1;have hT:=Blk.new wr #[.string nm,.int .i64 co,.int .i64 ba,.int .i64 ea,.int .i64 fr] 186;have hb2:Below wr.heap.size wr (wr.alloc (.cells #[.string nm,.int .i64 co,.int .i64 ba,.int .i64 ea,.int .i64 fr] 186)):=(Below.refl _ wr).alloc (ak _) _;have HG:=Lib.hid good;have wZ:=Lib.hid bad;have HC:=Lib.hid hO1;have HO:=Lib.hid hok;clear good bad hO1 hok e3;by_cases hnm:bY nm
    ·gi_wp2_with (gi_at_call 131;refine(zB hnm _).mono ?_;rintro e w2 ⟨rfl,hb3⟩;have hB3:=hb2.trans (hb3.mono hb2.size);have hT2:=hT.below hb3;have x0:=hT2.cell 0;have x1:=hT2.cell 1;have x2:=hT2.cell 2;have x3:=hT2.cell 3;have x4:=hT2.cell 4;have hB2:=hBr.below hB3;have g0:=hB2.cell 0;have g1:=hB2.cell 1;have g2:=hB2.cell 2;have g3:=hB2.cell 3;simp at x0 x1 x2 x3 x4 g0 g1 g2 g3;have I7:=hT2.lt;have hltB2:=hB2.lt;clear c0 c1 c2 c3 c4 a0 a1 a2 a3)
     gi_loopw [5] (λv wr=>Below w2.heap.size w2 wr∧∃j:Nat,j≤k∧v=.int .i64 j∧∀i,i<j→(b.gy i).name≠nm) (λv _=>k-(intOf v).toNat)
     case atStart=>exact⟨Below.refl _ _,0,Nat.zero_le _,rfl,λi hi=>by omega⟩
     case round=>
      obtain⟨HB4,j,hj,rfl,hne⟩:=hrel;have Hw:=hT2.below HB4;have hB4:=hB2.below HB4;have hltT4:=Hw.lt;have hltB4:=hB4.lt;have iZ:=HB.trans ((hB3.trans (HB4.mono hB3.size)).mono HB.size);clear x0 x1 x2 x3 x4 g0 g1 g2 g3;have SX:=hN1.below (iZ.mono hN1.hN);have x0:=Hw.cell 0;have x1:=Hw.cell 1;have x2:=Hw.cell 2;have x3:=Hw.cell 3;have x4:=Hw.cell 4;have g0:=hB4.cell 0;have g1:=hB4.cell 1;have g2:=hB4.cell 2;have g3:=hB4.cell 3;simp at x0 x1 x2 x3 x4 g0 g1 g2 g3;by_cases hlj:j<k
      ·obtain⟨tb',to',f1,f2,f3⟩:=SX.ts j (b.gy j).row (by rw[List.getElem?_map,List.getElem?_eq_getElem (by omega),gQ (by omega)];rfl);dsimp only at f1;cases f1;have d0:=f3 0 _ rfl;simp only[Nat.add_zero]at d0;have hlt4:=aB f2 SX.hN;have HN:=Lib.hid hne;clear f3 hne;have hlk:(j:Int)<b.ts.length:=by omega
       obtain⟨nj,hnj⟩:∃nj,(b.gy j).name=nj:=⟨_,rfl⟩
       rw[hnj]at d0;have HNJ:=Lib.hid hnj;clear hnj;by_cases hq:nj=nm
       ·have hq':=eqb_t hq
        gi_wp2_with fail
        gi_big_quiet_th (fail)
        gi_wp2;go_ret;exact⟨fJ (wZ.out 5 (by decide) (HC.out.trans (ef5 (fO hnm) (dt (wE (f:=jA.name) (d:=⟨⟨#[]⟩,0,0,0,0⟩) (Nat.le_of_lt hl) hlj (HNJ.out.trans hq)))))),hb1.trans ((iZ.trans ((below_drewN _ nq).mono iZ.size)).mono hWs)⟩
       ·have hq':=RN hq
        gi_wp2_with fail
        gi_big_quiet_th (fail)
        gi_wp2;go_roundw
        case rel=>exact⟨HB4.trans ((below_drewN _ nq).mono HB4.size),j+1,by omega,by go_num,λi hi=>by
         by_cases e:i=j
         ·subst e;rw[HNJ.out];exact hq
         ·exact HN.out i (by omega)⟩
        case measure=>simp[intOf];omega
      ·obtain rfl:j=k:=by omega
       have HN:=Lib.hid hne;clear hne;have QK:Hid (nm∉(b.ts.take j).map (·.name)):=ni (f:=jA.name) (d:=⟨⟨#[]⟩,0,0,0,0⟩) (Nat.le_of_lt hl) HN.out;have hjj:¬((j:Int)<(j:Int)):=by omega
       have Gi:0≤co∧co<b.aK.length→∀w5,CallsIn Fz 0 Tryz.prog 133 #[.agg #[.slice rH b.aK.length rJ,.slice (some ⟨tb,to,none⟩) b.ts.length rQ,.slice rM b.cs.length rO,.slice sW b.ps.length rP],.int .i64 co] w5 λe w'=>e=.returned (.bool true)∧Below w5.heap.size w5 w':=λq w5=>
        Ez (l:=⟨rH,some ⟨tb,to,none⟩,rM,sW,rJ,rQ,rO,rP⟩) (b:=b) (w:=w5) q hc
       have hcoinF:¬(0≤co∧co<b.aK.length)→∀w5,CallsIn Fz 0 Tryz.prog 133 #[.agg #[.slice rH b.aK.length rJ,.slice (some ⟨tb,to,none⟩) b.ts.length rQ,.slice rM b.cs.length rO,.slice sW b.ps.length rP],.int .i64 co] w5 λe w'=>e=.returned (.bool false)∧Below w5.heap.size w5 w':=λq w5=>
        Ey (l:=⟨rH,some ⟨tb,to,none⟩,rM,sW,rJ,rQ,rO,rP⟩) (b:=b) (w:=w5) q hc
       by_cases q0:0≤co∧co<b.aK.length
       ·by_cases q1:0≤ba∧ba≤10000
        ·by_cases q2:0≤ea∧ea≤10000
         ·by_cases q3:0≤fr∧fr≤45
          ·gi_wp2_with (first|(gi_at_call 133;with_reducible refine(Gi q0 _).mono ?_;rintro e w5 ⟨rfl,hb5⟩;have xC:=Hw.below hb5;have y0:=xC.cell 0;have y1:=xC.cell 1;have y2:=xC.cell 2;have y3:=xC.cell 3;have y4:=xC.cell 4;simp at y0 y1 y2 y3 y4;have Tf:=xC.lt)|(gi_at_call 76;with_reducible refine(jM ba 0 10000 _ (by omega)).mono ?_;rintro e w5 ⟨rfl,rfl⟩)|(gi_at_call 76;with_reducible refine(jM ea 0 10000 _ (by omega)).mono ?_;rintro e w5 ⟨rfl,rfl⟩)|(gi_at_call 76;with_reducible refine(jM fr 0 45 _ (by omega)).mono ?_;rintro e w5 ⟨rfl,rfl⟩))
           go_roundw
           case rel=>exact⟨(iZ.trans (hb5.mono iZ.size)),j+1,by omega,by go_num,HG.out (HC.out.trans (ef0 (fO hnm) (df QK.out) (dt q0) (dt ⟨q1,q2,q3⟩)))⟩
           case measure=>simp[intOf];omega
          ·gi_wp2_with (first|(gi_at_call 133;with_reducible refine(Gi q0 _).mono ?_;rintro e w5 ⟨rfl,hb5⟩;have xC:=Hw.below hb5;have y0:=xC.cell 0;have y1:=xC.cell 1;have y2:=xC.cell 2;have y3:=xC.cell 3;have y4:=xC.cell 4;simp at y0 y1 y2 y3 y4;have Tf:=xC.lt)|(gi_at_call 76;with_reducible refine(jM ba 0 10000 _ (by omega)).mono ?_;rintro e w5 ⟨rfl,rfl⟩)|(gi_at_call 76;with_reducible refine(jM ea 0 10000 _ (by omega)).mono ?_;rintro e w5 ⟨rfl,rfl⟩)|(gi_at_call 76;with_reducible refine(uH fr 0 45 _ (by omega)).mono ?_;rintro e w5 ⟨rfl,rfl⟩))
           go_ret;exact⟨fJ (wZ.out 1 (by decide) (HC.out.trans (ef1 (fO hnm) (df QK.out) (dt q0) (df λq=>q3 q.2.2)))),hb1.trans ((iZ.trans (hb5.mono iZ.size)).mono hWs)⟩
         ·gi_wp2_with (first|(gi_at_call 133;with_reducible refine(Gi q0 _).mono ?_;rintro e w5 ⟨rfl,hb5⟩;have xC:=Hw.below hb5;have y0:=xC.cell 0;have y1:=xC.cell 1;have y2:=xC.cell 2;have y3:=xC.cell 3;have y4:=xC.cell 4;simp at y0 y1 y2 y3 y4;have Tf:=xC.lt)|(gi_at_call 76;with_reducible refine(jM ba 0 10000 _ (by omega)).mono ?_;rintro e w5 ⟨rfl,rfl⟩)|(gi_at_call 76;with_reducible refine(uH ea 0 10000 _ (by omega)).mono ?_;rintro e w5 ⟨rfl,rfl⟩))
          go_ret;exact⟨fJ (wZ.out 1 (by decide) (HC.out.trans (ef1 (fO hnm) (df QK.out) (dt q0) (df λq=>q2 q.2.1)))),hb1.trans ((iZ.trans (hb5.mono iZ.size)).mono hWs)⟩
        ·gi_wp2_with (first|(gi_at_call 133;with_reducible refine(Gi q0 _).mono ?_;rintro e w5 ⟨rfl,hb5⟩;have xC:=Hw.below hb5;have y0:=xC.cell 0;have y1:=xC.cell 1;have y2:=xC.cell 2;have y3:=xC.cell 3;have y4:=xC.cell 4;simp at y0 y1 y2 y3 y4;have Tf:=xC.lt)|(gi_at_call 76;with_reducible refine(uH ba 0 10000 _ (by omega)).mono ?_;rintro e w5 ⟨rfl,rfl⟩))
         go_ret;exact⟨fJ (wZ.out 1 (by decide) (HC.out.trans (ef1 (fO hnm) (df QK.out) (dt q0) (df λq=>q1 q.1)))),hb1.trans ((iZ.trans (hb5.mono iZ.size)).mono hWs)⟩
       ·gi_wp2_with (first|(gi_at_call 133;with_reducible refine(hcoinF q0 _).mono ?_;rintro e w5 ⟨rfl,hb5⟩))
        go_ret;exact⟨fJ (wZ.out 6 (by decide) (HC.out.trans (ef6 (fO hnm) (df QK.out) (df q0)))),hb1.trans ((iZ.trans (hb5.mono iZ.size)).mono hWs)⟩
    ·gi_wp2_with (gi_at_call 131;refine(Fq hnm _).mono ?_;rintro e w2 ⟨rfl,hb3⟩)
     go_ret;exact⟨fJ (wZ.out 4 (by decide) (HC.out.trans (ef4 (EI hnm)))),hb1.trans ((HB.trans ((hb2.trans (hb3.mono hb2.size)).mono HB.size)).mono hWs)⟩
   ·obtain rfl:k=b.ts.length:=by omega
    have HO:=Lib.hid hok;clear hok;gi_wp2;go_ret;exact⟨fJ (show b.iG=0 from(dA hbig).trans HO.out),hb1.trans (HB.mono hWs)⟩
end
section
set_option maxHeartbeats 1000000
set_option maxRecDepth 10000
open Go Go.RowKit Lift
set_option maxRecDepth 1000000 in
set_option maxHeartbeats 64000000 in
theorem tX{N:Nat}{l:Lay}{b:aO}{w:World}(hbk:bQ N l b w)(hc:b.aK.length<1000000)(ht:b.ts.length<1000000) :
  CallsIn Fz 0 Tryz.prog 71 #[.agg (l.bn b)] w λe w'=>e=.returned (.int .i64 b.iV)∧Below w.heap.size w w':=by
 obtain⟨rH,vS,rM,sW,rJ,rQ,rO,rP⟩:=l;have hb1:Below w.heap.size w (w.alloc (.cells #[.slice rH b.aK.length rJ,.slice vS b.ts.length rQ,.slice rM b.cs.length rO,.slice sW b.ps.length rP] 27)):=(Below.refl _ w).alloc (ak _) _;have hA:=Blk.new w #[.slice rH b.aK.length rJ,.slice vS b.ts.length rQ,.slice rM b.cs.length rO,.slice sW b.ps.length rP] 27;simp only[Lay.bn];have hN1:=hbk.below (hb1.mono hbk.hN);by_cases hbig:6<b.cs.length
 ·have hbig':(6:Int)<b.cs.length:=by omega
  gi_enter Tryz.func71,Tryz.ntmps71
  gi_wp2;go_ret;exact⟨fJ (show b.iV=2 from fU hbig),hb1⟩
 ·have hbig':¬((6:Int)<b.cs.length):=by omega
  gi_enter Tryz.func71,Tryz.ntmps71
  gi_wp2;generalize w.alloc _=W at *;have hWs:=hb1.size;gi_loopw [3] (λv wr=>Below W.heap.size W wr∧∃k:Nat,k≤b.cs.length∧v=.int .i64 k∧dU b.kW k=0) (λv _=>b.cs.length-(intOf v).toNat)
  case atStart=>exact⟨Below.refl _ _,0,Nat.zero_le _,rfl,rfl⟩
  case round=>
   obtain⟨HB,k,hk,rfl,hok⟩:=hrel;have hbr:=hN1.below (HB.mono hN1.hN);have hBr:=hA.below HB;have a0:=hBr.cell 0;have a1:=hBr.cell 1;have a2:=hBr.cell 2;have a3:=hBr.cell 3;simp at a0 a1 a2 a3;have Td:=hBr.lt;by_cases hl:k<b.cs.length
   ·obtain⟨tb,to,e1,e2,e3⟩:=hbr.ks k b.cs[k].row (by simp[hl]);have SN:b.aY k=b.cs[k]:=gJ hl;have hO1:b.kW k=vW b.ts.length ((b.cs.take k).map (·.name)) b.cs[k]:=by unfold aO.kW;rw[SN]
    have good:b.kW k=0→dU b.kW (k+1)=0:=λh=>gU hok h;have bad:∀f:Int,f≠0→b.kW k=f→b.iV=f:=λf hf hg=>(dA hbig).trans (gW hok hg hf _ hl);clear SN;generalize b.cs[k]=x at *;obtain⟨nm,tr,cl,du,gr,ex⟩:=x;have c0:=e3 0 _ rfl;have c1:=e3 1 _ rfl;have c2:=e3 2 _ rfl;have c3:=e3 3 _ rfl;have c4:=e3 4 _ rfl;have c5:=e3 5 _ rfl;simp only[Nat.add_zero]at c0;have hlt:tb<wr.heap.size:=aB e2 hbr.hN;dsimp only at e1;subst e1;have hT:=Blk.new wr #[.string nm,.int .i64 tr,.int .i64 cl,.int .i64 du,.int .i64 gr,.int .i64 ex] 46;have hb2:Below wr.heap.size wr (wr.alloc (.cells #[.string nm,.int .i64 tr,.int .i64 cl,.int .i64 du,.int .i64 gr,.int .i64 ex] 46)):=(Below.refl _ wr).alloc (ak _) _;have HG:=Lib.hid good;have wZ:=Lib.hid bad;have HC:=Lib.hid hO1;have HO:=Lib.hid hok;clear good bad hO1 hok e3;by_cases hnm:bY nm
    ·gi_wp2_with (gi_at_call 131;refine(zB hnm _).mono ?_;rintro e w2 ⟨rfl,hb3⟩;have hB3:=hb2.trans (hb3.mono hb2.size);have hT2:=hT.below hb3;have x0:=hT2.cell 0;have x1:=hT2.cell 1;have x2:=hT2.cell 2;have x3:=hT2.cell 3;have x4:=hT2.cell 4;have x5:=hT2.cell 5;have hB2:=hBr.below hB3;have g0:=hB2.cell 0;have g1:=hB2.cell 1;have g2:=hB2.cell 2;have g3:=hB2.cell 3;simp at x0 x1 x2 x3 x4 x5 g0 g1 g2 g3;have I7:=hT2.lt;have hltB2:=hB2.lt;clear c0 c1 c2 c3 c4 c5 a0 a1 a2 a3)
     gi_loopw [5] (λv wr=>Below w2.heap.size w2 wr∧∃j:Nat,j≤k∧v=.int .i64 j∧∀i,i<j→(b.aY i).name≠nm) (λv _=>k-(intOf v).toNat)
     case atStart=>exact⟨Below.refl _ _,0,Nat.zero_le _,rfl,λi hi=>by omega⟩
     case round=>
      obtain⟨HB4,j,hj,rfl,hne⟩:=hrel;have Hw:=hT2.below HB4;have hB4:=hB2.below HB4;have hltT4:=Hw.lt;have hltB4:=hB4.lt;have iZ:=HB.trans ((hB3.trans (HB4.mono hB3.size)).mono HB.size);clear x0 x1 x2 x3 x4 x5 g0 g1 g2 g3;have SX:=hN1.below (iZ.mono hN1.hN);have x0:=Hw.cell 0;have x1:=Hw.cell 1;have x2:=Hw.cell 2;have x3:=Hw.cell 3;have x4:=Hw.cell 4;have x5:=Hw.cell 5;have g0:=hB4.cell 0;have g1:=hB4.cell 1;have g2:=hB4.cell 2;have g3:=hB4.cell 3;simp at x0 x1 x2 x3 x4 x5 g0 g1 g2 g3;by_cases hlj:j<k
      ·obtain⟨tb',to',f1,f2,f3⟩:=SX.ks j (b.aY j).row (by rw[List.getElem?_map,List.getElem?_eq_getElem (by omega),gJ (by omega)];rfl);dsimp only at f1;cases f1;have d0:=f3 0 _ rfl;simp only[Nat.add_zero]at d0;have hlt4:=aB f2 SX.hN;have HN:=Lib.hid hne;clear f3 hne;have hlk:(j:Int)<b.cs.length:=by omega
       obtain⟨nj,hnj⟩:∃nj,(b.aY j).name=nj:=⟨_,rfl⟩
       rw[hnj]at d0;have HNJ:=Lib.hid hnj;clear hnj;by_cases hq:nj=nm
       ·have hq':=eqb_t hq
        gi_wp2_with fail
        gi_big_quiet_th (fail)
        gi_wp2;go_ret;exact⟨fJ (wZ.out 5 (by decide) (HC.out.trans (ef5 (fO hnm) (dt (wE (f:=jw.name) (d:=⟨⟨#[]⟩,0,0,0,0,0⟩) (Nat.le_of_lt hl) hlj (HNJ.out.trans hq)))))),hb1.trans ((iZ.trans ((below_drewN _ nq).mono iZ.size)).mono hWs)⟩
       ·have hq':=RN hq
        gi_wp2_with fail
        gi_big_quiet_th (fail)
        gi_wp2;go_roundw
        case rel=>exact⟨HB4.trans ((below_drewN _ nq).mono HB4.size),j+1,by omega,by go_num,λi hi=>by
         by_cases e:i=j
         ·subst e;rw[HNJ.out];exact hq
         ·exact HN.out i (by omega)⟩
        case measure=>simp[intOf];omega
      ·obtain rfl:j=k:=by omega
       have HN:=Lib.hid hne;clear hne;have QK:Hid (nm∉(b.cs.take j).map (·.name)):=ni (f:=jw.name) (d:=⟨⟨#[]⟩,0,0,0,0,0⟩) (Nat.le_of_lt hl) HN.out;have hjj:¬((j:Int)<(j:Int)):=by omega
       by_cases q0:0≤tr∧tr<b.ts.length
       ·by_cases q1:0≤cl∧cl≤45
        ·by_cases q2:0≤du∧du≤9999
         ·by_cases q3:0≤gr∧gr≤999
          ·by_cases q4:0≤ex∧ex≤10000
           ·gi_wp2_with (first|(gi_at_call 76;with_reducible refine(jM tr 0 ((b.ts.length:Int) - 1) _ (by omega)).mono ?_;rintro e w5 ⟨rfl,rfl⟩)|(gi_at_call 76;with_reducible refine(jM cl 0 45 _ (by omega)).mono ?_;rintro e w5 ⟨rfl,rfl⟩)|(gi_at_call 134;with_reducible refine(GY du _ q2).mono ?_;rintro e w5 ⟨rfl,rfl⟩)|(gi_at_call 76;with_reducible refine(jM gr 0 999 _ (by omega)).mono ?_;rintro e w5 ⟨rfl,rfl⟩)|(gi_at_call 76;with_reducible refine(jM ex 0 10000 _ (by omega)).mono ?_;rintro e w5 ⟨rfl,rfl⟩))
            go_roundw
            case rel=>exact⟨iZ,j+1,by omega,by go_num,HG.out (HC.out.trans (ef0 (fO hnm) (df QK.out) (dt q0) (dt ⟨q1,q2,q3,q4⟩)))⟩
            case measure=>simp[intOf];omega
           ·gi_wp2_with (first|(gi_at_call 76;with_reducible refine(jM tr 0 ((b.ts.length:Int) - 1) _ (by omega)).mono ?_;rintro e w5 ⟨rfl,rfl⟩)|(gi_at_call 76;with_reducible refine(jM cl 0 45 _ (by omega)).mono ?_;rintro e w5 ⟨rfl,rfl⟩)|(gi_at_call 134;with_reducible refine(GY du _ q2).mono ?_;rintro e w5 ⟨rfl,rfl⟩)|(gi_at_call 76;with_reducible refine(jM gr 0 999 _ (by omega)).mono ?_;rintro e w5 ⟨rfl,rfl⟩)|(gi_at_call 76;with_reducible refine(uH ex 0 10000 _ (by omega)).mono ?_;rintro e w5 ⟨rfl,rfl⟩))
            go_ret;exact⟨fJ (wZ.out 1 (by decide) (HC.out.trans (ef1 (fO hnm) (df QK.out) (dt q0) (df λq=>q4 q.2.2.2)))),hb1.trans (iZ.mono hWs)⟩
          ·gi_wp2_with (first|(gi_at_call 76;with_reducible refine(jM tr 0 ((b.ts.length:Int) - 1) _ (by omega)).mono ?_;rintro e w5 ⟨rfl,rfl⟩)|(gi_at_call 76;with_reducible refine(jM cl 0 45 _ (by omega)).mono ?_;rintro e w5 ⟨rfl,rfl⟩)|(gi_at_call 134;with_reducible refine(GY du _ q2).mono ?_;rintro e w5 ⟨rfl,rfl⟩)|(gi_at_call 76;with_reducible refine(uH gr 0 999 _ (by omega)).mono ?_;rintro e w5 ⟨rfl,rfl⟩))
           go_ret;exact⟨fJ (wZ.out 1 (by decide) (HC.out.trans (ef1 (fO hnm) (df QK.out) (dt q0) (df λq=>q3 q.2.2.1)))),hb1.trans (iZ.mono hWs)⟩
         ·gi_wp2_with (first|(gi_at_call 76;with_reducible refine(jM tr 0 ((b.ts.length:Int) - 1) _ (by omega)).mono ?_;rintro e w5 ⟨rfl,rfl⟩)|(gi_at_call 76;with_reducible refine(jM cl 0 45 _ (by omega)).mono ?_;rintro e w5 ⟨rfl,rfl⟩)|(gi_at_call 134;with_reducible refine(Uk du _ q2).mono ?_;rintro e w5 ⟨rfl,rfl⟩))
          go_ret;exact⟨fJ (wZ.out 1 (by decide) (HC.out.trans (ef1 (fO hnm) (df QK.out) (dt q0) (df λq=>q2 q.2.1)))),hb1.trans (iZ.mono hWs)⟩
        ·gi_wp2_with (first|(gi_at_call 76;with_reducible refine(jM tr 0 ((b.ts.length:Int) - 1) _ (by omega)).mono ?_;rintro e w5 ⟨rfl,rfl⟩)|(gi_at_call 76;with_reducible refine(uH cl 0 45 _ (by omega)).mono ?_;rintro e w5 ⟨rfl,rfl⟩))
         go_ret;exact⟨fJ (wZ.out 1 (by decide) (HC.out.trans (ef1 (fO hnm) (df QK.out) (dt q0) (df λq=>q1 q.1)))),hb1.trans (iZ.mono hWs)⟩
       ·gi_wp2_with (first|(gi_at_call 76;with_reducible refine(uH tr 0 ((b.ts.length:Int) - 1) _ (by omega)).mono ?_;rintro e w5 ⟨rfl,rfl⟩))
        go_ret;exact⟨fJ (wZ.out 6 (by decide) (HC.out.trans (ef6 (fO hnm) (df QK.out) (df q0)))),hb1.trans (iZ.mono hWs)⟩
    ·gi_wp2_with (gi_at_call 131;refine(Fq hnm _).mono ?_;rintro e w2 ⟨rfl,hb3⟩)
     go_ret;exact⟨fJ (wZ.out 4 (by decide) (HC.out.trans (ef4 (EI hnm)))),hb1.trans ((HB.trans ((hb2.trans (hb3.mono hb2.size)).mono HB.size)).mono hWs)⟩
   ·obtain rfl:k=b.cs.length:=by omega
    have HO:=Lib.hid hok;clear hok;gi_wp2;go_ret;exact⟨fJ (show b.iV=0 from(dA hbig).trans HO.out),hb1.trans (HB.mono hWs)⟩
end
