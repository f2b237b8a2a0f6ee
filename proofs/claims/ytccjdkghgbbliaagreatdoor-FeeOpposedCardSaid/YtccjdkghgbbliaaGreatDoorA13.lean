/- Any string as a name: what Trim leaves of it; whether it is added: inside the fence. -/
import Derived.Test.YtccjdkghgbbliaaGreatDoorA11
set_option linter.all false
namespace Go.Proofs.YtccjdkghgbbliaaGreatDoor
section
set_option maxHeartbeats 1000000
set_option maxRecDepth 10000
open Go Go.RowKit Lift
set_option maxHeartbeats 8000000 in
set_option maxRecDepth 1000000 in
theorem DX(s:ByteArray)(B:Nat)(m:UInt8→Bool)(w:World)(hs:s.size≤9223372036854775807)(hset:∀x:UInt8,w.cell? ⟨B,x.toNat,none⟩=some (.bool (m x))) :
  CallsIn Fz 0 Tryz.prog 281 #[.string s,.pointer (some ⟨B,0,none⟩)] w λe w'=>(∃k,k≤s.size∧e=.returned (.string ⟨(s.data.toList.take k).toArray⟩)∧(∀(j:Nat) x,k≤j→s.data.toList[j]?=some x→m x=true)∧(∀x,0<k→s.data.toList[k-1]?=some x→m x=false))∧w'=w:=by
 have HS:=Lib.hid hset;clear hset;gi_enter Tryz.func281,Tryz.ntmps281
 gi_wp2;gi_loopw [0] (λv wr=>wr=w∧∃k:Nat,k≤s.size∧v=.string ⟨(s.data.toList.take k).toArray⟩∧∀(j:Nat) x,k≤j→s.data.toList[j]?=some x→m x=true) (λv _=>Lib.strSize v)
 case atStart=>
  refine⟨rfl,s.size,ak _,?_,λj x hj hx=>?_⟩
  ·rw[Lib.size_eq,List.take_length,Lib.mk_data]
  ·have:=(List.getElem?_eq_some_iff.1 hx).1;rw[← Lib.size_eq]at this;omega
 case round=>
  obtain⟨rfl,k,hk,rfl,hall⟩:=hrel;have HA:=Lib.hid hall;clear hall;have hkl:k≤s.data.toList.length:=by rw[← Lib.size_eq];exact hk
  have hts:(⟨(s.data.toList.take k).toArray⟩:ByteArray).size=k:=by rw[Lib.size_mk,List.length_take];omega
  have hb0:∀h,s.data.toList[k-1]?=some ((⟨(s.data.toList.take k).toArray⟩:ByteArray)[k-1]'h):=by
   intro h;rw[← Lib.getElem_mk (s.data.toList.take k) (k-1) h,List.getElem?_take];rw[hts]at h;rw[if_pos h]
  have hx1:(⟨(s.data.toList.take k).toArray⟩:ByteArray).extract 0 (k-1)=⟨(s.data.toList.take (k-1)).toArray⟩:=by
   rw[Lib.extract_mk,List.drop_zero,List.take_take]
   congr 3
   omega
  have hkl':=Lib.hid hkl;clear hkl;generalize ht:(⟨(s.data.toList.take k).toArray⟩:ByteArray)=t at hts hb0 hx1 ⊢;have hK3:=Lib.hid ht;clear ht;by_cases h0:0<k
  ·have h1:k-1<t.size:=by omega
   have hwr:((k:Int)-1+9223372036854775808) % 18446744073709551616-9223372036854775808=((k-1:Nat):Int):=by omega
   have hcx:=HS.out (t[k-1]'h1);have HB0:=Lib.hid (hb0 h1);clear hb0;by_cases hm:m (t[k - 1]'h1)=true
   ·rw[hm]at hcx;have HM:=Lib.hid hm;clear hm
    gi_wp2_with (gi_at_call 305;refine(jQ B (t[k - 1]'h1) true _ hcx).mono ?_;rintro e w' ⟨rfl,rfl⟩)
    go_roundw
    case rel=>exact⟨by trivial,k-1,by omega,by first|rfl|(rw[hx1])|simp,λj x hj hx=>by
     by_cases e:j=k - 1
     ·subst e;rw[HB0.out]at hx;cases hx;exact HM.out
     ·exact HA.out j x (by omega) hx⟩
    case measure=>
     have hkl:k≤s.data.toList.length:=hkl'.out;rw[Lib.strSize_string,Lib.strSize_string,Lib.size_mk,List.length_take];omega
   ·have hm':m (t[k-1]'h1)=false:=by simpa using hm
    rw[hm']at hcx;have HM:=Lib.hid hm';clear hm hm'
    gi_wp2_with (gi_at_call 305;refine(jQ B (t[k - 1]'h1) false _ hcx).mono ?_;rintro e w' ⟨rfl,rfl⟩)
    go_ret;refine⟨⟨k,hk,congrArg (λx=>Ending.returned (.string x)) hK3.out.symm,HA.out,λx _ hx=>?_⟩,rfl⟩;rw[HB0.out]at hx;cases hx;exact HM.out
  ·obtain rfl:k=0:=by omega
   clear hb0;gi_wp2;go_ret;refine⟨⟨0,Nat.zero_le _,congrArg (λx=>Ending.returned (.string x)) hK3.out.symm,HA.out,λx h _=>absurd h (by omega)⟩,rfl⟩
set_option maxHeartbeats 8000000 in
set_option maxRecDepth 1000000 in
theorem Hr(s:ByteArray)(B:Nat)(m:UInt8→Bool)(w:World)(hs:s.size≤9223372036854775807)(hset:∀x:UInt8,w.cell? ⟨B,x.toNat,none⟩=some (.bool (m x)))(h0:0<s.size)(hlast:∀x,s.data.toList[s.size-1]?=some x→m x=false) :
  CallsIn Fz 0 Tryz.prog 280 #[.string s,.pointer (some ⟨B,0,none⟩)] w λe w'=>(∃r:ByteArray,e=.returned (.string r)∧r.size≠0)∧w'=w:=by
 have HS:=Lib.hid hset;have HL:=Lib.hid hlast;clear hset hlast;gi_enter Tryz.func280,Tryz.ntmps280
 gi_wp2;gi_loopw [0] (λv wr=>wr=w∧∃i:Nat,i<s.size∧v=.string ⟨(s.data.toList.drop i).toArray⟩) (λv _=>Lib.strSize v)
 case atStart=>exact⟨rfl,0,h0,by rw[List.drop_zero,Lib.mk_data]⟩
 case round=>
  obtain⟨rfl,i,hi,rfl⟩:=hrel;have hkl:i<s.data.toList.length:=by rw[← Lib.size_eq];exact hi
  have hlen:=Lib.size_eq s;have hts:(⟨(s.data.toList.drop i).toArray⟩:ByteArray).size=s.size-i:=by rw[Lib.size_mk,List.length_drop,hlen]
  have hb0:∀h,s.data.toList[i]?=some ((⟨(s.data.toList.drop i).toArray⟩:ByteArray)[0]'h):=by
   intro h;rw[← Lib.getElem_mk (s.data.toList.drop i) 0 h,List.getElem?_drop,Nat.add_zero]
  have hx1:∀e,e=s.size-i→(⟨(s.data.toList.drop i).toArray⟩:ByteArray).extract 1 e=⟨(s.data.toList.drop (i+1)).toArray⟩:=by
   intro e he;rw[Lib.extract_mk,List.drop_drop,List.take_of_length_le (by rw[List.length_drop,← hlen];omega)]
   try rw[Nat.add_comm]
  clear hlen hkl;generalize ht:(⟨(s.data.toList.drop i).toArray⟩:ByteArray)=t at hts hb0 hx1 ⊢;clear ht;have h1:0<t.size:=by omega
  have hcx:=HS.out (t[0]'h1);have HB0:=Lib.hid (hb0 h1);clear hb0;have hx2:=hx1 (s.size-i) rfl;clear hx1;by_cases hm:m (t[0]'h1)=true
  ·rw[hm]at hcx;have HM:=Lib.hid hm;clear hm
   gi_wp2_with (gi_at_call 305;refine(jQ B (t[0]'h1) true _ hcx).mono ?_;rintro e w' ⟨rfl,rfl⟩)
   go_roundw
   case rel=>
    have hne:i≠s.size-1:=λe=>by
     have h:=HL.out _ (e▸HB0.out);rw[HM.out]at h;cases h
    exact⟨by trivial,i+1,by omega,by first|rfl|(rw[hx2])|simp[hx2]⟩
   case measure=>
    rw[Lib.strSize_string,Lib.strSize_string,Lib.size_mk,List.length_drop,← Lib.size_eq];omega
  ·have hm':m (t[0]'h1)=false:=by simpa using hm
   rw[hm']at hcx;clear hm hm'
   gi_wp2_with (gi_at_call 305;refine(jQ B (t[0]'h1) false _ hcx).mono ?_;rintro e w' ⟨rfl,rfl⟩)
   go_ret;exact⟨⟨t,rfl,by omega⟩,rfl⟩
theorem Oy(x:UInt8):cutset.data.toList.contains x=jl x:=by
 have key:∀n:Fin 256,cutset.data.toList.contains (UInt8.ofNat n.val)=jl (UInt8.ofNat n.val):=by decide +kernel
 have:=key ⟨x.toNat,UInt8.toNat_lt x⟩;simp only[UInt8.ofNat_toNat]at this;exact this
set_option maxHeartbeats 8000000 in
set_option maxRecDepth 1000000 in
theorem Ux{s:ByteArray}(h1:1≤s.size)(h2:s.size≤10)(w:World):CallsIn Fz 0 Tryz.prog 261 #[.string s,.string cutset] w λe w'=>(∃r:ByteArray,e=.returned (.string r)∧(r.size=0↔∀(j:Nat) x,s.data.toList[j]?=some x→jl x=true))∧Below w.heap.size w w':=by
 have hemp:s.toList.isEmpty=false:=by
  rw[Lib.toList_data];cases h:s.data.toList with
  |nil=>have:=Lib.size_eq s;rw[h,aF]at this;omega
  |cons _ _=>rfl
 have hM:=yj cutset w (by decide) vY;have hsz:=Lib.setCells_size cutset.data.toList;have hn1:((cutset.size:Int)==1)=false:=by decide +kernel
 have hsc:=run_storeCells_new (P:=Tryz.prog) (w.alloc (.cells (Lib.setCells cutset.data.toList) 406)) 406 Tryz.zeroCells406 (Lib.setCells cutset.data.toList) (by rw[hsz];exact Tryz.wU) (by rw[zL,Lib.setCells_size,Lib.setCells_size]) (Lib.setCells_one _);rw[World.size_alloc]at hsc;have hB:Below w.heap.size w ((w.alloc (.cells (Lib.setCells cutset.data.toList) 406)).alloc (.cells (Lib.setCells cutset.data.toList) 406)):=((Below.refl _ w).alloc (ak _) _).alloc (by simp) _;have hcells:∀x:UInt8,((w.alloc (.cells (Lib.setCells cutset.data.toList) 406)).alloc (.cells (Lib.setCells cutset.data.toList) 406)).cell? ⟨w.heap.size+1,x.toNat,none⟩=some (.bool (jl x)):=λx=>by
  rw[World.cell?_alloc_at _ _ _ _ (by simp),Lib.setCells_at,Oy]
 have hR:=DX s (w.heap.size+1) jl ((w.alloc (.cells (Lib.setCells cutset.data.toList) 406)).alloc (.cells (Lib.setCells cutset.data.toList) 406)) (by omega) hcells;have hce:cutset.toList.isEmpty=false:=by rw[Lib.toList_data];decide +kernel
 have hL0:=yT (w.heap.size+1);have hL1:=λ(t:ByteArray) (q:t.size≤9223372036854775807)=>Hr t (w.heap.size+1) jl _ q hcells;have HC:=Lib.hid hcells;clear hcells;by_cases hall:∀(j:Nat) x,s.data.toList[j]?=some x→jl x=true
 ·have iZ:=Lib.hid hall;clear hall;gi_enter Tryz.func261,Tryz.ntmps261
  gi_wp2_with (first
   |(gi_at_call 279;refine hM.mono ?_;rintro e w' ⟨rfl,rfl⟩)
   |(gi_at_call 281;refine hR.mono ?_;rintro e w' ⟨⟨k,hk,rfl,hk2,hk3⟩,rfl⟩;obtain rfl:k=0:=Classical.byContradiction λq=>by
       have hkl:k-1<s.data.toList.length:=by rw[← Lib.size_eq];omega
       have h:=hk3 _ (by omega) (List.getElem?_eq_getElem hkl);rw[iZ.out _ _ (List.getElem?_eq_getElem hkl)]at h;cases h)
   |(gi_at_call 280;refine(hL0 _).mono ?_;rintro e w' ⟨rfl,rfl⟩))
  go_ret;exact⟨⟨_,rfl,λ_=>iZ.out,λ_=>rfl⟩,hB⟩
 ·have iZ:=Lib.hid hall;clear hall;gi_enter Tryz.func261,Tryz.ntmps261
  gi_wp2_with (first
   |(gi_at_call 279;refine hM.mono ?_;rintro e w' ⟨rfl,rfl⟩)
   |(gi_at_call 281;refine hR.mono ?_;rintro e w' ⟨⟨k,hk,rfl,hk2,hk3⟩,rfl⟩;have hk0:0<k:=Nat.pos_of_ne_zero (λq=>iZ.out λj x hx=>hk2 j x (by omega) hx);have hkl:k≤s.data.toList.length:=by rw[← Lib.size_eq];exact hk
     have hts:(⟨(s.data.toList.take k).toArray⟩:ByteArray).size=k:=by rw[Lib.size_mk,List.length_take];omega
     have hL:=hL1 ⟨(s.data.toList.take k).toArray⟩ (by omega) (by omega) (λx hx=>hk3 x hk0 (by rw[hts]at hx;simpa[List.getElem?_take,show k-1<k by omega]using hx));generalize (⟨(s.data.toList.take k).toArray⟩:ByteArray)=t at *;clear hk2 hk3 hkl hL1 hL0)
   |(gi_at_call 280;refine hL.mono ?_;rintro e w' ⟨⟨r,rfl,hr⟩,rfl⟩))
  go_ret;exact⟨⟨r,rfl,λq=>absurd q hr,λq=>absurd q iZ.out⟩,hB⟩
def eX(w:World)(M:Nat)(ns:List ByteArray):Prop:=
 ∃(D:DataW Nat) (n:Nat),n≤ns.length∧w.ownsMap Tryz.prog 9 (plainElem Tryz.prog 3) M n D∧Maps.size D≤n∧∀s,Maps.has D (Dw s)=true↔s∈ns
theorem eX.lt{w:World}{M:Nat}{ns:List ByteArray}(h:eX w M ns):M<w.heap.size:=by obtain⟨D,n,_,h,_⟩:=h;exact h.lt
theorem eX.made(w:World):eX (w.alloc (.map #[] 0)) w.heap.size []:=⟨.map [],0,ak _,World.ownsMap_made w _ _ _,ak _,λs=>by simp;rfl⟩
theorem eX.same{w w':World}{M:Nat}{ns:List ByteArray}(h:eX w M ns)(hb:Below w.heap.size w w'):eX w' M ns:=by
 obtain⟨D,n,h1,h2,h3⟩:=h;exact⟨D,n,h1,h2.kept (row:=none) ⟨hb.os,hb.tape,hb.output,hb.size,λk hk _=>hb.block k hk⟩ (by simp),h3⟩
theorem eX.ne{w:World}{M k:Nat}{ns:List ByteArray}{ty:TypeId}{cs:Array Value}(h:eX w M ns)(hb:Blk w k ty cs):k≠M:=λe=>by
 obtain⟨D,n,_,⟨es,cl,h1,_⟩,_⟩:=h;have hb':w.heap[k]?=some (.cells cs ty (0,0)):=hb;rw[e,h1]at hb';cases hb'
theorem PE{r:ByteArray}(h:r.size≠0):r.toList.isEmpty=false:=by
 rw[Lib.toList_data];cases e:r.data.toList with
 |nil=>exact absurd (by rw[Lib.size_eq,e];rfl) h
 |cons _ _=>rfl
theorem Gg{s:ByteArray}(hp:0<s.size):wrap64 ((s[0]'hp).toNat:Int)=((s[0]'hp).toNat:Int):=by have:=UInt8.toNat_lt (s[0]'hp);unfold wrap64;omega
set_option maxHeartbeats 8000000 in
set_option maxRecDepth 1000000 in
theorem FP{s:ByteArray}(hs:¬bY s)(M:Nat)(w:World) :
  CallsIn Fz 0 Tryz.prog 225 #[.map (some M),.string s] w λe w'=>e=.returned (.int .i64 4)∧Below w.heap.size w w':=by
 by_cases h12:1≤s.size∧s.size≤10
 ·obtain⟨h1,h2⟩:=h12;have hp:0<s.size:=by omega
  have x3:=Gg hp;have hfirst:=Lib.data_getElem? s 0 hp;by_cases x:97≤(s[0]'hp).toNat∧(s[0]'hp).toNat≤122
  ·have x4:(97:Int)≤wrap64 ((s[0]'hp).toNat:Int):=by rw[x3];omega
   have x5:wrap64 ((s[0]'hp).toNat:Int)≤122:=by rw[x3];omega
   have hna:¬∀(j:Nat) x,s.data.toList[j]?=some x→jl x=true:=λq=>hs ⟨h1,h2,λy hy=>by rw[hfirst]at hy;cases hy;exact x,q⟩;have HN:=Lib.hid hna;clear hna hfirst x3 x;gi_enter Tryz.func225,Tryz.ntmps225
   gi_wp2_with (first
    |(gi_at_call 97;refine(eH _ _ _ _).mono ?_;rintro e w' ⟨rfl,rfl⟩)
    |(gi_at_call 261;refine(Ux h1 h2 _).mono ?_;rintro e w2 ⟨⟨r,rfl,hr⟩,hb2⟩;have hr':r.toList.isEmpty=false:=PE (λq=>HN.out (hr.1 q));clear hr))
   go_ret;exact⟨rfl,hb2⟩
  ·have x4:(decide ((97:Int)≤wrap64 ((s[0]'hp).toNat:Int))&&decide (wrap64 ((s[0]'hp).toNat:Int)≤122))=false:=by
    rw[x3];simp;omega
   clear hfirst x3;gi_enter Tryz.func225,Tryz.ntmps225
   gi_wp2_with (first
    |(gi_at_call 97;refine(eH _ _ _ _).mono ?_;rintro e w' ⟨rfl,rfl⟩))
   go_ret;exact⟨rfl,Below.refl _ _⟩
 ·have x4:(decide ((1:Int)≤(s.size:Int))&&decide ((s.size:Int)≤10))=false:=by simp;omega
  gi_enter Tryz.func225,Tryz.ntmps225
  gi_wp2_with (first
   |(gi_at_call 97;refine(eH _ _ _ _).mono ?_;rintro e w' ⟨rfl,rfl⟩))
  go_ret;exact⟨rfl,Below.refl _ _⟩
section
variable {s:ByteArray} (hs:bY s) {M:Nat} {ns:List ByteArray} (hl:ns.length≤10) {w:World} (h:eX w M ns)
include hs hl h
set_option maxHeartbeats 8000000 in
set_option maxRecDepth 1000000 in
theorem FM(hn:s∈ns):CallsIn Fz 0 Tryz.prog 225 #[.map (some M),.string s] w λe w'=>e=.returned (.int .i64 5)∧Below w.heap.size w w':=by
 have h1:=hs.one;have h2:=hs.ten;have hkey:keyOf Tryz.prog 9 (.string s)=some (Dw s):=WideMaps.keyOf_string_mk Tryz.underlying9 (by unfold maxLen;omega);have hp:0<s.size:=by omega
 obtain⟨x1,x2⟩:=hs.first _ (Lib.data_getElem? s 0 hp);have x3:=Gg hp;have x4:(97:Int)≤wrap64 ((s[0]'hp).toNat:Int):=by rw[x3];omega
 have x5:wrap64 ((s[0]'hp).toNat:Int)≤122:=by rw[x3];omega
 clear x1 x2 x3;gi_enter Tryz.func225,Tryz.ntmps225
 gi_wp2_with (first
  |(gi_at_call 97;refine(eH _ _ _ _).mono ?_;rintro e w' ⟨rfl,rfl⟩)
  |(gi_at_call 261;refine(Oo hs _).mono ?_;rintro e w2 ⟨rfl,hb2⟩;obtain⟨D,n,d1,hown,d2,d3⟩:=h.same hb2;have hyes:=(d3 s).2 hn)
  |(gi_at_lookup;refine wpListIn_lookup_own_ok_int _ rfl _ _ 346 rfl 9 3 .i64 Tryz.AP Tryz.underlying346 Tryz.underlying3 (Tryz.zeroValue3 _) M n D rfl hown _ _ rfl hkey ?_;intro c hat hwc;rw[hyes]))
 go_ret;exact⟨rfl,hb2⟩
set_option maxHeartbeats 8000000 in
set_option maxRecDepth 1000000 in
theorem FK(hn:s∉ns):CallsIn Fz 0 Tryz.prog 225 #[.map (some M),.string s] w λe w'=>e=.returned (.int .i64 0)∧eX w' M (ns++[s])∧w.grownBy w' (some M):=by
 have h1:=hs.one;have h2:=hs.ten;have hkey:keyOf Tryz.prog 9 (.string s)=some (Dw s):=WideMaps.keyOf_string_mk Tryz.underlying9 (by unfold maxLen;omega);have hp:0<s.size:=by omega
 obtain⟨x1,x2⟩:=hs.first _ (Lib.data_getElem? s 0 hp);have x3:=Gg hp;have x4:(97:Int)≤wrap64 ((s[0]'hp).toNat:Int):=by rw[x3];omega
 have x5:wrap64 ((s[0]'hp).toNat:Int)≤122:=by rw[x3];omega
 clear x1 x2 x3;gi_enter Tryz.func225,Tryz.ntmps225
 gi_wp2_with (first
  |(gi_at_call 97;refine(eH _ _ _ _).mono ?_;rintro e w' ⟨rfl,rfl⟩)
  |(gi_at_call 261;refine(Oo hs _).mono ?_;rintro e w2 ⟨rfl,hb2⟩;obtain⟨D,n,d1,hown,d2,d3⟩:=h.same hb2;have hno:Maps.has D (Dw s)=false:=Bool.eq_false_iff.2 λq=>hn ((d3 s).1 q);have hwf:=Om (show Maps.size D≤100 by omega))
  |(gi_at_lookup;refine wpListIn_lookup_own_ok_int _ rfl _ _ 346 rfl 9 3 .i64 Tryz.AP Tryz.underlying346 Tryz.underlying3 (Tryz.zeroValue3 _) M n D rfl hown _ _ rfl hkey ?_;intro c hat hwc;rw[hno])
  |(gi_at_len;refine wpListIn_len_own _ rfl _ 346 rfl 9 3 Tryz.underlying346 (plainElem Tryz.prog 3) M n D rfl hown ?_)
  |(gi_at_mapUpdate;refine wpListIn_mapUpdate_own _ rfl _ _ _ 346 rfl 9 3 Tryz.AP Tryz.underlying346 (plainElem Tryz.prog 3) M n D rfl hown (by unfold maxLen;omega) _ _ _ rfl rfl hkey _ [] (plainElem_int Tryz.underlying3 hwf) ?_;intro w3 hown3 hgrow3))
 go_ret;have hlt:=h.lt;have hsz:=hb2.size;refine⟨rfl,⟨_,_,by simp;omega,hown3,hown3.size_le,λs'=>?_⟩,⟨hgrow3.os.trans hb2.os,hgrow3.tape.trans hb2.tape,hgrow3.output.trans hb2.output,Nat.le_trans hb2.size hgrow3.size,λi hi hr=>(hgrow3.block i (aB hi hb2.size) hr).trans (hb2.block i hi)⟩⟩;by_cases e:s'=s
 ·subst e;rw[Maps.has_put_same (by obtain⟨es,cl,_,_,_,q⟩:=hown;exact⟨_,q⟩) (by trivial)];simp
 ·rw[Maps.has_put_other (λq=>e (Jp q)),d3 s'];simp[e]
end
end
section
set_option maxHeartbeats 1000000
set_option maxRecDepth 10000
open Go Go.RowKit Lift
theorem vV{p q:Prop}[Decidable p][Decidable q](h:p∧q):(decide p&&decide q)=true:=by simp[h]
theorem vU{p q:Prop}[Decidable p][Decidable q](h:¬(p∧q)):(decide p&&decide q)=false:=by
 rw[Bool.and_eq_false_iff,decide_eq_false_iff_not,decide_eq_false_iff_not];exact Decidable.not_and_iff_or_not.1 h
theorem dX(a b c:Int)(w:World)(h:b≤a∧a≤c):CallsIn Fz 0 Tryz.prog 97 #[.int .i64 a,.int .i64 b,.int .i64 c] w λe w'=>e=.returned (.bool true)∧w'=w:=by
 have k:=eH a b c w;rw[vV h]at k;exact k
theorem jm(a b c:Int)(w:World)(h:¬(b≤a∧a≤c)):CallsIn Fz 0 Tryz.prog 97 #[.int .i64 a,.int .i64 b,.int .i64 c] w λe w'=>e=.returned (.bool false)∧w'=w:=by
 have k:=eH a b c w;rw[vU h]at k;exact k
theorem zG(a:Int)(w:World)(h:0≤a∧a≤9999):CallsIn Fz 0 Tryz.prog 96 #[.int .i64 a] w λe w'=>e=.returned (.bool true)∧w'=w:=by
 have k:=AB a w;rw[vV h]at k;exact k
theorem NZ(a:Int)(w:World)(h:¬(0≤a∧a≤9999)):CallsIn Fz 0 Tryz.prog 96 #[.int .i64 a] w λe w'=>e=.returned (.bool false)∧w'=w:=by
 have k:=AB a w;rw[vU h]at k;exact k
theorem Po(base:Option Addr)(n cap:Nat)(x:Int)(hn:n≤1000)(w:World)(h:0≤x∧x<n):CallsIn Fz 0 Tryz.prog 46 #[.slice base n cap,.int .i64 x] w λe w'=>e=.returned (.bool true)∧w'=w:=by
 have k:=lG base n cap x hn w;rw[vV (by omega)]at k;exact k
theorem Pn(base:Option Addr)(n cap:Nat)(x:Int)(hn:n≤1000)(w:World)(h:¬(0≤x∧x<n)):CallsIn Fz 0 Tryz.prog 46 #[.slice base n cap,.int .i64 x] w λe w'=>e=.returned (.bool false)∧w'=w:=by
 have k:=lG base n cap x hn w;rw[vU (by omega)]at k;exact k
theorem og(base:Option Addr)(n cap:Nat)(x:Int)(hn:n≤1000)(w:World)(h:0≤x∧x<n):CallsIn Fz 0 Tryz.prog 79 #[.slice base n cap,.int .i64 x] w λe w'=>e=.returned (.bool true)∧w'=w:=by
 have k:=uX base n cap x hn w;rw[vV (by omega)]at k;exact k
theorem Eu(base:Option Addr)(n cap:Nat)(x:Int)(hn:n≤1000)(w:World)(h:¬(0≤x∧x<n)):CallsIn Fz 0 Tryz.prog 79 #[.slice base n cap,.int .i64 x] w λe w'=>e=.returned (.bool false)∧w'=w:=by
 have k:=uX base n cap x hn w;rw[vU (by omega)]at k;exact k
theorem oh(base:Option Addr)(n cap:Nat)(x:Int)(hn:n≤1000)(w:World)(h:0≤x∧x<n):CallsIn Fz 0 Tryz.prog 230 #[.slice base n cap,.int .i64 x] w λe w'=>e=.returned (.bool true)∧w'=w:=by
 have k:=Az base n cap x hn w;rw[vV (by omega)]at k;exact k
theorem Pq(base:Option Addr)(n cap:Nat)(x:Int)(hn:n≤1000)(w:World)(h:¬(0≤x∧x<n)):CallsIn Fz 0 Tryz.prog 230 #[.slice base n cap,.int .i64 x] w λe w'=>e=.returned (.bool false)∧w'=w:=by
 have k:=Az base n cap x hn w;rw[vU (by omega)]at k;exact k
theorem add_any{s:ByteArray}{M:Nat}{ns:List ByteArray}(hl:ns.length≤10){w:World}(h:eX w M ns) :
  CallsIn Fz 0 Tryz.prog 225 #[.map (some M),.string s] w λe w'=>e=.returned (.int .i64 (ku (nmd s) (decide (s∈ns)) true true))∧w.grownBy w' (some M)∧(ku (nmd s) (decide (s∈ns)) true true=0→eX w' M (ns++[s])):=by
 by_cases hn:bY s
 ·by_cases hi:s∈ns
  ·have hT:ku (nmd s) (decide (s∈ns)) true true=5:=ef5 (fO hn) (dt hi);exact(FM hn hl h hi).mono λe w' ⟨h1,h2⟩=>⟨by rw[h1,hT],dJ h2,λq=>absurd (hT.symm.trans q) (by decide)⟩
  ·have hT:ku (nmd s) (decide (s∈ns)) true true=0:=ef0 (fO hn) (df hi) rfl rfl;exact(FK hn hl h hi).mono λe w' ⟨h1,h2,h3⟩=>⟨by rw[h1,hT],h3,λ_=>h2⟩
 ·have hT:ku (nmd s) (decide (s∈ns)) true true=4:=ef4 (EI hn);exact(FP hn M w).mono λe w' ⟨h1,h2⟩=>⟨by rw[h1,hT],dJ h2,λq=>absurd (hT.symm.trans q) (by decide)⟩
set_option maxHeartbeats 8000000 in
theorem F5{N:Nat}{l:Lay}{b:aO}{w:World}(hbk:bQ N l b w){M:Nat}(hM:N≤M)(h:eX w M [])(hn:b.aK.length<1000000) :
  CallsIn Fz 0 Tryz.prog 224 #[.slice l.cb b.aK.length l.cc,.int .i64 3,.func (.func 225) #[.map (some M)] #[]] w λe w'=>e=.returned (.int .i64 b.fA)∧w.grownBy w' (some M):=by
 have hNw:=hbk.hN;by_cases h3:3<b.aK.length
 ·have h3':(3:Int)<b.aK.length:=by omega
  gi_enter Tryz.func224,Tryz.ntmps224
  gi_wp2;go_ret;exact⟨fJ (show b.fA=2 from fU h3),rY _ _⟩
 ·have h3':¬((3:Int)<b.aK.length):=by omega
  gi_enter Tryz.func224,Tryz.ntmps224
  gi_wp2;gi_loopw [16] (λi wr=>∃k:Nat,k≤b.aK.length∧i=.int .i64 k∧eX wr M (b.aK.take k)∧w.grownBy wr (some M)∧dU b.jh k=0) (λi _=>b.aK.length-(intOf i).toNat)
  case atStart=>exact⟨0,Nat.zero_le _,rfl,h,rY _ _,rfl⟩
  case round=>
   obtain⟨k,hk,rfl,H,hg,hok⟩:=hrel;by_cases hlt:k<b.aK.length
   ·have hbr:=hbk.below (nV hg hM hNw);obtain⟨cb,co,e1,e2,e3⟩:=hbr.cs k [.string b.aK[k]] (by simp[hlt]);have c0:=e3 0 _ rfl;simp only[Nat.mul_one,Nat.add_zero]at c0;have hpw:cb<wr.heap.size:=aB e2 hbr.hN;rw[e1];have hone:b.jh k=ku (nmd b.aK[k]) (decide (b.aK[k]∈b.aK.take k)) true true:=by unfold aO.jh;rw[kZ hlt]
    have ha:=add_any (s:=b.aK[k]) (by rw[List.length_take];omega) H;have htk:b.aK.take k++[b.aK[k]]=b.aK.take (k+1):=by rw[List.take_add_one,List.getElem?_eq_getElem hlt];rfl
    rw[← hone,htk]at ha;generalize b.aK[k]=s at *;have good:b.jh k=0→dU b.jh (k+1)=0:=λh=>gU hok h;have bad:∀f:Int,f≠0→b.jh k=f→b.fA=f:=λf hf hg=>(dA h3).trans (gW hok hg hf _ hlt);generalize b.jh k=f at ha good bad;have HG:=Lib.hid good;have wZ:=Lib.hid bad;clear good bad hok hone htk e3;by_cases hf:f=0
    ·subst hf
     gi_wp2_with (gi_at_call 225;refine ha.mono ?_;rintro e w2 ⟨rfl,hg2,H2⟩)
     go_roundw
     case rel=>exact⟨k+1,by omega,by go_num,H2 (by trivial),dK hg hg2,HG.out (by trivial)⟩
     case measure=>simp[intOf];omega
    ·gi_wp2_with (gi_at_call 225;refine ha.mono ?_;rintro e w2 ⟨rfl,hg2,H2⟩)
     go_ret;exact⟨fJ (wZ.out f hf rfl),dK hg hg2⟩
   ·obtain rfl:k=b.aK.length:=by omega
    have HO:=Lib.hid hok;clear hok;gi_wp2;go_ret;exact⟨fJ (show b.fA=0 from(dA h3).trans HO.out),hg⟩
set_option maxHeartbeats 16000000 in
theorem J3{w:World}(nm:ByteArray)(co ba ea fr:Int){M Sv B1:Nat}{ns:List ByteArray}(hl:ns.length≤10)(h:eX w M ns)(hS:Blk w Sv 346 #[.map (some M)])
  {cb tb kb pb:Option Addr} {nc nt nk np cc tc kc pc:Nat} (hB:Blk w B1 123 #[.slice cb nc cc,.slice tb nt tc,.slice kb nk kc,.slice pb np pc]) (hnc:nc≤1000) (hnt:nt≤1000) :
  CallsIn Fz 0 Tryz.prog 227 #[.agg #[.string nm,.int .i64 co,.int .i64 ba,.int .i64 ea,.int .i64 fr],.pointer (some ⟨Sv,0,none⟩),.pointer (some ⟨B1,0,none⟩)] w λe w'=>e=.returned (.int .i64 (xW nc ns ⟨nm,co,ba,ea,fr⟩))∧w.grownBy w' (some M)∧(xW nc ns ⟨nm,co,ba,ea,fr⟩=0→eX w' M (ns++[nm])):=by
 have hb1:Below w.heap.size w (w.alloc (.cells #[.string nm,.int .i64 co,.int .i64 ba,.int .i64 ea,.int .i64 fr] 186)):=(Below.refl _ w).alloc (ak _) _;have H1:=h.same hb1;have hS1:=hS.below hb1;have hB1:=hB.below hb1;have hX1:=Blk.new w #[.string nm,.int .i64 co,.int .i64 ba,.int .i64 ea,.int .i64 fr] 186;have yY:=H1.ne hB1;have yZ:=H1.ne hX1;have s0:=hS.cell 0;simp at s0;have Pm:=hS.lt;have Td:=hB.lt;by_cases hnm:bY nm
 ·by_cases hin:nm∈ns
  ·have hcall:=FM hnm hl H1 hin;have hT:xW nc ns ⟨nm,co,ba,ea,fr⟩=5:=ef5 (fO hnm) (dt hin);rw[hT];clear hT;gi_enter Tryz.func227,Tryz.ntmps227
   gi_wp2_with (gi_at_call 225;refine hcall.mono ?_;rintro e w2 ⟨rfl,hb2⟩)
   go_ret;exact⟨rfl,dJ (hb1.trans (hb2.mono hb1.size)),λq=>absurd q (by decide)⟩
  ·have hcall:=FK hnm hl H1 hin;by_cases q0:0≤co∧co<nc
   ·by_cases q1:0≤ba∧ba≤10000
    ·by_cases q2:0≤ea∧ea≤10000
     ·by_cases q3:0≤fr∧fr≤45
      ·have hT:xW nc ns ⟨nm,co,ba,ea,fr⟩=0:=ef0 (fO hnm) (df hin) (dt q0) (dt ⟨q1,q2,q3⟩);rw[hT];clear hT;gi_enter Tryz.func227,Tryz.ntmps227
       gi_wp2_with (first
        |(gi_at_call 225;refine hcall.mono ?_;rintro e w2 ⟨rfl,H2,hg2⟩;have hB2:=hB1.gb hg2 yY;have hX2:=hX1.gb hg2 yZ;have b0:=hB2.cell 0;have b1:=hB2.cell 1;have b2:=hB2.cell 2;have x1:=hX2.cell 1;have x2:=hX2.cell 2;have x3:=hX2.cell 3;have x4:=hX2.cell 4;simp at b0 b1 b2 x1 x2 x3 x4)
        |(gi_at_call 79;with_reducible refine(og _ _ _ co (by omega) _ q0).mono ?_;rintro e w3 ⟨rfl,rfl⟩)
        |(gi_at_call 97;with_reducible refine(dX ba 0 10000 _ (by omega)).mono ?_;rintro e w3 ⟨rfl,rfl⟩)
        |(gi_at_call 97;with_reducible refine(dX ea 0 10000 _ (by omega)).mono ?_;rintro e w3 ⟨rfl,rfl⟩)
        |(gi_at_call 97;with_reducible refine(dX fr 0 45 _ (by omega)).mono ?_;rintro e w3 ⟨rfl,rfl⟩))
       go_ret;exact⟨rfl,dK (dJ hb1) hg2,λ_=>H2⟩
      ·have hT:xW nc ns ⟨nm,co,ba,ea,fr⟩=1:=ef1 (fO hnm) (df hin) (dt q0) (df λq=>q3 q.2.2);rw[hT];clear hT;gi_enter Tryz.func227,Tryz.ntmps227
       gi_wp2_with (first
        |(gi_at_call 225;refine hcall.mono ?_;rintro e w2 ⟨rfl,H2,hg2⟩;have hB2:=hB1.gb hg2 yY;have hX2:=hX1.gb hg2 yZ;have b0:=hB2.cell 0;have b1:=hB2.cell 1;have b2:=hB2.cell 2;have x1:=hX2.cell 1;have x2:=hX2.cell 2;have x3:=hX2.cell 3;have x4:=hX2.cell 4;simp at b0 b1 b2 x1 x2 x3 x4)
        |(gi_at_call 79;with_reducible refine(og _ _ _ co (by omega) _ q0).mono ?_;rintro e w3 ⟨rfl,rfl⟩)
        |(gi_at_call 97;with_reducible refine(dX ba 0 10000 _ (by omega)).mono ?_;rintro e w3 ⟨rfl,rfl⟩)
        |(gi_at_call 97;with_reducible refine(dX ea 0 10000 _ (by omega)).mono ?_;rintro e w3 ⟨rfl,rfl⟩)
        |(gi_at_call 97;with_reducible refine(jm fr 0 45 _ (by omega)).mono ?_;rintro e w3 ⟨rfl,rfl⟩))
       go_ret;exact⟨rfl,dK (dJ hb1) hg2,λq=>absurd q (by decide)⟩
     ·have hT:xW nc ns ⟨nm,co,ba,ea,fr⟩=1:=ef1 (fO hnm) (df hin) (dt q0) (df λq=>q2 q.2.1);rw[hT];clear hT;gi_enter Tryz.func227,Tryz.ntmps227
      gi_wp2_with (first
       |(gi_at_call 225;refine hcall.mono ?_;rintro e w2 ⟨rfl,H2,hg2⟩;have hB2:=hB1.gb hg2 yY;have hX2:=hX1.gb hg2 yZ;have b0:=hB2.cell 0;have b1:=hB2.cell 1;have b2:=hB2.cell 2;have x1:=hX2.cell 1;have x2:=hX2.cell 2;have x3:=hX2.cell 3;have x4:=hX2.cell 4;simp at b0 b1 b2 x1 x2 x3 x4)
       |(gi_at_call 79;with_reducible refine(og _ _ _ co (by omega) _ q0).mono ?_;rintro e w3 ⟨rfl,rfl⟩)
       |(gi_at_call 97;with_reducible refine(dX ba 0 10000 _ (by omega)).mono ?_;rintro e w3 ⟨rfl,rfl⟩)
       |(gi_at_call 97;with_reducible refine(jm ea 0 10000 _ (by omega)).mono ?_;rintro e w3 ⟨rfl,rfl⟩))
      go_ret;exact⟨rfl,dK (dJ hb1) hg2,λq=>absurd q (by decide)⟩
    ·have hT:xW nc ns ⟨nm,co,ba,ea,fr⟩=1:=ef1 (fO hnm) (df hin) (dt q0) (df λq=>q1 q.1);rw[hT];clear hT;gi_enter Tryz.func227,Tryz.ntmps227
     gi_wp2_with (first
      |(gi_at_call 225;refine hcall.mono ?_;rintro e w2 ⟨rfl,H2,hg2⟩;have hB2:=hB1.gb hg2 yY;have hX2:=hX1.gb hg2 yZ;have b0:=hB2.cell 0;have b1:=hB2.cell 1;have b2:=hB2.cell 2;have x1:=hX2.cell 1;have x2:=hX2.cell 2;have x3:=hX2.cell 3;have x4:=hX2.cell 4;simp at b0 b1 b2 x1 x2 x3 x4)
      |(gi_at_call 79;with_reducible refine(og _ _ _ co (by omega) _ q0).mono ?_;rintro e w3 ⟨rfl,rfl⟩)
      |(gi_at_call 97;with_reducible refine(jm ba 0 10000 _ (by omega)).mono ?_;rintro e w3 ⟨rfl,rfl⟩))
     go_ret;exact⟨rfl,dK (dJ hb1) hg2,λq=>absurd q (by decide)⟩
   ·have hT:xW nc ns ⟨nm,co,ba,ea,fr⟩=6:=ef6 (fO hnm) (df hin) (df q0);rw[hT];clear hT;gi_enter Tryz.func227,Tryz.ntmps227
    gi_wp2_with (first
     |(gi_at_call 225;refine hcall.mono ?_;rintro e w2 ⟨rfl,H2,hg2⟩;have hB2:=hB1.gb hg2 yY;have hX2:=hX1.gb hg2 yZ;have b0:=hB2.cell 0;have b1:=hB2.cell 1;have b2:=hB2.cell 2;have x1:=hX2.cell 1;have x2:=hX2.cell 2;have x3:=hX2.cell 3;have x4:=hX2.cell 4;simp at b0 b1 b2 x1 x2 x3 x4)
     |(gi_at_call 79;with_reducible refine(Eu _ _ _ co (by omega) _ q0).mono ?_;rintro e w3 ⟨rfl,rfl⟩))
    go_ret;exact⟨rfl,dK (dJ hb1) hg2,λq=>absurd q (by decide)⟩
 ·have hcall:=FP hnm M (w.alloc (.cells #[.string nm,.int .i64 co,.int .i64 ba,.int .i64 ea,.int .i64 fr] 186));have hT:xW nc ns ⟨nm,co,ba,ea,fr⟩=4:=ef4 (EI hnm);rw[hT];clear hT;gi_enter Tryz.func227,Tryz.ntmps227
  gi_wp2_with (gi_at_call 225;refine hcall.mono ?_;rintro e w2 ⟨rfl,hb2⟩)
  go_ret;exact⟨rfl,dJ (hb1.trans (hb2.mono hb1.size)),λq=>absurd q (by decide)⟩
set_option maxHeartbeats 16000000 in
theorem OG{w:World}(nm:ByteArray)(tr cl du gr ex:Int){M Sv B1:Nat}{ns:List ByteArray}(hl:ns.length≤10)(h:eX w M ns)(hS:Blk w Sv 346 #[.map (some M)])
  {cb tb kb pb:Option Addr} {nc nt nk np cc tc kc pc:Nat} (hB:Blk w B1 123 #[.slice cb nc cc,.slice tb nt tc,.slice kb nk kc,.slice pb np pc]) (hnc:nc≤1000) (hnt:nt≤1000) :
  CallsIn Fz 0 Tryz.prog 229 #[.agg #[.string nm,.int .i64 tr,.int .i64 cl,.int .i64 du,.int .i64 gr,.int .i64 ex],.pointer (some ⟨Sv,0,none⟩),.pointer (some ⟨B1,0,none⟩)] w λe w'=>e=.returned (.int .i64 (vW nt ns ⟨nm,tr,cl,du,gr,ex⟩))∧w.grownBy w' (some M)∧(vW nt ns ⟨nm,tr,cl,du,gr,ex⟩=0→eX w' M (ns++[nm])):=by
 have hb1:Below w.heap.size w (w.alloc (.cells #[.string nm,.int .i64 tr,.int .i64 cl,.int .i64 du,.int .i64 gr,.int .i64 ex] 46)):=(Below.refl _ w).alloc (ak _) _;have H1:=h.same hb1;have hS1:=hS.below hb1;have hB1:=hB.below hb1;have hX1:=Blk.new w #[.string nm,.int .i64 tr,.int .i64 cl,.int .i64 du,.int .i64 gr,.int .i64 ex] 46;have yY:=H1.ne hB1;have yZ:=H1.ne hX1;have s0:=hS.cell 0;simp at s0;have Pm:=hS.lt;have Td:=hB.lt;by_cases hnm:bY nm
 ·by_cases hin:nm∈ns
  ·have hcall:=FM hnm hl H1 hin;have hT:vW nt ns ⟨nm,tr,cl,du,gr,ex⟩=5:=ef5 (fO hnm) (dt hin);rw[hT];clear hT;gi_enter Tryz.func229,Tryz.ntmps229
   gi_wp2_with (gi_at_call 225;refine hcall.mono ?_;rintro e w2 ⟨rfl,hb2⟩)
   go_ret;exact⟨rfl,dJ (hb1.trans (hb2.mono hb1.size)),λq=>absurd q (by decide)⟩
  ·have hcall:=FK hnm hl H1 hin;by_cases q0:0≤tr∧tr<nt
   ·by_cases q1:0≤cl∧cl≤45
    ·by_cases q2:0≤du∧du≤9999
     ·by_cases q3:0≤gr∧gr≤999
      ·by_cases q4:0≤ex∧ex≤10000
       ·have hT:vW nt ns ⟨nm,tr,cl,du,gr,ex⟩=0:=ef0 (fO hnm) (df hin) (dt q0) (dt ⟨q1,q2,q3,q4⟩);rw[hT];clear hT;gi_enter Tryz.func229,Tryz.ntmps229
        gi_wp2_with (first
         |(gi_at_call 225;refine hcall.mono ?_;rintro e w2 ⟨rfl,H2,hg2⟩;have hB2:=hB1.gb hg2 yY;have hX2:=hX1.gb hg2 yZ;have b0:=hB2.cell 0;have b1:=hB2.cell 1;have b2:=hB2.cell 2;have x1:=hX2.cell 1;have x2:=hX2.cell 2;have x3:=hX2.cell 3;have x4:=hX2.cell 4;have x5:=hX2.cell 5;simp at b0 b1 b2 x1 x2 x3 x4 x5)
         |(gi_at_call 230;with_reducible refine(oh _ _ _ tr (by omega) _ q0).mono ?_;rintro e w3 ⟨rfl,rfl⟩)
         |(gi_at_call 97;with_reducible refine(dX cl 0 45 _ (by omega)).mono ?_;rintro e w3 ⟨rfl,rfl⟩)
         |(gi_at_call 96;with_reducible refine(zG du _ q2).mono ?_;rintro e w3 ⟨rfl,rfl⟩)
         |(gi_at_call 97;with_reducible refine(dX gr 0 999 _ (by omega)).mono ?_;rintro e w3 ⟨rfl,rfl⟩)
         |(gi_at_call 97;with_reducible refine(dX ex 0 10000 _ (by omega)).mono ?_;rintro e w3 ⟨rfl,rfl⟩))
        go_ret;exact⟨rfl,dK (dJ hb1) hg2,λ_=>H2⟩
       ·have hT:vW nt ns ⟨nm,tr,cl,du,gr,ex⟩=1:=ef1 (fO hnm) (df hin) (dt q0) (df λq=>q4 q.2.2.2);rw[hT];clear hT;gi_enter Tryz.func229,Tryz.ntmps229
        gi_wp2_with (first
         |(gi_at_call 225;refine hcall.mono ?_;rintro e w2 ⟨rfl,H2,hg2⟩;have hB2:=hB1.gb hg2 yY;have hX2:=hX1.gb hg2 yZ;have b0:=hB2.cell 0;have b1:=hB2.cell 1;have b2:=hB2.cell 2;have x1:=hX2.cell 1;have x2:=hX2.cell 2;have x3:=hX2.cell 3;have x4:=hX2.cell 4;have x5:=hX2.cell 5;simp at b0 b1 b2 x1 x2 x3 x4 x5)
         |(gi_at_call 230;with_reducible refine(oh _ _ _ tr (by omega) _ q0).mono ?_;rintro e w3 ⟨rfl,rfl⟩)
         |(gi_at_call 97;with_reducible refine(dX cl 0 45 _ (by omega)).mono ?_;rintro e w3 ⟨rfl,rfl⟩)
         |(gi_at_call 96;with_reducible refine(zG du _ q2).mono ?_;rintro e w3 ⟨rfl,rfl⟩)
         |(gi_at_call 97;with_reducible refine(dX gr 0 999 _ (by omega)).mono ?_;rintro e w3 ⟨rfl,rfl⟩)
         |(gi_at_call 97;with_reducible refine(jm ex 0 10000 _ (by omega)).mono ?_;rintro e w3 ⟨rfl,rfl⟩))
        go_ret;exact⟨rfl,dK (dJ hb1) hg2,λq=>absurd q (by decide)⟩
      ·have hT:vW nt ns ⟨nm,tr,cl,du,gr,ex⟩=1:=ef1 (fO hnm) (df hin) (dt q0) (df λq=>q3 q.2.2.1);rw[hT];clear hT;gi_enter Tryz.func229,Tryz.ntmps229
       gi_wp2_with (first
        |(gi_at_call 225;refine hcall.mono ?_;rintro e w2 ⟨rfl,H2,hg2⟩;have hB2:=hB1.gb hg2 yY;have hX2:=hX1.gb hg2 yZ;have b0:=hB2.cell 0;have b1:=hB2.cell 1;have b2:=hB2.cell 2;have x1:=hX2.cell 1;have x2:=hX2.cell 2;have x3:=hX2.cell 3;have x4:=hX2.cell 4;have x5:=hX2.cell 5;simp at b0 b1 b2 x1 x2 x3 x4 x5)
        |(gi_at_call 230;with_reducible refine(oh _ _ _ tr (by omega) _ q0).mono ?_;rintro e w3 ⟨rfl,rfl⟩)
        |(gi_at_call 97;with_reducible refine(dX cl 0 45 _ (by omega)).mono ?_;rintro e w3 ⟨rfl,rfl⟩)
        |(gi_at_call 96;with_reducible refine(zG du _ q2).mono ?_;rintro e w3 ⟨rfl,rfl⟩)
        |(gi_at_call 97;with_reducible refine(jm gr 0 999 _ (by omega)).mono ?_;rintro e w3 ⟨rfl,rfl⟩))
       go_ret;exact⟨rfl,dK (dJ hb1) hg2,λq=>absurd q (by decide)⟩
     ·have hT:vW nt ns ⟨nm,tr,cl,du,gr,ex⟩=1:=ef1 (fO hnm) (df hin) (dt q0) (df λq=>q2 q.2.1);rw[hT];clear hT;gi_enter Tryz.func229,Tryz.ntmps229
      gi_wp2_with (first
       |(gi_at_call 225;refine hcall.mono ?_;rintro e w2 ⟨rfl,H2,hg2⟩;have hB2:=hB1.gb hg2 yY;have hX2:=hX1.gb hg2 yZ;have b0:=hB2.cell 0;have b1:=hB2.cell 1;have b2:=hB2.cell 2;have x1:=hX2.cell 1;have x2:=hX2.cell 2;have x3:=hX2.cell 3;have x4:=hX2.cell 4;have x5:=hX2.cell 5;simp at b0 b1 b2 x1 x2 x3 x4 x5)
       |(gi_at_call 230;with_reducible refine(oh _ _ _ tr (by omega) _ q0).mono ?_;rintro e w3 ⟨rfl,rfl⟩)
       |(gi_at_call 97;with_reducible refine(dX cl 0 45 _ (by omega)).mono ?_;rintro e w3 ⟨rfl,rfl⟩)
       |(gi_at_call 96;with_reducible refine(NZ du _ q2).mono ?_;rintro e w3 ⟨rfl,rfl⟩))
      go_ret;exact⟨rfl,dK (dJ hb1) hg2,λq=>absurd q (by decide)⟩
    ·have hT:vW nt ns ⟨nm,tr,cl,du,gr,ex⟩=1:=ef1 (fO hnm) (df hin) (dt q0) (df λq=>q1 q.1);rw[hT];clear hT;gi_enter Tryz.func229,Tryz.ntmps229
     gi_wp2_with (first
      |(gi_at_call 225;refine hcall.mono ?_;rintro e w2 ⟨rfl,H2,hg2⟩;have hB2:=hB1.gb hg2 yY;have hX2:=hX1.gb hg2 yZ;have b0:=hB2.cell 0;have b1:=hB2.cell 1;have b2:=hB2.cell 2;have x1:=hX2.cell 1;have x2:=hX2.cell 2;have x3:=hX2.cell 3;have x4:=hX2.cell 4;have x5:=hX2.cell 5;simp at b0 b1 b2 x1 x2 x3 x4 x5)
      |(gi_at_call 230;with_reducible refine(oh _ _ _ tr (by omega) _ q0).mono ?_;rintro e w3 ⟨rfl,rfl⟩)
      |(gi_at_call 97;with_reducible refine(jm cl 0 45 _ (by omega)).mono ?_;rintro e w3 ⟨rfl,rfl⟩))
     go_ret;exact⟨rfl,dK (dJ hb1) hg2,λq=>absurd q (by decide)⟩
   ·have hT:vW nt ns ⟨nm,tr,cl,du,gr,ex⟩=6:=ef6 (fO hnm) (df hin) (df q0);rw[hT];clear hT;gi_enter Tryz.func229,Tryz.ntmps229
    gi_wp2_with (first
     |(gi_at_call 225;refine hcall.mono ?_;rintro e w2 ⟨rfl,H2,hg2⟩;have hB2:=hB1.gb hg2 yY;have hX2:=hX1.gb hg2 yZ;have b0:=hB2.cell 0;have b1:=hB2.cell 1;have b2:=hB2.cell 2;have x1:=hX2.cell 1;have x2:=hX2.cell 2;have x3:=hX2.cell 3;have x4:=hX2.cell 4;have x5:=hX2.cell 5;simp at b0 b1 b2 x1 x2 x3 x4 x5)
     |(gi_at_call 230;with_reducible refine(Pq _ _ _ tr (by omega) _ q0).mono ?_;rintro e w3 ⟨rfl,rfl⟩))
    go_ret;exact⟨rfl,dK (dJ hb1) hg2,λq=>absurd q (by decide)⟩
 ·have hcall:=FP hnm M (w.alloc (.cells #[.string nm,.int .i64 tr,.int .i64 cl,.int .i64 du,.int .i64 gr,.int .i64 ex] 46));have hT:vW nt ns ⟨nm,tr,cl,du,gr,ex⟩=4:=ef4 (EI hnm);rw[hT];clear hT;gi_enter Tryz.func229,Tryz.ntmps229
  gi_wp2_with (gi_at_call 225;refine hcall.mono ?_;rintro e w2 ⟨rfl,hb2⟩)
  go_ret;exact⟨rfl,dJ (hb1.trans (hb2.mono hb1.size)),λq=>absurd q (by decide)⟩
set_option maxHeartbeats 16000000 in
theorem Af{N:Nat}{l:Lay}{b:aO}{w:World}(hbk:bQ N l b w){M Sv B1:Nat}(hM:N≤M)(h:eX w M [])(hS:Blk w Sv 346 #[.map (some M)])
  (hB:Blk w B1 123 #[.slice l.cb b.aK.length l.cc,.slice l.tb b.ts.length l.tc,.slice l.kb b.cs.length l.kc,.slice l.pb b.ps.length l.pc]) (hnc:b.aK.length≤1000) (hnt:b.ts.length≤1000) (hnk:b.cs.length≤1000) :
  CallsIn Fz 0 Tryz.prog 226 #[.slice l.tb b.ts.length l.tc,.int .i64 4,.func (.func 227) #[] #[.pointer (some ⟨Sv,0,none⟩),.pointer (some ⟨B1,0,none⟩)]] w λe w'=>e=.returned (.int .i64 b.iG)∧w.grownBy w' (some M):=by
 have hNw:=hbk.hN;by_cases hbig:4<b.ts.length
 ·have hbig':(4:Int)<b.ts.length:=by omega
  gi_enter Tryz.func226,Tryz.ntmps226
  gi_wp2;go_ret;exact⟨fJ (show b.iG=2 from fU hbig),rY _ _⟩
 ·have hbig':¬((4:Int)<b.ts.length):=by omega
  gi_enter Tryz.func226,Tryz.ntmps226
  gi_wp2;gi_loopw [16] (λi wr=>∃k:Nat,k≤b.ts.length∧i=.int .i64 k∧eX wr M ((b.ts.take k).map (·.name))∧w.grownBy wr (some M)∧dU b.mD k=0) (λi _=>b.ts.length-(intOf i).toNat)
  case atStart=>exact⟨0,Nat.zero_le _,rfl,h,rY _ _,rfl⟩
  case round=>
   obtain⟨k,hk,rfl,H,hg,hok⟩:=hrel;by_cases hlt:k<b.ts.length
   ·have hbr:=hbk.below (nV hg hM hNw);have hSr:=hS.gb hg (h.ne hS);have hBr:=hB.gb hg (h.ne hB);obtain⟨cb,co,e1,e2,e3⟩:=hbr.ts k b.ts[k].row (by simp[hlt]);have hone:b.mD k=xW b.aK.length ((b.ts.take k).map (·.name)) b.ts[k]:=by unfold aO.mD;rw[gQ hlt]
    have htk:(b.ts.take k).map (·.name)++[b.ts[k].name]=(b.ts.take (k+1)).map (·.name):=by rw[List.take_add_one,List.getElem?_eq_getElem hlt,Option.toList_some,List.map_append];rfl
    have hlen:((b.ts.take k).map (·.name)).length≤10:=by rw[List.length_map,List.length_take];omega
    have hpw:cb<wr.heap.size:=aB e2 hbr.hN;rw[e1];generalize b.ts[k]=x at *;obtain⟨nm,co,ba,ea,fr⟩:=x;have c0:=e3 0 _ rfl;have c1:=e3 1 _ rfl;have c2:=e3 2 _ rfl;have c3:=e3 3 _ rfl;have c4:=e3 4 _ rfl;simp only[Nat.add_zero]at c0;dsimp only at htk e1;have hb1:Below wr.heap.size wr (wr.alloc (.cells #[.string nm,.int .i64 co,.int .i64 ba,.int .i64 ea,.int .i64 fr] 186)):=(Below.refl _ wr).alloc (ak _) _;have hcall:=J3 nm co ba ea fr hlen (H.same hb1) (hSr.below hb1) (hBr.below hb1) hnc hnt;rw[← hone,htk]at hcall;have good:b.mD k=0→dU b.mD (k+1)=0:=λh=>gU hok h;have bad:∀f:Int,f≠0→b.mD k=f→b.iG=f:=λf hf hg=>(dA hbig).trans (gW hok hg hf _ hlt);clear hone;generalize b.mD k=f at hcall good bad;have HG:=Lib.hid good;have wZ:=Lib.hid bad;clear good bad hok htk e3;by_cases hf:f=0
    ·subst hf
     gi_wp2_with (gi_at_call 227;refine hcall.mono ?_;rintro e w2 ⟨rfl,hg2,H2⟩)
     go_roundw
     case rel=>exact⟨k+1,by omega,by go_num,H2 (by trivial),dK hg (dK (dJ hb1) hg2),HG.out (by trivial)⟩
     case measure=>simp[intOf];omega
    ·gi_wp2_with (gi_at_call 227;refine hcall.mono ?_;rintro e w2 ⟨rfl,hg2,H2⟩)
     go_ret;exact⟨fJ (wZ.out f hf rfl),dK hg (dK (dJ hb1) hg2)⟩
   ·obtain rfl:k=b.ts.length:=by omega
    have HO:=Lib.hid hok;clear hok;gi_wp2;go_ret;exact⟨fJ (show b.iG=0 from(dA hbig).trans HO.out),hg⟩
set_option maxHeartbeats 16000000 in
theorem FZ{N:Nat}{l:Lay}{b:aO}{w:World}(hbk:bQ N l b w){M Sv B1:Nat}(hM:N≤M)(h:eX w M [])(hS:Blk w Sv 346 #[.map (some M)])
  (hB:Blk w B1 123 #[.slice l.cb b.aK.length l.cc,.slice l.tb b.ts.length l.tc,.slice l.kb b.cs.length l.kc,.slice l.pb b.ps.length l.pc]) (hnc:b.aK.length≤1000) (hnt:b.ts.length≤1000) (hnk:b.cs.length≤1000) :
  CallsIn Fz 0 Tryz.prog 228 #[.slice l.kb b.cs.length l.kc,.int .i64 6,.func (.func 229) #[] #[.pointer (some ⟨Sv,0,none⟩),.pointer (some ⟨B1,0,none⟩)]] w λe w'=>e=.returned (.int .i64 b.iV)∧w.grownBy w' (some M):=by
 have hNw:=hbk.hN;by_cases hbig:6<b.cs.length
 ·have hbig':(6:Int)<b.cs.length:=by omega
  gi_enter Tryz.func228,Tryz.ntmps228
  gi_wp2;go_ret;exact⟨fJ (show b.iV=2 from fU hbig),rY _ _⟩
 ·have hbig':¬((6:Int)<b.cs.length):=by omega
  gi_enter Tryz.func228,Tryz.ntmps228
  gi_wp2;gi_loopw [16] (λi wr=>∃k:Nat,k≤b.cs.length∧i=.int .i64 k∧eX wr M ((b.cs.take k).map (·.name))∧w.grownBy wr (some M)∧dU b.kW k=0) (λi _=>b.cs.length-(intOf i).toNat)
  case atStart=>exact⟨0,Nat.zero_le _,rfl,h,rY _ _,rfl⟩
  case round=>
   obtain⟨k,hk,rfl,H,hg,hok⟩:=hrel;by_cases hlt:k<b.cs.length
   ·have hbr:=hbk.below (nV hg hM hNw);have hSr:=hS.gb hg (h.ne hS);have hBr:=hB.gb hg (h.ne hB);obtain⟨cb,co,e1,e2,e3⟩:=hbr.ks k b.cs[k].row (by simp[hlt]);have hone:b.kW k=vW b.ts.length ((b.cs.take k).map (·.name)) b.cs[k]:=by unfold aO.kW;rw[gJ hlt]
    have htk:(b.cs.take k).map (·.name)++[b.cs[k].name]=(b.cs.take (k+1)).map (·.name):=by rw[List.take_add_one,List.getElem?_eq_getElem hlt,Option.toList_some,List.map_append];rfl
    have hlen:((b.cs.take k).map (·.name)).length≤10:=by rw[List.length_map,List.length_take];omega
    have hpw:cb<wr.heap.size:=aB e2 hbr.hN;rw[e1];generalize b.cs[k]=x at *;obtain⟨nm,tr,cl,du,gr,ex⟩:=x;have c0:=e3 0 _ rfl;have c1:=e3 1 _ rfl;have c2:=e3 2 _ rfl;have c3:=e3 3 _ rfl;have c4:=e3 4 _ rfl;have c5:=e3 5 _ rfl;simp only[Nat.add_zero]at c0;dsimp only at htk e1;have hb1:Below wr.heap.size wr (wr.alloc (.cells #[.string nm,.int .i64 tr,.int .i64 cl,.int .i64 du,.int .i64 gr,.int .i64 ex] 46)):=(Below.refl _ wr).alloc (ak _) _;have hcall:=OG nm tr cl du gr ex hlen (H.same hb1) (hSr.below hb1) (hBr.below hb1) hnc hnt;rw[← hone,htk]at hcall;have good:b.kW k=0→dU b.kW (k+1)=0:=λh=>gU hok h;have bad:∀f:Int,f≠0→b.kW k=f→b.iV=f:=λf hf hg=>(dA hbig).trans (gW hok hg hf _ hlt);clear hone;generalize b.kW k=f at hcall good bad;have HG:=Lib.hid good;have wZ:=Lib.hid bad;clear good bad hok htk e3;by_cases hf:f=0
    ·subst hf
     gi_wp2_with (gi_at_call 229;refine hcall.mono ?_;rintro e w2 ⟨rfl,hg2,H2⟩)
     go_roundw
     case rel=>exact⟨k+1,by omega,by go_num,H2 (by trivial),dK hg (dK (dJ hb1) hg2),HG.out (by trivial)⟩
     case measure=>simp[intOf];omega
    ·gi_wp2_with (gi_at_call 229;refine hcall.mono ?_;rintro e w2 ⟨rfl,hg2,H2⟩)
     go_ret;exact⟨fJ (wZ.out f hf rfl),dK hg (dK (dJ hb1) hg2)⟩
   ·obtain rfl:k=b.cs.length:=by omega
    have HO:=Lib.hid hok;clear hok;gi_wp2;go_ret;exact⟨fJ (show b.iV=0 from(dA hbig).trans HO.out),hg⟩
end
