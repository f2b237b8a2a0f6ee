/- The fee of a case, inside the fence. -/
import Derived.Sort.BigQuietIn
import Derived.Sort.LoopGhostIn
import Derived.Lib.Hide
import Derived.Lib.AsciiSet
import Derived.Lib.TrimByte
import Derived.Deep.WholeRow
import Derived.Maps.OwnIn
import Derived.Test.YtccjdkghgbbliaaGreatDoorA03
set_option linter.all false
namespace Go.Proofs.YtccjdkghgbbliaaGreatDoor
section
set_option maxHeartbeats 1000000
set_option maxRecDepth 10000
open Go Go.RowKit
theorem AB(a:Int)(w:World):CallsIn Fz 0 Tryz.prog 96 #[.int .i64 a] w λe w'=>e=.returned (.bool (decide (0≤a)&&decide (a≤9999)))∧w'=w:=by
 gi_enter Tryz.func96,Tryz.ntmps96
 gi_wp2_with (gi_at_call 97;refine(eH _ _ _ _).mono ?_;rintro e w' ⟨rfl,rfl⟩)
 go_ret;exact⟨rfl,rfl⟩
theorem ret_ib{x a:Int}{y b:Bool}(h1:x=a)(h2:y=b):Ending.returned (.tuple #[.int .i64 x,.bool y])=.returned (.tuple #[.int .i64 a,.bool b]):=by rw[h1,h2]
theorem fee_raw(kb ko kn kc tb to tn tc c tar:Nat)(day cl du gr ex ba ea fr co:Int)(v0 v3:Value)(s1 s2:ByteArray)(w:World)(hc:c<kn)(ht:tar<tn)(hkb:kb<w.heap.size)(htb:tb<w.heap.size)
 (k0:w.cell? ⟨kb,ko+c * 6,none⟩=some (.string s1)) (k1:w.cell? ⟨kb,ko+c * 6+1,none⟩=some (.int .i64 tar))  (k2:w.cell? ⟨kb,ko+c * 6+2,none⟩=some (.int .i64 cl)) (k3:w.cell? ⟨kb,ko+c * 6+3,none⟩=some (.int .i64 du)) (k4:w.cell? ⟨kb,ko+c * 6+4,none⟩=some (.int .i64 gr)) (k5:w.cell? ⟨kb,ko+c * 6+5,none⟩=some (.int .i64 ex))
 (t0:w.cell? ⟨tb,to+tar * 5,none⟩=some (.string s2)) (t1:w.cell? ⟨tb,to+tar * 5+1,none⟩=some (.int .i64 co))  (t2:w.cell? ⟨tb,to+tar * 5+2,none⟩=some (.int .i64 ba)) (t3:w.cell? ⟨tb,to+tar * 5+3,none⟩=some (.int .i64 ea)) (t4:w.cell? ⟨tb,to+tar * 5+4,none⟩=some (.int .i64 fr))
 (b1:0≤cl) (b2:cl≤45) (b3:0≤fr) (b4:fr≤45) (b5:0≤ea) (b6:ea≤10000) (b7:0≤ba) (b8:ba≤10000) (b9:0≤du) (b10:du≤9999) (b11:0≤gr) (b12:gr≤999) (b13:0≤ex) (b14:ex≤10000) :
 CallsIn Fz 0 Tryz.prog 63 #[.agg #[v0,.slice (some ⟨tb,to,none⟩) tn tc,.slice (some ⟨kb,ko,none⟩) kn kc,v3],.int .i64 c,.int .i64 day] w λe w'=>e=.returned (.tuple #[.int .i64 (qE ba ea fr cl du gr ex day).1,.bool (qE ba ea fr cl du gr ex day).2])∧Below w.heap.size w w':=by
 have hm1:0≤ea * (cl-fr)∨cl<fr:=by
  by_cases h:cl<fr
  ·exact .inr h
  ·exact .inl (Int.mul_nonneg b5 (by omega))
 have hm2:ea * (cl-fr)≤10000 * 45:=by
  by_cases h:cl<fr
  ·have:=Int.mul_nonpos_of_nonneg_of_nonpos b5 (show cl-fr≤0 by omega);omega
  ·exact Int.mul_le_mul b6 (by omega) (by omega) (by omega)
 gi_enter Tryz.func63,Tryz.ntmps63
 gi_wp2
 all_goals
  go_ret2
  refine⟨ret_ib ?_ ?_,(((Below.refl _ _).alloc (ak _) _).alloc (by simp<;>omega) _).alloc (by simp<;>omega) _⟩
  ·unfold qE
   first
    |rw[if_pos (by assumption)]
    |rw[if_neg (by omega),if_pos (by assumption)]
    |rw[if_neg (by omega),if_neg (by omega)]
   try dsimp only
   try first
    |rw[show max 0 (cl-fr)=cl-fr by omega]
    |rw[show max 0 (cl-fr)=0 by omega,Int.mul_zero]
   try (generalize ea * (cl-fr)=p at *;unfold wrap64;omega)
  ·unfold qE
   first
    |rw[if_pos (by assumption)]
    |rw[if_neg (by omega),if_pos (by assumption)]
    |rw[if_neg (by omega),if_neg (by omega)]
theorem lu{N:Nat}{l:Lay}{b:Book}{w:World}(h:dZ N l b w)(hv:Valid b){c:Nat}(hc:c<b.cs.length)(day:Int) :
 CallsIn Fz 0 Tryz.prog 63 #[l.val b,.int .i64 c,.int .i64 day] w λe w'=>e=.returned (.tuple #[.int .i64 (b.fee c day).1,.bool (b.fee c day).2])∧Below w.heap.size w w':=by
 obtain⟨kb,ko,tb,to,H⟩:=h.case hv hc;have hN:=h.hN;have v1:=hv.k _ H.mk_;have v2:=hv.t _ H.mt_;have k:=H.rk;have t:=H.rt;have k0:=k 0 _ rfl;have k1:=k 1 _ rfl;have k2:=k 2 _ rfl;have k3:=k 3 _ rfl;have k4:=k 4 _ rfl;have k5:=k 5 _ rfl;have t0:=t 0 _ rfl;have t1:=t 1 _ rfl;have t2:=t 2 _ rfl;have t3:=t 3 _ rfl;have t4:=t 4 _ rfl;simp only[Nat.add_zero]at k0 t0;unfold Lay.val Book.fee;rw[H.ek,H.et]
 exact fee_raw kb ko b.cs.length l.kc tb to b.ts.length l.tc c (b.aY c).tar day (b.aY c).classes (b.aY c).due (b.aY c).fZ (b.aY c).extra (b.dM c).base (b.dM c).each (b.dM c).free (b.dM c).bg _ _ (b.aY c).name (b.dM c).name w hc H.lt
  (aB H.hk hN) (aB H.ht hN) k0 k1 k2 k3 k4 k5 t0 t1 t2 t3 t4 v1.2.1 v1.2.2.1 v2.2.2.2.2.2.1 v2.2.2.2.2.2.2 v2.2.2.2.1 v2.2.2.2.2.1 v2.2.1 v2.2.2.1 v1.2.2.2.1 v1.2.2.2.2.1 v1.2.2.2.2.2.1 v1.2.2.2.2.2.2.1 v1.2.2.2.2.2.2.2.1 v1.2.2.2.2.2.2.2.2
end
section
set_option maxHeartbeats 1000000
set_option maxRecDepth 10000
open Go Go.RowKit
theorem Iy(kb ko kn kc tb to tn tc c tar:Nat)(co:Int)(v0 v3:Value)(w:World)(hc:c<kn)(ht:tar<tn)(hkb:kb<w.heap.size)(htb:tb<w.heap.size)
 (k1:w.cell? ⟨kb,ko+c * 6+1,none⟩=some (.int .i64 tar)) (t1:w.cell? ⟨tb,to+tar * 5+1,none⟩=some (.int .i64 co)) :
 CallsIn Fz 0 Tryz.prog 144 #[.agg #[v0,.slice (some ⟨tb,to,none⟩) tn tc,.slice (some ⟨kb,ko,none⟩) kn kc,v3],.int .i64 c] w λe w'=>e=.returned (.int .i64 co)∧Below w.heap.size w w':=by
 gi_enter Tryz.func144,Tryz.ntmps144
 gi_wp2;gi_big_quiet_th (fail)
 gi_wp2;go_ret;exact⟨rfl,⟨rfl,rfl,rfl,by simp[World.drewN],λk hk=>((Below.refl w.heap.size w).alloc (ak _) _).block k hk⟩⟩
theorem o7{N:Nat}{l:Lay}{b:Book}{w:World}(h:dZ N l b w)(hv:Valid b){c:Nat}(hc:c<b.cs.length) :
 CallsIn Fz 0 Tryz.prog 144 #[l.val b,.int .i64 c] w λe w'=>e=.returned (.int .i64 (b.bg c:Nat))∧Below w.heap.size w w':=by
 obtain⟨kb,ko,tb,to,H⟩:=h.case hv hc;have hN:=h.hN;have k1:=H.rk 1 _ rfl;have t1:=H.rt 1 _ rfl;unfold Lay.val Book.bg;rw[H.ek,H.et];exact Iy kb ko b.cs.length l.kc tb to b.ts.length l.tc c (b.aY c).tar (b.dM c).bg _ _ w hc H.lt (aB H.hk hN) (aB H.ht hN) k1 t1
end
section
set_option maxHeartbeats 1000000
set_option maxRecDepth 10000
open Go Go.RowKit Lift
theorem Tryz.zL(w:World):(zeroValue 406).run Tryz.prog w=.ok (.agg (Array.replicate 256 (.bool false))) w:=by kernel_rfl
theorem Tryz.wU:(Tryz.prog.info? 406).map (·.size)=some 256:=by kernel_rfl
theorem D5{F:Fence}{n:Nat}{P:Program}{o:Oper}{t:TypeId}{x:Operand}{a:Act}{w:World}{v:Value}{ad:Addr}{K:Act→World→Prop}{Q:Exit→Act→World→Prop}(hop:o.op=.load t x)(hx:a.eval x=.pointer (some ad))
  (h:(loadVar t ad).run P w=.ok v w) (hK:K (a.put o.dst v) w):o.wpIn F n P a w K Q:=by
 unfold Oper.wpIn;refine⟨by simp[Oper.about,hop],?_⟩;rw[Oper.semAt_plain _ _ _ (by rw[hop];intro c hc;cases hc)];simp[execOp,hop,hx,Instr.loadAt,Instr.sureAddr,asAddr,h,Result.andThen];exact hK
theorem zL:Tryz.zeroCells406=Lib.setCells []:=by kernel_rfl
theorem jQ(B:Nat)(x:UInt8)(v:Bool)(w:World)(hc:w.cell? ⟨B,x.toNat,none⟩=some (.bool v)) :
  CallsIn Fz 0 Tryz.prog 305 #[.pointer (some ⟨B,0,none⟩),.int .u8 x.toNat] w λe w'=>e=.returned (.bool v)∧w'=w:=by
 have hx256:(x.toNat:Int)<256:=by have:=UInt8.toNat_lt x;omega
 gi_enter Tryz.func305,Tryz.ntmps305
 gi_wp2;go_ret;exact⟨rfl,rfl⟩
set_option maxHeartbeats 16000000 in
set_option maxRecDepth 1000000 in
theorem yj(chars:ByteArray)(w:World)(hs:chars.size<4294967281)(hascii:∀(j:Nat) b,chars.data.toList[j]?=some b→b.toNat<128) :
  CallsIn Fz 0 Tryz.prog 279 #[.string chars] w λe w'=>e=.returned (.tuple #[.agg (Lib.setCells chars.data.toList),.bool true])∧w'=w.alloc (.cells (Lib.setCells chars.data.toList) 406):=by
 have HA:=Lib.hid hascii;clear hascii;gi_enter Tryz.func279,Tryz.ntmps279
 gi_wp2;rw[zL]
 gi_loopg [4] chars.size (λg s4 wx=>∃i:Nat,i+g=chars.size∧s4=.int .i64 i∧wx=w.alloc (.cells (Lib.setCells (chars.data.toList.take i)) 406))
 case atStart=>exact⟨0,by omega,rfl,rfl⟩
 case round=>
  obtain⟨i,hig,rfl,rfl⟩:=hrel;cases gk with
  |zero=>
   obtain rfl:i=chars.size:=by omega
   have hiz:¬((chars.size:Int)<(chars.size:Int)):=by omega
   rw[show chars.data.toList.take chars.size=chars.data.toList from List.take_of_length_le (by rw[← Lib.size_eq];exact ak _)];have hsz:=Lib.setCells_size chars.data.toList;have hlc:=run_loadCellsFrom_new (P:=Tryz.prog) w 406 (Lib.setCells chars.data.toList) 256 hsz;have hsc:=run_storeCells_new (P:=Tryz.prog) w 406 (Lib.setCells chars.data.toList) (Lib.setCells chars.data.toList) (by rw[hsz];exact Tryz.wU) rfl (Lib.setCells_one _);have hld:=run_loadVar_new (P:=Tryz.prog) w 406 (Lib.setCells chars.data.toList) 256 4 Tryz.underlying406 (by rw[Lib.setCells_size];exact Tryz.wU);have hst:=run_storeVar_new (P:=Tryz.prog) w 406 (Lib.setCells chars.data.toList) (Lib.setCells chars.data.toList) (by rw[hsz];exact Tryz.wU) rfl (Lib.setCells_one _);gi_wp2;refine D5 rfl rfl hld ?_;gi_wp2
   (try simp only[Exit.inBlock,Exit.then])
   refine bodyPost_ret (v:=.tuple #[.agg (Lib.setCells chars.data.toList),.bool true]) ?_ rfl ⟨rfl,rfl⟩;rw[results_cell_tmp rfl];simp[asAddr,Result.andThen,hld]
  |succ g=>
   have hi:i<chars.size:=by omega
   have hiz:(i:Int)<(chars.size:Int):=by omega
   obtain⟨x,hx⟩:∃x:UInt8,chars[i]'hi=x:=⟨_,rfl⟩
   have hxl:chars.data.toList[i]?=some x:=by rw[← hx];exact Lib.data_getElem? chars i hi
   have hx128:¬((128:Int)≤(x.toNat:Int)):=by have:=HA.out i x hxl;omega
   have hx256:(x.toNat:Int)<256:=by have:=HA.out i x hxl;omega
   have hcell:=Lib.setCells_at (chars.data.toList.take i) x;have Hx:=Lib.hid hxl;clear hxl;gi_wp2
   go_roundg g
   case measure=>omega
   case rel=>exact⟨i+1,by omega,by first|rfl|simp,by rw[List.take_add_one,Hx.out];simp only[Option.toList];rw[Lib.setCells_snoc]⟩
set_option maxHeartbeats 8000000 in
set_option maxRecDepth 1000000 in
theorem Hu(s:ByteArray)(B:Nat)(w:World)(hs:s.size≤9223372036854775807)(hset:∀(j:Nat) (x:UInt8),s.data.toList[j]?=some x→w.cell? ⟨B,x.toNat,none⟩=some (.bool true)) :
  CallsIn Fz 0 Tryz.prog 281 #[.string s,.pointer (some ⟨B,0,none⟩)] w λe w'=>e=.returned (.string ⟨#[]⟩)∧w'=w:=by
 have HS:=Lib.hid hset;clear hset;gi_enter Tryz.func281,Tryz.ntmps281
 gi_wp2;gi_loopw [0] (λv wr=>wr=w∧∃k:Nat,k≤s.size∧v=.string ⟨(s.data.toList.take k).toArray⟩) (λv _=>Lib.strSize v)
 case atStart=>
  refine⟨rfl,s.size,ak _,?_⟩;rw[Lib.size_eq,List.take_length,Lib.mk_data]
 case round=>
  obtain⟨rfl,k,hk,rfl⟩:=hrel;have hkl:k≤s.data.toList.length:=by rw[← Lib.size_eq];exact hk
  have hts:(⟨(s.data.toList.take k).toArray⟩:ByteArray).size=k:=by rw[Lib.size_mk,List.length_take];omega
  have hb0:∀h,s.data.toList[k-1]?=some ((⟨(s.data.toList.take k).toArray⟩:ByteArray)[k-1]'h):=by
   intro h;rw[← Lib.getElem_mk (s.data.toList.take k) (k-1) h,List.getElem?_take];rw[hts]at h;rw[if_pos h]
  have hx1:(⟨(s.data.toList.take k).toArray⟩:ByteArray).extract 0 (k-1)=⟨(s.data.toList.take (k-1)).toArray⟩:=by
   rw[Lib.extract_mk,List.drop_zero,List.take_take]
   congr 3
   omega
  have hkl':=Lib.hid hkl;clear hkl;generalize ht:(⟨(s.data.toList.take k).toArray⟩:ByteArray)=t at hts hb0 hx1 ⊢;have hK3:=Lib.hid ht;clear ht;by_cases h0:0<k
  ·have h1:k-1<t.size:=by omega
   have hwr:((k:Int)-1+9223372036854775808) % 18446744073709551616-9223372036854775808=((k-1:Nat):Int):=by omega
   have hcx:=HS.out (k-1) _ (hb0 h1);clear hb0
   gi_wp2_with (gi_at_call 305;refine(jQ B (t[k - 1]'h1) true _ hcx).mono ?_;rintro e w' ⟨rfl,rfl⟩)
   go_roundw
   case rel=>exact⟨by trivial,k-1,by omega,by first|rfl|(rw[hx1])|simp⟩
   case measure=>
    have hkl:k≤s.data.toList.length:=hkl'.out;rw[Lib.strSize_string,Lib.strSize_string,Lib.size_mk,List.length_take];omega
  ·obtain rfl:k=0:=by omega
   clear hb0;gi_wp2;go_ret;refine⟨?_,rfl⟩;rw[← hK3.out];simp
theorem yT(B:Nat)(w:World):CallsIn Fz 0 Tryz.prog 280 #[.string ⟨#[]⟩,.pointer (some ⟨B,0,none⟩)] w λe w'=>e=.returned (.string ⟨#[]⟩)∧w'=w:=by
 gi_enter Tryz.func280,Tryz.ntmps280
 gi_wp2;gi_loopw [0] (λv wr=>wr=w∧v=.string ⟨#[]⟩) (λv _=>Lib.strSize v)
 case atStart=>exact⟨rfl,rfl⟩
 case round=>
  obtain⟨rfl,rfl⟩:=hrel;gi_wp2;go_ret;exact⟨rfl,rfl⟩
end
section
set_option maxHeartbeats 1000000
set_option maxRecDepth 10000
open Go Go.RowKit Lift
def jl(x:UInt8):Bool:=(97≤x&&x≤122)||(48≤x&&x≤57)
def cutset:ByteArray:=⟨#[97,98,99,100,101,102,103,104,105,106,107,108,109,110,111,112,113,114,115,116,117,118,119,120,121,122,48,49,50,51,52,53,54,55,56,57]⟩
structure bY (s:ByteArray):Prop where
 one:1≤s.size
 ten:s.size≤10
 first:∀x,s.data.toList[0]?=some x→97≤x.toNat∧x.toNat≤122
 all:∀(j:Nat) x,s.data.toList[j]?=some x→jl x=true
theorem Rf(x:UInt8)(h:jl x=true):cutset.data.toList.contains x=true:=by
 have key:∀n:Fin 256,jl (UInt8.ofNat n.val)=true→cutset.data.toList.contains (UInt8.ofNat n.val)=true:=by decide +kernel
 have:=key ⟨x.toNat,UInt8.toNat_lt x⟩;simp only[UInt8.ofNat_toNat]at this;exact this h
theorem vY:∀(j:Nat) b,cutset.data.toList[j]?=some b→b.toNat<128:=λj b hb=>by
 have:=List.all_eq_true.1 (show cutset.data.toList.all (λb=>decide (b.toNat<128))=true by decide +kernel) b (List.mem_of_getElem? hb);simpa using this
set_option maxHeartbeats 8000000 in
set_option maxRecDepth 1000000 in
theorem Oo{s:ByteArray}(hs:bY s)(w:World):CallsIn Fz 0 Tryz.prog 261 #[.string s,.string cutset] w λe w'=>e=.returned (.string ⟨#[]⟩)∧Below w.heap.size w w':=by
 have h1:=hs.one;have h2:=hs.ten;have hemp:s.toList.isEmpty=false:=by
  rw[Lib.toList_data];cases h:s.data.toList with
  |nil=>have:=Lib.size_eq s;rw[h,aF]at this;omega
  |cons _ _=>rfl
 have hM:=yj cutset w (by decide) vY;have hsz:=Lib.setCells_size cutset.data.toList;have hn1:((cutset.size:Int)==1)=false:=by decide +kernel
 have hsc:=run_storeCells_new (P:=Tryz.prog) (w.alloc (.cells (Lib.setCells cutset.data.toList) 406)) 406 Tryz.zeroCells406 (Lib.setCells cutset.data.toList) (by rw[hsz];exact Tryz.wU) (by rw[zL,Lib.setCells_size,Lib.setCells_size]) (Lib.setCells_one _);rw[World.size_alloc]at hsc;have hB:Below w.heap.size w ((w.alloc (.cells (Lib.setCells cutset.data.toList) 406)).alloc (.cells (Lib.setCells cutset.data.toList) 406)):=((Below.refl _ w).alloc (ak _) _).alloc (by simp) _;have hR:=Hu s (w.heap.size+1) ((w.alloc (.cells (Lib.setCells cutset.data.toList) 406)).alloc (.cells (Lib.setCells cutset.data.toList) 406)) (by omega) (λj x hx=>by
  rw[World.cell?_alloc_at _ _ _ _ (by simp),Lib.setCells_at,Rf x (hs.all j x hx)])
 have hce:cutset.toList.isEmpty=false:=by rw[Lib.toList_data];decide +kernel
 have hL:=yT (w.heap.size+1);gi_enter Tryz.func261,Tryz.ntmps261
 gi_wp2_with (first
  |(gi_at_call 279;refine hM.mono ?_;rintro e w' ⟨rfl,rfl⟩)
  |(gi_at_call 281;refine hR.mono ?_;rintro e w' ⟨rfl,rfl⟩)
  |(gi_at_call 280;refine(hL _).mono ?_;rintro e w' ⟨rfl,rfl⟩))
 go_ret;exact⟨rfl,hB⟩
def Dw(s:ByteArray):Lit:=.string s.data.toList
theorem Tryz.AP:Maps.Keyed Tryz.prog 9:=Maps.string_keyed Tryz.underlying9
def uI(w:World)(M:Nat)(ns:List ByteArray):Prop:=
 ∃(D:DataW Nat) (n:Nat),n≤ns.length∧w.ownsMap Tryz.prog 9 (plainElem Tryz.prog 3) M n D∧Maps.size D≤n∧∀s,s∉ns→Maps.has D (Dw s)=false
theorem Jp{a b:ByteArray}(h:Dw a=Dw b):a=b:=by
 unfold Dw at h;have h1:a.data.toList=b.data.toList:=Lit.string.inj h;obtain⟨⟨x⟩⟩:=a;obtain⟨⟨y⟩⟩:=b;simp only at h1;rw[h1]
theorem uI.lt{w:World}{M:Nat}{ns:List ByteArray}(h:uI w M ns):M<w.heap.size:=by obtain⟨D,n,_,h,_⟩:=h;exact h.lt
theorem uI.made(w:World):uI (w.alloc (.map #[] 0)) w.heap.size []:=⟨.map [],0,ak _,World.ownsMap_made w _ _ _,ak _,λs _=>rfl⟩
theorem uI.same{w w':World}{M:Nat}{ns:List ByteArray}(h:uI w M ns)(hb:Below w.heap.size w w'):uI w' M ns:=by
 obtain⟨D,n,h1,h2,h3⟩:=h;exact⟨D,n,h1,h2.kept (row:=none) ⟨hb.os,hb.tape,hb.output,hb.size,λk hk _=>hb.block k hk⟩ (by simp),h3⟩
theorem Om{k:Nat}(h:k≤100):(Lit.int .i64 (k:Int)).wf=true:=by
 have:wrap64 (k:Int)=k:=by unfold wrap64;omega
 rw[← this];exact wrap64_wf _
theorem lG(base:Option Addr)(n cap:Nat)(x:Int)(hn:n≤1000)(w:World):CallsIn Fz 0 Tryz.prog 46 #[.slice base n cap,.int .i64 x] w λe w'=>e=.returned (.bool (decide (0≤x)&&decide (x≤n-1)))∧w'=w:=by
 have hw:wrap64 ((n:Int)-1)=n-1:=by unfold wrap64;omega
 gi_enter Tryz.func46,Tryz.ntmps46
 gi_wp2_with (gi_at_call 97;refine(eH _ _ _ _).mono ?_;rintro e w' ⟨rfl,rfl⟩)
 go_ret;exact⟨rfl,rfl⟩
theorem uX(base:Option Addr)(n cap:Nat)(x:Int)(hn:n≤1000)(w:World):CallsIn Fz 0 Tryz.prog 79 #[.slice base n cap,.int .i64 x] w λe w'=>e=.returned (.bool (decide (0≤x)&&decide (x≤n-1)))∧w'=w:=by
 have hw:wrap64 ((n:Int)-1)=n-1:=by unfold wrap64;omega
 gi_enter Tryz.func79,Tryz.ntmps79
 gi_wp2_with (gi_at_call 97;refine(eH _ _ _ _).mono ?_;rintro e w' ⟨rfl,rfl⟩)
 go_ret;exact⟨rfl,rfl⟩
theorem Az(base:Option Addr)(n cap:Nat)(x:Int)(hn:n≤1000)(w:World):CallsIn Fz 0 Tryz.prog 230 #[.slice base n cap,.int .i64 x] w λe w'=>e=.returned (.bool (decide (0≤x)&&decide (x≤n-1)))∧w'=w:=by
 have hw:wrap64 ((n:Int)-1)=n-1:=by unfold wrap64;omega
 gi_enter Tryz.func230,Tryz.ntmps230
 gi_wp2_with (gi_at_call 97;refine(eH _ _ _ _).mono ?_;rintro e w' ⟨rfl,rfl⟩)
 go_ret;exact⟨rfl,rfl⟩
theorem jR(base:Option Addr)(n cap:Nat)(x:Int)(hn:n≤1000)(w:World):CallsIn Fz 0 Tryz.prog 150 #[.slice base n cap,.int .i64 x] w λe w'=>e=.returned (.bool (decide (0≤x)&&decide (x≤n-1)))∧w'=w:=by
 have hw:wrap64 ((n:Int)-1)=n-1:=by unfold wrap64;omega
 gi_enter Tryz.func150,Tryz.ntmps150
 gi_wp2_with (gi_at_call 97;refine(eH _ _ _ _).mono ?_;rintro e w' ⟨rfl,rfl⟩)
 go_ret;exact⟨rfl,rfl⟩
end
