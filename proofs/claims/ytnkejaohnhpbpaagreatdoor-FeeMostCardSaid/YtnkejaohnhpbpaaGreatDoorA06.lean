/- strings.Trim where all is trimmed away, inside the fence. -/
import Derived.Sort.LoopGhostIn
import Derived.Lib.Hide
import Derived.Lib.AsciiSet
import Derived.Lib.TrimByte
import Derived.Lib.Strings
import Derived.Lib.IndexBytes
import Derived.Laws.Strings3
import Derived.Laws.ResultCell
import Derived.Deep.WholeRow
import Derived.Maps.OwnIn
import Derived.Sort.MapsRangeIn
import Derived.StringKeys
import Derived.Test.YtnkejaohnhpbpaaGreatDoorA05
set_option linter.all false
section
namespace Go.Proofs.YtnkejaohnhpbpaaGreatDoor
open Go Go.RowKit Lift
theorem Tryz.zero186 (w:World):(zeroValue 186).run Tryz.prog w = .ok (.agg (Array.replicate 256 (.bool false))) w:=by kernel_rfl
theorem Tryz.size186:(Tryz.prog.info? 186).map (·.size) = some 256:=by kernel_rfl
theorem wpIn_load_val {F:Fence} {n:Nat} {P:Program} {o:Oper} {t:TypeId} {x:Operand} {a:Act} {w:World} {v:Value} {ad:Addr} {K:Act → World → Prop} {Q:Exit → Act → World → Prop} (hop:o.op = .load t x) (hx:a.eval x = .pointer (some ad))
  (h:(loadVar t ad).run P w = .ok v w) (hK:K (a.put o.dst v) w):o.wpIn F n P a w K Q:=by
 unfold Oper.wpIn;refine ⟨by simp [Oper.about,hop],?_⟩;rw [Oper.semAt_plain _ _ _ (by rw [hop];intro c hc;cases hc)];simp [execOp,hop,hx,Instr.loadAt,Instr.sureAddr,asAddr,h,Result.andThen];exact hK
theorem zero186:Tryz.zeroCells186 = Lib.setCells []:=by kernel_rfl
theorem contains_in (B:Nat) (x:UInt8) (v:Bool) (w:World) (hc:w.cell? ⟨B,x.toNat,none⟩ = some (.bool v)) :
  CallsIn Fz 0 Tryz.prog 152 #[.pointer (some ⟨B,0,none⟩),.int .u8 x.toNat] w fun e w' => e = .returned (.bool v) ∧ w' = w:=by
 have hx256:(x.toNat:Int) < 256:=by have:=UInt8.toNat_lt x;omega
 gi_enter Tryz.func152,Tryz.ntmps152
 gi_wp2;go_ret;exact ⟨rfl,rfl⟩
set_option maxHeartbeats 4000000 in
set_option maxRecDepth 1000000 in
theorem asciiSet_in (chars:ByteArray) (w:World) (hs:chars.size < 4294967281) (hascii:∀ (j:Nat) b,chars.data.toList[j]? = some b → b.toNat < 128) :
  CallsIn Fz 0 Tryz.prog 137 #[.string chars] w fun e w' => e = .returned (.tuple #[.agg (Lib.setCells chars.data.toList),.bool true]) ∧ w' = w.alloc (.cells (Lib.setCells chars.data.toList) 186):=by
 have HA:=Lib.hid hascii;clear hascii;gi_enter Tryz.func137,Tryz.ntmps137
 gi_wp2;rw [zero186]
 gi_loopg [4] chars.size (fun g s4 wx => ∃ i:Nat,i + g = chars.size ∧ s4 = .int .i64 i ∧ wx = w.alloc (.cells (Lib.setCells (chars.data.toList.take i)) 186))
 case atStart => exact ⟨0,by omega,rfl,rfl⟩
 case round =>
  obtain ⟨i,hig,rfl,rfl⟩:=hrel;cases gk with
  | zero =>
   obtain rfl:i = chars.size:=by omega
   have hiz:¬ ((chars.size:Int) < (chars.size:Int)):=by omega
   rw [show chars.data.toList.take chars.size = chars.data.toList from List.take_of_length_le (by rw [← Lib.size_eq];exact Nat.le_refl _)];have hsz:=Lib.setCells_size chars.data.toList;have hlc:=run_loadCellsFrom_new (P:=Tryz.prog) w 186 (Lib.setCells chars.data.toList) 256 hsz;have hsc:=run_storeCells_new (P:=Tryz.prog) w 186 (Lib.setCells chars.data.toList) (Lib.setCells chars.data.toList) (by rw [hsz];exact Tryz.size186) rfl (Lib.setCells_one _);have hld:=run_loadVar_new (P:=Tryz.prog) w 186 (Lib.setCells chars.data.toList) 256 4 Tryz.underlying186 (by rw [Lib.setCells_size];exact Tryz.size186);have hst:=run_storeVar_new (P:=Tryz.prog) w 186 (Lib.setCells chars.data.toList) (Lib.setCells chars.data.toList) (by rw [hsz];exact Tryz.size186) rfl (Lib.setCells_one _);gi_wp2;refine wpIn_load_val rfl rfl hld ?_;gi_wp2
   (try simp only [Exit.inBlock,Exit.then])
   refine bodyPost_ret (v:=.tuple #[.agg (Lib.setCells chars.data.toList),.bool true]) ?_ rfl ⟨rfl,rfl⟩;rw [results_cell_tmp rfl];simp [asAddr,Result.andThen,hld]
  | succ g =>
   have hi:i < chars.size:=by omega
   have hiz:(i:Int) < (chars.size:Int):=by omega
   obtain ⟨x,hx⟩:∃ x:UInt8,chars[i]'hi = x:=⟨_,rfl⟩
   have hxl:chars.data.toList[i]? = some x:=by rw [← hx];exact Lib.data_getElem? chars i hi
   have hx128:¬ ((128:Int) ≤ (x.toNat:Int)):=by have:=HA.out i x hxl;omega
   have hx256:(x.toNat:Int) < 256:=by have:=HA.out i x hxl;omega
   have hcell:=Lib.setCells_at (chars.data.toList.take i) x;have Hx:=Lib.hid hxl;clear hxl;gi_wp2
   go_roundg g
   case measure => omega
   case rel => exact ⟨i + 1,by omega,by first | rfl | simp,by rw [List.take_add_one,Hx.out];simp only [Option.toList];rw [Lib.setCells_snoc]⟩
set_option maxHeartbeats 2000000 in
set_option maxRecDepth 1000000 in
theorem trimRight_in (s:ByteArray) (B:Nat) (w:World) (hs:s.size ≤ 9223372036854775807) (hset:∀ (j:Nat) (x:UInt8),s.data.toList[j]? = some x → w.cell? ⟨B,x.toNat,none⟩ = some (.bool true)) :
  CallsIn Fz 0 Tryz.prog 139 #[.string s,.pointer (some ⟨B,0,none⟩)] w fun e w' => e = .returned (.string ⟨#[]⟩) ∧ w' = w:=by
 have HS:=Lib.hid hset;clear hset;gi_enter Tryz.func139,Tryz.ntmps139
 gi_wp2;gi_loopw [0] (fun v wr => wr = w ∧ ∃ k:Nat,k ≤ s.size ∧ v = .string ⟨(s.data.toList.take k).toArray⟩) (fun v _ => Lib.strSize v)
 case atStart =>
  refine ⟨rfl,s.size,Nat.le_refl _,?_⟩;rw [Lib.size_eq,List.take_length,Lib.mk_data]
 case round =>
  obtain ⟨rfl,k,hk,rfl⟩:=hrel;have hkl:k ≤ s.data.toList.length:=by rw [← Lib.size_eq];exact hk
  have hts:(⟨(s.data.toList.take k).toArray⟩:ByteArray).size = k:=by rw [Lib.size_mk,List.length_take];omega
  have hb0:∀ h,s.data.toList[k - 1]? = some ((⟨(s.data.toList.take k).toArray⟩:ByteArray)[k - 1]'h):=by
   intro h;rw [← Lib.getElem_mk (s.data.toList.take k) (k - 1) h,List.getElem?_take];rw [hts] at h;rw [if_pos h]
  have hx1:(⟨(s.data.toList.take k).toArray⟩:ByteArray).extract 0 (k - 1) = ⟨(s.data.toList.take (k - 1)).toArray⟩:=by
   rw [Lib.extract_mk,List.drop_zero,List.take_take]
   congr 3
   omega
  have hkl':=Lib.hid hkl;clear hkl;generalize ht:(⟨(s.data.toList.take k).toArray⟩:ByteArray) = t at hts hb0 hx1 ⊢;have hK3:=Lib.hid ht;clear ht;by_cases h0:0 < k
  ·have h1:k - 1 < t.size:=by omega
   have hwr:((k:Int) - 1 + 9223372036854775808) % 18446744073709551616 - 9223372036854775808 = ((k - 1:Nat):Int):=by omega
   have hcx:=HS.out (k - 1) _ (hb0 h1);clear hb0
   gi_wp2_with (gi_at_call 152;refine (contains_in B (t[k - 1]'h1) true _ hcx).mono ?_;rintro e w' ⟨rfl,rfl⟩)
   go_roundw
   case rel => exact ⟨by trivial,k - 1,by omega,by first | rfl | (rw [hx1]) | simp⟩
   case measure =>
    have hkl:k ≤ s.data.toList.length:=hkl'.out;rw [Lib.strSize_string,Lib.strSize_string,Lib.size_mk,List.length_take];omega
  ·obtain rfl:k = 0:=by omega
   clear hb0;gi_wp2;go_ret;refine ⟨?_,rfl⟩;rw [← hK3.out];simp
theorem trimLeft_in (B:Nat) (w:World):CallsIn Fz 0 Tryz.prog 138 #[.string ⟨#[]⟩,.pointer (some ⟨B,0,none⟩)] w fun e w' => e = .returned (.string ⟨#[]⟩) ∧ w' = w:=by
 gi_enter Tryz.func138,Tryz.ntmps138
 gi_wp2;gi_loopw [0] (fun v wr => wr = w ∧ v = .string ⟨#[]⟩) (fun v _ => Lib.strSize v)
 case atStart => exact ⟨rfl,rfl⟩
 case round =>
  obtain ⟨rfl,rfl⟩:=hrel;gi_wp2;go_ret;exact ⟨rfl,rfl⟩
end Go.Proofs.YtnkejaohnhpbpaaGreatDoor
end
section
namespace Go.Proofs.YtnkejaohnhpbpaaGreatDoor
open Go Go.RowKit Lift
def alnum (x:UInt8):Bool:=(97 ≤ x && x ≤ 122) || (48 ≤ x && x ≤ 57)
def cutset:ByteArray:=⟨#[97,98,99,100,101,102,103,104,105,106,107,108,109,110,111,112,113,114,115,116,117,118,119,120,121,122,48,49,50,51,52,53,54,55,56,57]⟩
structure NameOk (s:ByteArray):Prop where
 one:1 ≤ s.size
 ten:s.size ≤ 10
 first:∀ x,s.data.toList[0]? = some x → 97 ≤ x.toNat ∧ x.toNat ≤ 122
 all:∀ (j:Nat) x,s.data.toList[j]? = some x → alnum x = true
theorem alnum_in (x:UInt8) (h:alnum x = true):cutset.data.toList.contains x = true:=by
 have key:∀ n:Fin 256,alnum (UInt8.ofNat n.val) = true → cutset.data.toList.contains (UInt8.ofNat n.val) = true:=by decide +kernel
 have:=key ⟨x.toNat,UInt8.toNat_lt x⟩;simp only [UInt8.ofNat_toNat] at this;exact this h
theorem cutset_ascii:∀ (j:Nat) b,cutset.data.toList[j]? = some b → b.toNat < 128:=fun j b hb => by
 have:=List.all_eq_true.1 (show cutset.data.toList.all (fun b => decide (b.toNat < 128)) = true by decide +kernel) b (List.mem_of_getElem? hb);simpa using this
set_option maxHeartbeats 2000000 in
set_option maxRecDepth 1000000 in
theorem trim_in {s:ByteArray} (hs:NameOk s) (w:World):CallsIn Fz 0 Tryz.prog 107 #[.string s,.string cutset] w fun e w' => e = .returned (.string ⟨#[]⟩) ∧ Below w.heap.size w w':=by
 have h1:=hs.one;have h2:=hs.ten;have hemp:s.toList.isEmpty = false:=by
  rw [Lib.toList_data];cases h:s.data.toList with
  | nil => have:=Lib.size_eq s;rw [h,List.length_nil] at this;omega
  | cons _ _ => rfl
 have hM:=asciiSet_in cutset w (by decide) cutset_ascii;have hsz:=Lib.setCells_size cutset.data.toList;have hn1:((cutset.size:Int) == 1) = false:=by decide +kernel
 have hsc:=run_storeCells_new (P:=Tryz.prog) (w.alloc (.cells (Lib.setCells cutset.data.toList) 186)) 186 Tryz.zeroCells186 (Lib.setCells cutset.data.toList) (by rw [hsz];exact Tryz.size186) (by rw [zero186,Lib.setCells_size,Lib.setCells_size]) (Lib.setCells_one _);rw [World.size_alloc] at hsc;have hB:Below w.heap.size w ((w.alloc (.cells (Lib.setCells cutset.data.toList) 186)).alloc (.cells (Lib.setCells cutset.data.toList) 186)):=((Below.refl _ w).alloc (Nat.le_refl _) _).alloc (by simp) _;have hR:=trimRight_in s (w.heap.size + 1) ((w.alloc (.cells (Lib.setCells cutset.data.toList) 186)).alloc (.cells (Lib.setCells cutset.data.toList) 186)) (by omega) (fun j x hx => by
  rw [World.cell?_alloc_at _ _ _ _ (by simp),Lib.setCells_at,alnum_in x (hs.all j x hx)])
 have hce:cutset.toList.isEmpty = false:=by rw [Lib.toList_data];decide +kernel
 have hL:=trimLeft_in (w.heap.size + 1);gi_enter Tryz.func107,Tryz.ntmps107
 gi_wp2_with (first
  | (gi_at_call 137;refine hM.mono ?_;rintro e w' ⟨rfl,rfl⟩)
  | (gi_at_call 139;refine hR.mono ?_;rintro e w' ⟨rfl,rfl⟩)
  | (gi_at_call 138;refine (hL _).mono ?_;rintro e w' ⟨rfl,rfl⟩))
 go_ret;exact ⟨rfl,hB⟩
def nlit (s:ByteArray):Lit:=.string s.data.toList
theorem Tryz.keyed9:Maps.Keyed Tryz.prog 9:=Maps.string_keyed Tryz.underlying9
def SeenAt (w:World) (M:Nat) (ns:List ByteArray):Prop:=
 ∃ (D:DataW Nat) (n:Nat),n ≤ ns.length ∧ w.ownsMap Tryz.prog 9 (plainElem Tryz.prog 3) M n D ∧ Maps.size D ≤ n ∧ ∀ s,s ∉ ns → Maps.has D (nlit s) = false
theorem nlit_inj {a b:ByteArray} (h:nlit a = nlit b):a = b:=by
 unfold nlit at h;have h1:a.data.toList = b.data.toList:=Lit.string.inj h;obtain ⟨⟨x⟩⟩:=a;obtain ⟨⟨y⟩⟩:=b;simp only at h1;rw [h1]
theorem SeenAt.lt {w:World} {M:Nat} {ns:List ByteArray} (h:SeenAt w M ns):M < w.heap.size:=by obtain ⟨D,n,_,h,_⟩:=h;exact h.lt
theorem SeenAt.made (w:World):SeenAt (w.alloc (.map #[] 0)) w.heap.size []:=⟨.map [],0,Nat.le_refl _,World.ownsMap_made w _ _ _,Nat.le_refl _,fun s _ => rfl⟩
theorem SeenAt.same {w w':World} {M:Nat} {ns:List ByteArray} (h:SeenAt w M ns) (hb:Below w.heap.size w w'):SeenAt w' M ns:=by
 obtain ⟨D,n,h1,h2,h3⟩:=h;exact ⟨D,n,h1,h2.kept (row:=none) ⟨hb.os,hb.tape,hb.output,hb.size,fun k hk _ => hb.block k hk⟩ (by simp),h3⟩
theorem size_wf {k:Nat} (h:k ≤ 100):(Lit.int .i64 (k:Int)).wf = true:=by
 have:wrap64 (k:Int) = k:=by unfold wrap64;omega
 rw [← this];exact wrap64_wf _
set_option maxHeartbeats 2000000 in
set_option maxRecDepth 1000000 in
theorem add_in {s:ByteArray} (hs:NameOk s) {M:Nat} {ns:List ByteArray} (hn:s ∉ ns) (hl:ns.length ≤ 10) {w:World} (h:SeenAt w M ns) :
  CallsIn Fz 0 Tryz.prog 80 #[.map (some M),.string s] w fun e w' => e = .returned (.int .i64 0) ∧ SeenAt w' M (ns ++ [s]) ∧ w.grownBy w' (some M):=by
 have h1:=hs.one;have h2:=hs.ten;have hkey:keyOf Tryz.prog 9 (.string s) = some (nlit s):=WideMaps.keyOf_string_mk Tryz.underlying9 (by unfold maxLen;omega);have hp:0 < s.size:=by omega
 obtain ⟨x1,x2⟩:=hs.first _ (Lib.data_getElem? s 0 hp);have x3:wrap64 ((s[0]'hp).toNat:Int) = ((s[0]'hp).toNat:Int):=by have:=UInt8.toNat_lt (s[0]'hp);unfold wrap64;omega
 have x4:(97:Int) ≤ wrap64 ((s[0]'hp).toNat:Int):=by rw [x3];omega
 have x5:wrap64 ((s[0]'hp).toNat:Int) ≤ 122:=by rw [x3];omega
 clear x1 x2 x3;gi_enter Tryz.func80,Tryz.ntmps80
 gi_wp2_with (first
  | (gi_at_call 76;refine (between_in _ _ _ _).mono ?_;rintro e w' ⟨rfl,rfl⟩)
  | (gi_at_call 107;refine (trim_in hs _).mono ?_;rintro e w2 ⟨rfl,hb2⟩;obtain ⟨D,n,d1,hown,d2,d3⟩:=h.same hb2;have hno:=d3 s hn;have hwf:=size_wf (show Maps.size D ≤ 100 by omega))
  | (gi_at_lookup;refine wpListIn_lookup_own_ok_int _ rfl _ _ 126 rfl 9 3 .i64 Tryz.keyed9 Tryz.underlying126 Tryz.underlying3 (Tryz.zeroValue3 _) M n D rfl hown _ _ rfl hkey ?_;intro c hat hwc;rw [hno])
  | (gi_at_len;refine wpListIn_len_own _ rfl _ 126 rfl 9 3 Tryz.underlying126 (plainElem Tryz.prog 3) M n D rfl hown ?_)
  | (gi_at_mapUpdate;refine wpListIn_mapUpdate_own _ rfl _ _ _ 126 rfl 9 3 Tryz.keyed9 Tryz.underlying126 (plainElem Tryz.prog 3) M n D rfl hown (by unfold maxLen;omega) _ _ _ rfl rfl hkey _ [] (plainElem_int Tryz.underlying3 hwf) ?_;intro w3 hown3 hgrow3))
 go_ret;have hlt:=h.lt;have hsz:=hb2.size;refine ⟨rfl,⟨_,_,by simp;omega,hown3,hown3.size_le,fun s' hs' => ?_⟩,⟨hgrow3.os.trans hb2.os,hgrow3.tape.trans hb2.tape,hgrow3.output.trans hb2.output,Nat.le_trans hb2.size hgrow3.size,fun i hi hr => (hgrow3.block i (Nat.lt_of_lt_of_le hi hb2.size) hr).trans (hb2.block i hi)⟩⟩;rw [Maps.has_put_other (fun e => hs' (by rw [nlit_inj e];simp))];exact d3 s' (fun h' => hs' (by simp [h']))
theorem index44_in (base:Option Addr) (n cap:Nat) (x:Int) (hn:n ≤ 1000) (w:World):CallsIn Fz 0 Tryz.prog 44 #[.slice base n cap,.int .i64 x] w fun e w' => e = .returned (.bool (decide (0 ≤ x) && decide (x ≤ n - 1))) ∧ w' = w:=by
 have hw:wrap64 ((n:Int) - 1) = n - 1:=by unfold wrap64;omega
 gi_enter Tryz.func44,Tryz.ntmps44
 gi_wp2_with (gi_at_call 76;refine (between_in _ _ _ _).mono ?_;rintro e w' ⟨rfl,rfl⟩)
 go_ret;exact ⟨rfl,rfl⟩
theorem index59_in (base:Option Addr) (n cap:Nat) (x:Int) (hn:n ≤ 1000) (w:World):CallsIn Fz 0 Tryz.prog 59 #[.slice base n cap,.int .i64 x] w fun e w' => e = .returned (.bool (decide (0 ≤ x) && decide (x ≤ n - 1))) ∧ w' = w:=by
 have hw:wrap64 ((n:Int) - 1) = n - 1:=by unfold wrap64;omega
 gi_enter Tryz.func59,Tryz.ntmps59
 gi_wp2_with (gi_at_call 76;refine (between_in _ _ _ _).mono ?_;rintro e w' ⟨rfl,rfl⟩)
 go_ret;exact ⟨rfl,rfl⟩
theorem index85_in (base:Option Addr) (n cap:Nat) (x:Int) (hn:n ≤ 1000) (w:World):CallsIn Fz 0 Tryz.prog 85 #[.slice base n cap,.int .i64 x] w fun e w' => e = .returned (.bool (decide (0 ≤ x) && decide (x ≤ n - 1))) ∧ w' = w:=by
 have hw:wrap64 ((n:Int) - 1) = n - 1:=by unfold wrap64;omega
 gi_enter Tryz.func85,Tryz.ntmps85
 gi_wp2_with (gi_at_call 76;refine (between_in _ _ _ _).mono ?_;rintro e w' ⟨rfl,rfl⟩)
 go_ret;exact ⟨rfl,rfl⟩
theorem index104_in (base:Option Addr) (n cap:Nat) (x:Int) (hn:n ≤ 1000) (w:World):CallsIn Fz 0 Tryz.prog 104 #[.slice base n cap,.int .i64 x] w fun e w' => e = .returned (.bool (decide (0 ≤ x) && decide (x ≤ n - 1))) ∧ w' = w:=by
 have hw:wrap64 ((n:Int) - 1) = n - 1:=by unfold wrap64;omega
 gi_enter Tryz.func104,Tryz.ntmps104
 gi_wp2_with (gi_at_call 76;refine (between_in _ _ _ _).mono ?_;rintro e w' ⟨rfl,rfl⟩)
 go_ret;exact ⟨rfl,rfl⟩
end Go.Proofs.YtnkejaohnhpbpaaGreatDoor
end
