/- CheckBook on a book that is right: inside the fence. -/
import Derived.Laws.EntriesVeiled
import Derived.Test.YtnkejaohnhpbpaaGreatDoorA06
import Derived.Test.YtnkejaohnhpbpaaGreatDoorA13
set_option linter.all false
section
namespace Go.Proofs.YtnkejaohnhpbpaaGreatDoor
open Go Go.RowKit Lift
structure Full (b:Book):Prop where
 v:Valid b
 cn:∀ s ∈ b.coins,NameOk s
 cd:b.coins.Nodup
 tn:∀ t ∈ b.ts,NameOk t.name
 td:(b.ts.map (·.name)).Nodup
 kn:∀ c ∈ b.cs,NameOk c.name
 kd:(b.cs.map (·.name)).Nodup
 mv:∀ p ∈ b.ps,p.kind = 2 → p.coin = b.coin p.cas
theorem gb_trans {A B C:World} {row:Option Nat} (h:A.grownBy B row) (k:B.grownBy C row):A.grownBy C row:=
 ⟨k.os.trans h.os,k.tape.trans h.tape,k.output.trans h.output,Nat.le_trans h.size k.size,fun i hi hr => (k.block i (Nat.lt_of_lt_of_le hi h.size) hr).trans (h.block i hi hr)⟩
theorem gb_below {A B:World} {row:Option Nat} (h:Below A.heap.size A B):A.grownBy B row:=⟨h.os,h.tape,h.output,h.size,fun k hk _ => h.block k hk⟩
theorem gb_refl (A:World) (row:Option Nat):A.grownBy A row:=⟨rfl,rfl,rfl,Nat.le_refl _,fun _ _ _ => rfl⟩
theorem below_gb {N M:Nat} {A B:World} (h:A.grownBy B (some M)) (hN:N ≤ M) (hs:N ≤ A.heap.size):Below N A B:=(Below.refl N A).grown h hs (fun k e => by cases e;exact hN)
theorem Blk.gb {A B:World} {k M:Nat} {ty:TypeId} {cs:Array Value} (h:Blk A k ty cs) (hg:A.grownBy B (some M)) (hne:k ≠ M):Blk B k ty cs:=(hg.block k h.lt (by simpa using hne)).trans h
theorem nodup_take {l:List ByteArray} (h:l.Nodup) {k:Nat} (hk:k < l.length):l[k] ∉ l.take k:=fun hm => by
 obtain ⟨j,hj,e⟩:=List.mem_iff_getElem.1 hm;rw [List.length_take] at hj;rw [List.getElem_take] at e;have:=List.pairwise_iff_getElem.1 h j k (by omega) hk (by omega);exact this e
set_option maxHeartbeats 2000000 in
theorem eachCoin_in {N:Nat} {l:Lay} {b:Book} {w:World} (hbk:BkAt N l b w) (hf:Full b) {M:Nat} (hM:N ≤ M) (h:SeenAt w M []) :
  CallsIn Fz 0 Tryz.prog 79 #[.slice l.cb b.coins.length l.cc,.int .i64 3,.func (.func 80) #[.map (some M)] #[]] w fun e w' => e = .returned (.int .i64 0) ∧ w.grownBy w' (some M):=by
 have hnc:=hf.v.nc;have hNw:=hbk.hN;gi_enter Tryz.func79,Tryz.ntmps79
 gi_wp2;gi_loopw [16] (fun i wr => ∃ k:Nat,k ≤ b.coins.length ∧ i = .int .i64 k ∧ SeenAt wr M (b.coins.take k) ∧ w.grownBy wr (some M)) (fun i _ => b.coins.length - (intOf i).toNat)
 case atStart => exact ⟨0,Nat.zero_le _,rfl,h,gb_refl _ _⟩
 case round =>
  obtain ⟨k,hk,rfl,H,hg⟩:=hrel;by_cases hlt:k < b.coins.length
  ·have hbr:=hbk.below (below_gb hg hM hNw);obtain ⟨cb,co,e1,e2,e3⟩:=hbr.cs k [.string b.coins[k]] (by simp [hlt]);have c0:=e3 0 _ rfl;simp only [Nat.mul_one,Nat.add_zero] at c0;have hpw:cb < wr.heap.size:=Nat.lt_of_lt_of_le e2 hbr.hN;rw [e1];have ha:=add_in (hf.cn _ (List.getElem_mem hlt)) (nodup_take hf.cd hlt) (by rw [List.length_take];omega) H;have htk:b.coins.take k ++ [b.coins[k]] = b.coins.take (k + 1):=by rw [List.take_add_one,List.getElem?_eq_getElem hlt];rfl
   generalize b.coins[k] = s at *
   gi_wp2_with (gi_at_call 80;refine ha.mono ?_;rintro e w2 ⟨rfl,H2,hg2⟩)
   go_roundw
   case rel => exact ⟨k + 1,by omega,by go_num,by rw [← htk];exact H2,gb_trans hg hg2⟩
   case measure => simp [intOf];omega
  ·obtain rfl:k = b.coins.length:=by omega
   gi_wp2;go_ret;exact ⟨rfl,hg⟩
end Go.Proofs.YtnkejaohnhpbpaaGreatDoor
end
section
namespace Go.Proofs.YtnkejaohnhpbpaaGreatDoor
open Go Go.RowKit Lift
theorem SeenAt.ne {w:World} {M k:Nat} {ns:List ByteArray} {ty:TypeId} {cs:Array Value} (h:SeenAt w M ns) (hb:Blk w k ty cs):k ≠ M:=fun e => by
 obtain ⟨D,n,_,⟨es,cl,h1,_⟩,_⟩:=h;have hb':w.heap[k]? = some (.cells cs ty (0,0)):=hb;rw [e,h1] at hb';cases hb'
theorem nodup_take' {α:Type} {l:List α} {f:α → ByteArray} (h:(l.map f).Nodup) {k:Nat} (hk:k < l.length):f l[k] ∉ (l.take k).map f:=fun hm => by
 obtain ⟨x,hx,e⟩:=List.mem_map.1 hm;obtain ⟨j,hj,e2⟩:=List.mem_iff_getElem.1 hx;rw [List.length_take] at hj;rw [List.getElem_take] at e2;have:=List.pairwise_iff_getElem.1 h j k (by simp;omega) (by simp;omega) (by omega);simp only [List.getElem_map] at this;rw [e2] at this;exact this e
set_option maxHeartbeats 4000000 in
theorem tariff1_in {w:World} {nm:ByteArray} {co:Nat} {ba ea fr:Int} (hn:NameOk nm) (v2:0 ≤ ba) (v3:ba ≤ 10000) (v4:0 ≤ ea) (v5:ea ≤ 10000) (v6:0 ≤ fr) (v7:fr ≤ 45) {M Sv B1:Nat} {ns:List ByteArray} (hnin:nm ∉ ns) (hl:ns.length ≤ 10) (h:SeenAt w M ns) (hS:Blk w Sv 126 #[.map (some M)])
  {cb tb kb pb:Option Addr} {nc nt nk np cc tc kc pc:Nat} (hB:Blk w B1 77 #[.slice cb nc cc,.slice tb nt tc,.slice kb nk kc,.slice pb np pc]) (hnc:nc ≤ 3) (hnt:nt ≤ 4) (v1:(co:Int) ≤ nc - 1) :
  CallsIn Fz 0 Tryz.prog 82 #[.agg #[.string nm,.int .i64 co,.int .i64 ba,.int .i64 ea,.int .i64 fr],.pointer (some ⟨Sv,0,none⟩),.pointer (some ⟨B1,0,none⟩)] w fun e w' => e = .returned (.int .i64 0) ∧ SeenAt w' M (ns ++ [nm]) ∧ w.grownBy w' (some M):=by
 have hb1:Below w.heap.size w (w.alloc (.cells #[.string nm,.int .i64 co,.int .i64 ba,.int .i64 ea,.int .i64 fr] 69)):=(Below.refl _ w).alloc (Nat.le_refl _) _;have H1:=h.same hb1;have hS1:=hS.below hb1;have hB1:=hB.below hb1;have hX1:=Blk.new w #[.string nm,.int .i64 co,.int .i64 ba,.int .i64 ea,.int .i64 fr] 69;have hneB:=H1.ne hB1;have hneX:=H1.ne hX1;have hcall:=add_in hn hnin hl H1;have s0:=hS.cell 0;simp at s0;have hltS:=hS.lt;have hltB:=hB.lt;gi_enter Tryz.func82,Tryz.ntmps82
 gi_wp2_with (first
  | (gi_at_call 80;refine hcall.mono ?_;rintro e w2 ⟨rfl,H2,hg2⟩;have hB2:=hB1.gb hg2 hneB;have hX2:=hX1.gb hg2 hneX;have b0:=hB2.cell 0;have b1:=hB2.cell 1;have b2:=hB2.cell 2;have x1:=hX2.cell 1;have x2:=hX2.cell 2;have x3:=hX2.cell 3;have x4:=hX2.cell 4;have x5:=hX2.cell 5;simp at b0 b1 b2 x1 x2 x3 x4 x5)
  | (gi_at_call 59;refine (index59_in _ _ _ _ (by omega) _).mono ?_;rintro e w3 ⟨rfl,rfl⟩)
  | (gi_at_call 76;refine (between_in _ _ _ _).mono ?_;rintro e w3 ⟨rfl,rfl⟩)
  | (gi_at_call 75;refine (isDay_in _ _).mono ?_;rintro e w3 ⟨rfl,rfl⟩))
 go_ret;exact ⟨rfl,H2,gb_trans (gb_below hb1) hg2⟩
set_option maxHeartbeats 4000000 in
theorem case1_in {w:World} {nm:ByteArray} {tr:Nat} {cl du gr ex:Int} (hn:NameOk nm) (v2:0 ≤ cl) (v3:cl ≤ 45) (v4:0 ≤ du) (v5:du ≤ 9999) (v6:0 ≤ gr) (v7:gr ≤ 999) (v8:0 ≤ ex) (v9:ex ≤ 10000) {M Sv B1:Nat} {ns:List ByteArray} (hnin:nm ∉ ns) (hl:ns.length ≤ 10) (h:SeenAt w M ns) (hS:Blk w Sv 126 #[.map (some M)])
  {cb tb kb pb:Option Addr} {nc nt nk np cc tc kc pc:Nat} (hB:Blk w B1 77 #[.slice cb nc cc,.slice tb nt tc,.slice kb nk kc,.slice pb np pc]) (hnc:nc ≤ 3) (hnt:nt ≤ 4) (v1:(tr:Int) ≤ nt - 1) :
  CallsIn Fz 0 Tryz.prog 84 #[.agg #[.string nm,.int .i64 tr,.int .i64 cl,.int .i64 du,.int .i64 gr,.int .i64 ex],.pointer (some ⟨Sv,0,none⟩),.pointer (some ⟨B1,0,none⟩)] w fun e w' => e = .returned (.int .i64 0) ∧ SeenAt w' M (ns ++ [nm]) ∧ w.grownBy w' (some M):=by
 have hb1:Below w.heap.size w (w.alloc (.cells #[.string nm,.int .i64 tr,.int .i64 cl,.int .i64 du,.int .i64 gr,.int .i64 ex] 60)):=(Below.refl _ w).alloc (Nat.le_refl _) _;have H1:=h.same hb1;have hS1:=hS.below hb1;have hB1:=hB.below hb1;have hX1:=Blk.new w #[.string nm,.int .i64 tr,.int .i64 cl,.int .i64 du,.int .i64 gr,.int .i64 ex] 60;have hneB:=H1.ne hB1;have hneX:=H1.ne hX1;have hcall:=add_in hn hnin hl H1;have s0:=hS.cell 0;simp at s0;have hltS:=hS.lt;have hltB:=hB.lt;gi_enter Tryz.func84,Tryz.ntmps84
 gi_wp2_with (first
  | (gi_at_call 80;refine hcall.mono ?_;rintro e w2 ⟨rfl,H2,hg2⟩;have hB2:=hB1.gb hg2 hneB;have hX2:=hX1.gb hg2 hneX;have b0:=hB2.cell 0;have b1:=hB2.cell 1;have b2:=hB2.cell 2;have x1:=hX2.cell 1;have x2:=hX2.cell 2;have x3:=hX2.cell 3;have x4:=hX2.cell 4;have x5:=hX2.cell 5;simp at b0 b1 b2 x1 x2 x3 x4 x5)
  | (gi_at_call 85;refine (index85_in _ _ _ _ (by omega) _).mono ?_;rintro e w3 ⟨rfl,rfl⟩)
  | (gi_at_call 76;refine (between_in _ _ _ _).mono ?_;rintro e w3 ⟨rfl,rfl⟩)
  | (gi_at_call 75;refine (isDay_in _ _).mono ?_;rintro e w3 ⟨rfl,rfl⟩))
 go_ret;exact ⟨rfl,H2,gb_trans (gb_below hb1) hg2⟩
set_option maxHeartbeats 4000000 in
theorem eachTariff_in {N:Nat} {l:Lay} {b:Book} {w:World} (hbk:BkAt N l b w) (hf:Full b) {M Sv B1:Nat} (hM:N ≤ M) (h:SeenAt w M []) (hS:Blk w Sv 126 #[.map (some M)])
  (hB:Blk w B1 77 #[.slice l.cb b.coins.length l.cc,.slice l.tb b.ts.length l.tc,.slice l.kb b.cs.length l.kc,.slice l.pb b.ps.length l.pc]) :
  CallsIn Fz 0 Tryz.prog 81 #[.slice l.tb b.ts.length l.tc,.int .i64 4,.func (.func 82) #[] #[.pointer (some ⟨Sv,0,none⟩),.pointer (some ⟨B1,0,none⟩)]] w fun e w' => e = .returned (.int .i64 0) ∧ w.grownBy w' (some M):=by
 have hnc:=hf.v.nc;have hnt:=hf.v.nt;have hnk:=hf.v.nk;have hNw:=hbk.hN;gi_enter Tryz.func81,Tryz.ntmps81
 gi_wp2;gi_loopw [16] (fun i wr => ∃ k:Nat,k ≤ b.ts.length ∧ i = .int .i64 k ∧ SeenAt wr M ((b.ts.take k).map (·.name)) ∧ w.grownBy wr (some M)) (fun i _ => b.ts.length - (intOf i).toNat)
 case atStart => exact ⟨0,Nat.zero_le _,rfl,h,gb_refl _ _⟩
 case round =>
  obtain ⟨k,hk,rfl,H,hg⟩:=hrel;by_cases hlt:k < b.ts.length
  ·have hbr:=hbk.below (below_gb hg hM hNw);have hSr:=hS.gb hg (h.ne hS);have hBr:=hB.gb hg (h.ne hB);obtain ⟨cb,co,e1,e2,e3⟩:=hbr.ts k b.ts[k].row (by simp [hlt]);have hmem:=List.getElem_mem hlt;have hvx:=hf.v.t _ hmem;have hnm:=hf.tn _ hmem;have hnin:=nodup_take' hf.td hlt;have htk:(b.ts.take k).map (·.name) ++ [b.ts[k].name] = (b.ts.take (k + 1)).map (·.name):=by rw [List.take_add_one,List.getElem?_eq_getElem hlt,Option.toList_some,List.map_append];rfl
   have hlen:((b.ts.take k).map (·.name)).length ≤ 10:=by rw [List.length_map,List.length_take];omega
   have hpw:cb < wr.heap.size:=Nat.lt_of_lt_of_le e2 hbr.hN;rw [e1];generalize b.ts[k] = x at *;obtain ⟨nm,co,ba,ea,fr⟩:=x;have c0:=e3 0 _ rfl;have c1:=e3 1 _ rfl;have c2:=e3 2 _ rfl;have c3:=e3 3 _ rfl;have c4:=e3 4 _ rfl;simp only [Nat.add_zero] at c0;simp only at *;have hb1:Below wr.heap.size wr (wr.alloc (.cells #[.string nm,.int .i64 co,.int .i64 ba,.int .i64 ea,.int .i64 fr] 69)):=(Below.refl _ wr).alloc (Nat.le_refl _) _;have hcall:=tariff1_in (co:=co) hnm hvx.2.1 hvx.2.2.1 hvx.2.2.2.1 hvx.2.2.2.2.1 hvx.2.2.2.2.2.1 hvx.2.2.2.2.2.2 hnin hlen (H.same hb1) (hSr.below hb1) (hBr.below hb1) hnc hnt (by omega)
   gi_wp2_with (gi_at_call 82;refine hcall.mono ?_;rintro e w2 ⟨rfl,H2,hg2⟩)
   go_roundw
   case rel => exact ⟨k + 1,by omega,by go_num,by rw [← htk];exact H2,gb_trans hg (gb_trans (gb_below hb1) hg2)⟩
   case measure => simp [intOf];omega
  ·obtain rfl:k = b.ts.length:=by omega
   gi_wp2;go_ret;exact ⟨rfl,hg⟩
set_option maxHeartbeats 4000000 in
theorem eachCase_in {N:Nat} {l:Lay} {b:Book} {w:World} (hbk:BkAt N l b w) (hf:Full b) {M Sv B1:Nat} (hM:N ≤ M) (h:SeenAt w M []) (hS:Blk w Sv 126 #[.map (some M)])
  (hB:Blk w B1 77 #[.slice l.cb b.coins.length l.cc,.slice l.tb b.ts.length l.tc,.slice l.kb b.cs.length l.kc,.slice l.pb b.ps.length l.pc]) :
  CallsIn Fz 0 Tryz.prog 83 #[.slice l.kb b.cs.length l.kc,.int .i64 6,.func (.func 84) #[] #[.pointer (some ⟨Sv,0,none⟩),.pointer (some ⟨B1,0,none⟩)]] w fun e w' => e = .returned (.int .i64 0) ∧ w.grownBy w' (some M):=by
 have hnc:=hf.v.nc;have hnt:=hf.v.nt;have hnk:=hf.v.nk;have hNw:=hbk.hN;gi_enter Tryz.func83,Tryz.ntmps83
 gi_wp2;gi_loopw [16] (fun i wr => ∃ k:Nat,k ≤ b.cs.length ∧ i = .int .i64 k ∧ SeenAt wr M ((b.cs.take k).map (·.name)) ∧ w.grownBy wr (some M)) (fun i _ => b.cs.length - (intOf i).toNat)
 case atStart => exact ⟨0,Nat.zero_le _,rfl,h,gb_refl _ _⟩
 case round =>
  obtain ⟨k,hk,rfl,H,hg⟩:=hrel;by_cases hlt:k < b.cs.length
  ·have hbr:=hbk.below (below_gb hg hM hNw);have hSr:=hS.gb hg (h.ne hS);have hBr:=hB.gb hg (h.ne hB);obtain ⟨cb,co,e1,e2,e3⟩:=hbr.ks k b.cs[k].row (by simp [hlt]);have hmem:=List.getElem_mem hlt;have hvx:=hf.v.k _ hmem;have hnm:=hf.kn _ hmem;have hnin:=nodup_take' hf.kd hlt;have htk:(b.cs.take k).map (·.name) ++ [b.cs[k].name] = (b.cs.take (k + 1)).map (·.name):=by rw [List.take_add_one,List.getElem?_eq_getElem hlt,Option.toList_some,List.map_append];rfl
   have hlen:((b.cs.take k).map (·.name)).length ≤ 10:=by rw [List.length_map,List.length_take];omega
   have hpw:cb < wr.heap.size:=Nat.lt_of_lt_of_le e2 hbr.hN;rw [e1];generalize b.cs[k] = x at *;obtain ⟨nm,tr,cl,du,gr,ex⟩:=x;have c0:=e3 0 _ rfl;have c1:=e3 1 _ rfl;have c2:=e3 2 _ rfl;have c3:=e3 3 _ rfl;have c4:=e3 4 _ rfl;have c5:=e3 5 _ rfl;simp only [Nat.add_zero] at c0;simp only at *;have hb1:Below wr.heap.size wr (wr.alloc (.cells #[.string nm,.int .i64 tr,.int .i64 cl,.int .i64 du,.int .i64 gr,.int .i64 ex] 60)):=(Below.refl _ wr).alloc (Nat.le_refl _) _;have hcall:=case1_in (tr:=tr) hnm hvx.2.1 hvx.2.2.1 hvx.2.2.2.1 hvx.2.2.2.2.1 hvx.2.2.2.2.2.1 hvx.2.2.2.2.2.2.1 hvx.2.2.2.2.2.2.2.1 hvx.2.2.2.2.2.2.2.2 hnin hlen (H.same hb1) (hSr.below hb1) (hBr.below hb1) hnc hnt (by omega)
   gi_wp2_with (gi_at_call 84;refine hcall.mono ?_;rintro e w2 ⟨rfl,H2,hg2⟩)
   go_roundw
   case rel => exact ⟨k + 1,by omega,by go_num,by rw [← htk];exact H2,gb_trans hg (gb_trans (gb_below hb1) hg2)⟩
   case measure => simp [intOf];omega
  ·obtain rfl:k = b.cs.length:=by omega
   gi_wp2;go_ret;exact ⟨rfl,hg⟩
end Go.Proofs.YtnkejaohnhpbpaaGreatDoor
end
section
namespace Go.Proofs.YtnkejaohnhpbpaaGreatDoor
open Go Go.RowKit Lift
structure RTrf where
 name:ByteArray
 coin:Int
 base:Int
 each:Int
 free:Int
structure RCas where
 name:ByteArray
 tar:Int
 classes:Int
 due:Int
 grace:Int
 extra:Int
structure RPay where
 kind:Int
 day:Int
 coin:Int
 amount:Int
 cas:Int
structure RBook where
 coins:List ByteArray
 ts:List RTrf
 cs:List RCas
 ps:List RPay
def RTrf.row (t:RTrf):List Value:=[.string t.name,.int .i64 t.coin,.int .i64 t.base,.int .i64 t.each,.int .i64 t.free]
def RCas.row (c:RCas):List Value:=[.string c.name,.int .i64 c.tar,.int .i64 c.classes,.int .i64 c.due,.int .i64 c.grace,.int .i64 c.extra]
def RPay.row (p:RPay):List Value:=[.int .i64 p.kind,.int .i64 p.day,.int .i64 p.coin,.int .i64 p.amount,.int .i64 p.cas]
abbrev Lay.rarr (l:Lay) (b:RBook):Array Value:=#[.slice l.cb b.coins.length l.cc,.slice l.tb b.ts.length l.tc,.slice l.kb b.cs.length l.kc,.slice l.pb b.ps.length l.pc]
structure RBkAt (N:Nat) (l:Lay) (b:RBook) (w:World):Prop where
 hN:N ≤ w.heap.size
 cs:RowsAt N l.cb 1 (b.coins.map fun s => [.string s]) w
 ts:RowsAt N l.tb 5 (b.ts.map RTrf.row) w
 ks:RowsAt N l.kb 6 (b.cs.map RCas.row) w
 ps:RowsAt N l.pb 5 (b.ps.map RPay.row) w
theorem RBkAt.below {N:Nat} {l:Lay} {b:RBook} {w w':World} (h:RBkAt N l b w) (hb:Below N w w'):RBkAt N l b w':=⟨Nat.le_trans h.hN hb.size,h.cs.below hb,h.ts.below hb,h.ks.below hb,h.ps.below hb⟩
structure RSized (b:RBook):Prop where
 c:(b.coins.length:Int) < 9223372036854775807
 t:(b.ts.length:Int) < 9223372036854775807
 k:(b.cs.length:Int) < 9223372036854775807
 p:(b.ps.length:Int) < 9223372036854775807
def RBook.Small (b:RBook):Prop:=b.coins.length ≤ 20 ∧ b.ts.length ≤ 20 ∧ b.cs.length ≤ 20 ∧ b.ps.length ≤ 40
structure RBook.Right (b:RBook):Prop where
 nc:b.coins.length ≤ 3
 cn:∀ s ∈ b.coins,NameOk s
 cd:b.coins.Nodup
 nt:b.ts.length ≤ 4
 tn:∀ t ∈ b.ts,NameOk t.name
 td:(b.ts.map (·.name)).Nodup
 t:∀ t ∈ b.ts,(0 ≤ t.coin ∧ t.coin < b.coins.length) ∧ (0 ≤ t.base ∧ t.base ≤ 10000) ∧ (0 ≤ t.each ∧ t.each ≤ 10000) ∧ 0 ≤ t.free ∧ t.free ≤ 45
 nk:b.cs.length ≤ 6
 kn:∀ c ∈ b.cs,NameOk c.name
 kd:(b.cs.map (·.name)).Nodup
 k:∀ c ∈ b.cs,(0 ≤ c.tar ∧ c.tar < b.ts.length) ∧ (0 ≤ c.classes ∧ c.classes ≤ 45) ∧ (0 ≤ c.due ∧ c.due ≤ 9999) ∧ (0 ≤ c.grace ∧ c.grace ≤ 999) ∧ 0 ≤ c.extra ∧ c.extra ≤ 10000
 np:b.ps.length ≤ 10
 p:∀ p ∈ b.ps,(0 ≤ p.kind ∧ p.kind ≤ 2) ∧ (0 ≤ p.day ∧ p.day ≤ 9999) ∧ (1 ≤ p.amount ∧ p.amount ≤ 10000) ∧ (0 ≤ p.coin ∧ p.coin < b.coins.length) ∧ (p.kind = 1 → p.cas = 0) ∧ (p.kind ≠ 1 → 0 ≤ p.cas ∧ p.cas < b.cs.length) ∧
  (p.kind = 2 → p.coin = (b.ts.getD (b.cs.getD p.cas.toNat ⟨⟨#[]⟩,0,0,0,0,0⟩).tar.toNat ⟨⟨#[]⟩,0,0,0,0⟩).coin)
def RTrf.to (t:RTrf):Trf:=⟨t.name,t.coin.toNat,t.base,t.each,t.free⟩
def RCas.to (c:RCas):Cas:=⟨c.name,c.tar.toNat,c.classes,c.due,c.grace,c.extra⟩
def RPay.to (p:RPay):Pay:=⟨p.kind.toNat,p.day,p.coin.toNat,p.amount,p.cas.toNat⟩
def RBook.to (b:RBook):Book:=⟨b.coins,b.ts.map RTrf.to,b.cs.map RCas.to,b.ps.map RPay.to⟩
theorem RTrf.to_row {t:RTrf} (h:0 ≤ t.coin):t.to.row = t.row:=by
 simp only [Trf.row,RTrf.row,RTrf.to,Int.toNat_of_nonneg h]
theorem RCas.to_row {t:RCas} (h:0 ≤ t.tar):t.to.row = t.row:=by
 simp only [Cas.row,RCas.row,RCas.to,Int.toNat_of_nonneg h]
theorem RPay.to_row {t:RPay} (h:0 ≤ t.kind) (h1:0 ≤ t.coin) (h2:0 ≤ t.cas):t.to.row = t.row:=by
 simp only [Pay.row,RPay.row,RPay.to,Int.toNat_of_nonneg h,Int.toNat_of_nonneg h1,Int.toNat_of_nonneg h2]
section
variable {b:RBook}
theorem RBook.Right.cas (h:b.Right) {p:RPay} (hp:p ∈ b.ps):0 ≤ p.cas:=by
 have:=h.p p hp;by_cases e:p.kind = 1
 ·have:=this.2.2.2.2.1 e;omega
 ·have:=this.2.2.2.2.2.1 e;omega
theorem RBook.Right.full (h:b.Right):Full b.to where
 v:={
  nc:=h.nc
  nt:=by simpa [RBook.to] using h.nt
  nk:=by simpa [RBook.to] using h.nk
  np:=by simpa [RBook.to] using h.np
  t:=fun t ht => by
   obtain ⟨r,hr,rfl⟩:=List.mem_map.1 ht;have:=h.t r hr;simp only [RTrf.to,RBook.to];omega
  k:=fun t ht => by
   obtain ⟨r,hr,rfl⟩:=List.mem_map.1 ht;have:=h.k r hr;simp only [RCas.to,RBook.to,List.length_map];omega
  p:=fun t ht => by
   obtain ⟨r,hr,rfl⟩:=List.mem_map.1 ht;have:=h.p r hr;simp only [RPay.to,RBook.to,List.length_map];refine ⟨by omega,by omega,by omega,by omega,by omega,by omega,fun e => ?_,fun e => ?_⟩
   ·have:=this.2.2.2.2.1 (by omega);omega
   ·have:=this.2.2.2.2.2.1 (by omega);omega }
 cn:=h.cn
 cd:=h.cd
 tn:=fun t ht => by obtain ⟨r,hr,rfl⟩:=List.mem_map.1 ht;exact h.tn r hr
 td:=by have:=h.td;simpa [RBook.to,RTrf.to,Function.comp_def] using this
 kn:=fun t ht => by obtain ⟨r,hr,rfl⟩:=List.mem_map.1 ht;exact h.kn r hr
 kd:=by have:=h.kd;simpa [RBook.to,RCas.to,Function.comp_def] using this
 mv:=fun p hp e => by
  obtain ⟨r,hr,rfl⟩:=List.mem_map.1 hp;have k:=h.p r hr;have hk:r.kind = 2:=by simp only [RPay.to] at e;omega
  have hc:=k.2.2.2.2.2.1 (by omega);have hm:=k.2.2.2.2.2.2 hk;have hcl:r.cas.toNat < b.cs.length:=by omega
  have e1:b.cs[r.cas.toNat]? = some b.cs[r.cas.toNat]:=by simp
  have ht:=h.k _ (List.mem_of_getElem? e1);have htl:(b.cs[r.cas.toNat]).tar.toNat < b.ts.length:=by omega
  rw [List.getD_eq_getElem?_getD,List.getD_eq_getElem?_getD,e1,Option.getD_some,List.getElem?_eq_getElem htl,Option.getD_some] at hm;simp only [Book.coin,Book.tarOf,RBook.to,RPay.to,List.getD_eq_getElem?_getD,List.getElem?_map,e1,Option.map_some,Option.getD_some,RCas.to,List.getElem?_eq_getElem htl,RTrf.to];rw [hm]
theorem RBkAt.to {N:Nat} {l:Lay} {w:World} (h:RBkAt N l b w) (hr:b.Right):BkAt N l b.to w:=by
 refine ⟨h.hN,h.cs,?_,?_,?_⟩
 ·have e:b.to.ts.map Trf.row = b.ts.map RTrf.row:=by
   simp only [RBook.to,List.map_map];exact List.map_congr_left fun t ht => RTrf.to_row (hr.t t ht).1.1
  rw [e];exact h.ts
 ·have e:b.to.cs.map Cas.row = b.cs.map RCas.row:=by
   simp only [RBook.to,List.map_map];exact List.map_congr_left fun t ht => RCas.to_row (hr.k t ht).1.1
  rw [e];exact h.ks
 ·have e:b.to.ps.map Pay.row = b.ps.map RPay.row:=by
   simp only [RBook.to,List.map_map];exact List.map_congr_left fun t ht => RPay.to_row (hr.p t ht).1.1 (hr.p t ht).2.2.2.1.1 (hr.cas ht)
  rw [e];exact h.ps
theorem RBook.to_val (l:Lay) (b:RBook):l.val b.to = .agg (l.rarr b):=by simp [Lay.val,Lay.rarr,RBook.to]
end
end Go.Proofs.YtnkejaohnhpbpaaGreatDoor
end
section
namespace Go.Proofs.YtnkejaohnhpbpaaGreatDoor
open Go Go.RowKit Lift
def RBook.Coin1 (b:RBook) (i:Nat):Prop:=NameOk (b.coins.getD i ⟨#[]⟩) ∧ b.coins.getD i ⟨#[]⟩ ∉ b.coins.take i
def RBook.tarAt (b:RBook) (i:Nat):RTrf:=b.ts.getD i ⟨⟨#[]⟩,0,0,0,0⟩
def RBook.casAt (b:RBook) (i:Nat):RCas:=b.cs.getD i ⟨⟨#[]⟩,0,0,0,0,0⟩
def RBook.payAt (b:RBook) (i:Nat):RPay:=b.ps.getD i ⟨0,0,0,0,0⟩
def RBook.Tar1 (b:RBook) (i:Nat):Prop:=NameOk (b.tarAt i).name ∧ (∀ k,k < i → (b.tarAt k).name ≠ (b.tarAt i).name) ∧ (0 ≤ (b.tarAt i).coin ∧ (b.tarAt i).coin < b.coins.length) ∧ (0 ≤ (b.tarAt i).base ∧ (b.tarAt i).base ≤ 10000) ∧ (0 ≤ (b.tarAt i).each ∧ (b.tarAt i).each ≤ 10000) ∧ 0 ≤ (b.tarAt i).free ∧ (b.tarAt i).free ≤ 45
def RBook.Cas1 (b:RBook) (i:Nat):Prop:=NameOk (b.casAt i).name ∧ (∀ k,k < i → (b.casAt k).name ≠ (b.casAt i).name) ∧ (0 ≤ (b.casAt i).tar ∧ (b.casAt i).tar < b.ts.length) ∧ (0 ≤ (b.casAt i).classes ∧ (b.casAt i).classes ≤ 45) ∧ (0 ≤ (b.casAt i).due ∧ (b.casAt i).due ≤ 9999) ∧ (0 ≤ (b.casAt i).grace ∧ (b.casAt i).grace ≤ 999) ∧ 0 ≤ (b.casAt i).extra ∧ (b.casAt i).extra ≤ 10000
def RBook.PayOk (b:RBook) (p:RPay):Prop:=(0 ≤ p.kind ∧ p.kind ≤ 2) ∧ (0 ≤ p.day ∧ p.day ≤ 9999) ∧ (1 ≤ p.amount ∧ p.amount ≤ 10000) ∧ (0 ≤ p.coin ∧ p.coin < b.coins.length) ∧ (p.kind = 1 → p.cas = 0) ∧ (p.kind ≠ 1 → 0 ≤ p.cas ∧ p.cas < b.cs.length) ∧
  (p.kind = 2 → p.coin = (b.tarAt (b.casAt p.cas.toNat).tar.toNat).coin)
def RBook.CoinsOk (b:RBook):Prop:=b.coins.length ≤ 3 ∧ ∀ i,i < b.coins.length → b.Coin1 i
def RBook.TarsOk (b:RBook):Prop:=b.ts.length ≤ 4 ∧ ∀ i,i < b.ts.length → b.Tar1 i
def RBook.CassOk (b:RBook):Prop:=b.cs.length ≤ 6 ∧ ∀ i,i < b.cs.length → b.Cas1 i
def RBook.PaysOk (b:RBook):Prop:=b.ps.length ≤ 10 ∧ ∀ i,i < b.ps.length → b.PayOk (b.payAt i)
theorem nodup_of_take {l:List ByteArray} (h:∀ (i:Nat) (hi:i < l.length),l[i] ∉ l.take i):l.Nodup:=
 List.pairwise_iff_getElem.2 fun i j hi hj hij e => h j hj (by
  rw [← e];exact List.mem_iff_getElem.2 ⟨i,by rw [List.length_take];omega,by rw [List.getElem_take]⟩)
theorem tarAt_get {b:RBook} {i:Nat} (h:i < b.ts.length):b.tarAt i = b.ts[i]:=by unfold RBook.tarAt;rw [List.getD_eq_getElem?_getD,List.getElem?_eq_getElem h];rfl
theorem casAt_get {b:RBook} {i:Nat} (h:i < b.cs.length):b.casAt i = b.cs[i]:=by unfold RBook.casAt;rw [List.getD_eq_getElem?_getD,List.getElem?_eq_getElem h];rfl
theorem payAt_get {b:RBook} {i:Nat} (h:i < b.ps.length):b.payAt i = b.ps[i]:=by unfold RBook.payAt;rw [List.getD_eq_getElem?_getD,List.getElem?_eq_getElem h];rfl
theorem coinAt_get {b:RBook} {i:Nat} (h:i < b.coins.length):b.coins.getD i ⟨#[]⟩ = b.coins[i]:=by rw [List.getD_eq_getElem?_getD,List.getElem?_eq_getElem h];rfl
theorem RBook.right_iff (b:RBook):b.Right ↔ b.CoinsOk ∧ b.TarsOk ∧ b.CassOk ∧ b.PaysOk:=by
 constructor
 ·intro h;refine ⟨⟨h.nc,fun i hi => ?_⟩,⟨h.nt,fun i hi => ?_⟩,⟨h.nk,fun i hi => ?_⟩,⟨h.np,fun i hi => ?_⟩⟩
  ·unfold RBook.Coin1;rw [coinAt_get hi];exact ⟨h.cn _ (List.getElem_mem hi),nodup_take h.cd hi⟩
  ·unfold RBook.Tar1;have hm:=List.getElem_mem hi;rw [← tarAt_get hi] at hm;refine ⟨h.tn _ hm,fun k hk e => ?_,h.t _ hm⟩;have:=List.pairwise_iff_getElem.1 h.td k i (by simp;omega) (by simpa using hi) hk;rw [List.getElem_map,List.getElem_map,← tarAt_get (by omega),← tarAt_get hi] at this;exact this e
  ·unfold RBook.Cas1;have hm:=List.getElem_mem hi;rw [← casAt_get hi] at hm;refine ⟨h.kn _ hm,fun k hk e => ?_,h.k _ hm⟩;have:=List.pairwise_iff_getElem.1 h.kd k i (by simp;omega) (by simpa using hi) hk;rw [List.getElem_map,List.getElem_map,← casAt_get (by omega),← casAt_get hi] at this;exact this e
  ·have hm:=List.getElem_mem hi;rw [← payAt_get hi] at hm;exact h.p _ hm
 ·rintro ⟨⟨h1,h2⟩,⟨h3,h4⟩,⟨h5,h6⟩,h7,h8⟩;have getT:∀ t ∈ b.ts,∃ i,i < b.ts.length ∧ b.tarAt i = t:=fun t ht => by
   obtain ⟨i,hi,e⟩:=List.mem_iff_getElem.1 ht;exact ⟨i,hi,by rw [tarAt_get hi,e]⟩
  have getK:∀ t ∈ b.cs,∃ i,i < b.cs.length ∧ b.casAt i = t:=fun t ht => by
   obtain ⟨i,hi,e⟩:=List.mem_iff_getElem.1 ht;exact ⟨i,hi,by rw [casAt_get hi,e]⟩
  refine ⟨h1,fun s hs => ?_,nodup_of_take fun i hi => ?_,h3,fun t ht => ?_,?_,fun t ht => ?_,h5,fun t ht => ?_,?_,fun t ht => ?_,h7,fun p hp => ?_⟩
  ·obtain ⟨i,hi,rfl⟩:=List.mem_iff_getElem.1 hs;have:=(h2 i hi).1;rw [coinAt_get hi] at this;exact this
  ·have:=(h2 i hi).2;rw [coinAt_get hi] at this;exact this
  ·obtain ⟨i,hi,rfl⟩:=getT t ht;exact (h4 i hi).1
  ·refine List.pairwise_iff_getElem.2 fun i j hi hj hij e => ?_;rw [List.length_map] at hi hj;rw [List.getElem_map,List.getElem_map,← tarAt_get hi,← tarAt_get hj] at e;exact (h4 j hj).2.1 i hij e
  ·obtain ⟨i,hi,rfl⟩:=getT t ht;exact (h4 i hi).2.2
  ·obtain ⟨i,hi,rfl⟩:=getK t ht;exact (h6 i hi).1
  ·refine List.pairwise_iff_getElem.2 fun i j hi hj hij e => ?_;rw [List.length_map] at hi hj;rw [List.getElem_map,List.getElem_map,← casAt_get hi,← casAt_get hj] at e;exact (h6 j hj).2.1 i hij e
  ·obtain ⟨i,hi,rfl⟩:=getK t ht;exact (h6 i hi).2.2
  ·obtain ⟨i,hi,e⟩:=List.mem_iff_getElem.1 hp;have:=h8 i hi;rw [payAt_get hi,e] at this;exact this
theorem nameOk_iff (s:ByteArray):NameOk s ↔ (s.size ≠ 0 ∧ s.size ≤ 10) ∧ ∀ (i:Nat) x,s.data.toList[i]? = some x → (97 ≤ x.toNat ∧ x.toNat ≤ 122) ∨ (48 ≤ x.toNat ∧ x.toNat ≤ 57) ∧ i ≠ 0:=by
 have key:∀ x:UInt8,alnum x = true ↔ (97 ≤ x.toNat ∧ x.toNat ≤ 122) ∨ (48 ≤ x.toNat ∧ x.toNat ≤ 57):=fun x => by
  unfold alnum;simp only [Bool.or_eq_true,Bool.and_eq_true,decide_eq_true_eq,UInt8.le_iff_toNat_le];rfl
 constructor
 ·intro h;refine ⟨⟨by have:=h.one;omega,h.ten⟩,fun i x hx => ?_⟩;rcases (key x).1 (h.all i x hx) with k | k
  ·exact .inl k
  ·refine .inr ⟨k,fun e => ?_⟩;subst e;have:=h.first x hx;omega
 ·rintro ⟨⟨h1,h2⟩,h3⟩;refine ⟨by omega,h2,fun x hx => ?_,fun j x hx => (key x).2 ?_⟩
  ·rcases h3 0 x hx with k | k
   ·exact k
   ·exact absurd rfl k.2
  ·rcases h3 j x hx with k | k
   ·exact .inl k
   ·exact .inr k.1
end Go.Proofs.YtnkejaohnhpbpaaGreatDoor
end
