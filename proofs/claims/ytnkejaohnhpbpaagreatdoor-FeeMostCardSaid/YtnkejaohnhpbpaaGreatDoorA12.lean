/- The library's sort and its Compact at numbers, inside the fence. -/
import Derived.Shelf.Slices.In.SortAlone
import Derived.Shelf.Slices.In.CompactI
import Derived.Ground.Names2Prog
import Derived.Sort.EveryDepth
import Derived.Test.YtnkejaohnhpbpaaGreatDoorA03
set_option linter.all false
namespace Go.Proofs
open Go.Shelf
def Tryz.lays189_ren:Go.Shelf.Ren:=⟨fun | 189 => 109 | 125 => 143 | 257 => 142 | 128 => 165 | 129 => 166 | 294 => 156 | 295 => 157 | 296 => 158 | 297 => 159 | 298 => 160 | 299 => 161 | 216 => 162 | 300 => 163 | 301 => 164 | 328 => 173 | 329 => 174 | 330 => 175 | 331 => 176 | 332 => 177 | 215 => 101 | 343 => 184 | n => n,fun | 28 => 44 | 3 => 3 | 46 => 173 | 0 => 0 | 51 => 153 | 53 => 150 | 4 => 4 | 183 => 208 | 182 => 207 | 131 => 81 | 5 => 5 | 9 => 9 | 218 => 219 | 222 => 222 | 228 => 231 | 229 => 232 | n => n,fun | n => n⟩
theorem Tryz.lays189:Go.Proofs.Lays.n189 Tryz.prog Tryz.lays189_ren:={
 mixed:=by kernel_rfl
 f125:=Tryz.func143.trans (congrArg some (by kernel_rfl))
 f128:=Tryz.func165.trans (congrArg some (by kernel_rfl))
 f129:=Tryz.func166.trans (congrArg some (by kernel_rfl))
 f189:=Tryz.func109.trans (congrArg some (by kernel_rfl))
 f215:=Tryz.func101.trans (congrArg some (by kernel_rfl))
 f216:=Tryz.func162.trans (congrArg some (by kernel_rfl))
 f257:=Tryz.func142.trans (congrArg some (by kernel_rfl))
 f294:=Tryz.func156.trans (congrArg some (by kernel_rfl))
 f295:=Tryz.func157.trans (congrArg some (by kernel_rfl))
 f296:=Tryz.func158.trans (congrArg some (by kernel_rfl))
 f297:=Tryz.func159.trans (congrArg some (by kernel_rfl))
 f298:=Tryz.func160.trans (congrArg some (by kernel_rfl))
 f299:=Tryz.func161.trans (congrArg some (by kernel_rfl))
 f300:=Tryz.func163.trans (congrArg some (by kernel_rfl))
 f301:=Tryz.func164.trans (congrArg some (by kernel_rfl))
 f328:=Tryz.func173.trans (congrArg some (by kernel_rfl))
 f329:=Tryz.func174.trans (congrArg some (by kernel_rfl))
 f330:=Tryz.func175.trans (congrArg some (by kernel_rfl))
 f331:=Tryz.func176.trans (congrArg some (by kernel_rfl))
 f332:=Tryz.func177.trans (congrArg some (by kernel_rfl))
 f343:=Tryz.func184.trans (congrArg some (by kernel_rfl))
 t0:=Tryz.underlying0
 a0:=Tryz.isAgg0
 z0:=Tryz.sizeOf0
 v0:=Tryz.zeroValue0
 t3:=Tryz.underlying3
 a3:=Tryz.isAgg3
 z3:=Tryz.sizeOf3
 v3:=Tryz.zeroValue3
 t4:=Tryz.underlying4
 a4:=Tryz.isAgg4
 z4:=Tryz.sizeOf4
 v4:=Tryz.zeroValue4
 t5:=Tryz.underlying5
 a5:=Tryz.isAgg5
 z5:=Tryz.sizeOf5
 v5:=Tryz.zeroValue5
 t9:=Tryz.underlying9
 a9:=Tryz.isAgg9
 z9:=Tryz.sizeOf9
 v9:=Tryz.zeroValue9
 t28:=Tryz.underlying44
 a28:=Tryz.isAgg44
 z28:=Tryz.sizeOf44
 v28:=Tryz.zeroValue44
 t46:=Tryz.underlying173
 a46:=Tryz.isAgg173
 z46:=Tryz.sizeOf173
 v46:=Tryz.zeroValue173
 t51:=Tryz.underlying153
 a51:=Tryz.isAgg153
 z51:=Tryz.sizeOf153
 v51:=Tryz.zeroValue153
 t53:=Tryz.underlying150
 a53:=Tryz.isAgg150
 z53:=Tryz.sizeOf150
 v53:=Tryz.zeroValue150
 t131:=Tryz.underlying81
 a131:=Tryz.isAgg81
 z131:=Tryz.sizeOf81
 v131:=Tryz.zeroValue81
 t182:=Tryz.underlying207
 a182:=Tryz.isAgg207
 z182:=Tryz.sizeOf207
 v182:=Tryz.zeroValue207
 t183:=Tryz.underlying208
 a183:=Tryz.isAgg208
 z183:=Tryz.sizeOf208
 v183:=Tryz.zeroValue208
 t218:=Tryz.underlying219
 a218:=Tryz.isAgg219
 z218:=Tryz.sizeOf219
 v218:=Tryz.zeroValue219
 t222:=Tryz.underlying222
 a222:=Tryz.isAgg222
 z222:=Tryz.sizeOf222
 v222:=Tryz.zeroValue222
 t228:=Tryz.underlying231
 a228:=Tryz.isAgg231
 z228:=Tryz.sizeOf231
 v228:=Tryz.zeroValue231
 t229:=Tryz.underlying232
 a229:=Tryz.isAgg232
 z229:=Tryz.sizeOf232
 v229:=Tryz.zeroValue232 }
def Tryz.laysNm220_ren:Go.Shelf.Ren:=⟨fun | 20 => 110 | n => n,fun | 22 => 44 | 3 => 3 | 4 => 4 | 0 => 0 | n => n,fun | n => n⟩
theorem Tryz.laysNm220:Go.Proofs.Lays2.n20 Tryz.prog Tryz.laysNm220_ren:={
 mixed:=by kernel_rfl
 f20:=Tryz.func110.trans (congrArg some (by kernel_rfl))
 t0:=Tryz.underlying0
 a0:=Tryz.isAgg0
 z0:=Tryz.sizeOf0
 v0:=Tryz.zeroValue0
 t3:=Tryz.underlying3
 a3:=Tryz.isAgg3
 z3:=Tryz.sizeOf3
 v3:=Tryz.zeroValue3
 t4:=Tryz.underlying4
 a4:=Tryz.isAgg4
 z4:=Tryz.sizeOf4
 v4:=Tryz.zeroValue4
 t22:=Tryz.underlying44
 a22:=Tryz.isAgg44
 z22:=Tryz.sizeOf44
 v22:=Tryz.zeroValue44
 i3:=by kernel_rfl }
end Go.Proofs
namespace Go.Proofs.YtnkejaohnhpbpaaGreatDoor
open Go Go.RowKit Go.Sort
theorem fz_of_every {L:List FuncId} {n:Nat} {f:FuncId} {args:Array Value} {w:World} {R:Ending → World → Prop} (h:∀ D:Nat,CallsIn (Fence.list L (some D)) n Tryz.prog f args w R) (hL':L.all inside = true):CallsIn Fz 0 Tryz.prog f args w R:=
 have hL:∀ x ∈ L,Inside x:=fun x hx => List.all_eq_true.1 hL' x hx
 ⟨hL _ (h 0).1,fun cs _ =>
  let ⟨e,w',fr,r,s,x⟩:=(h (cs.length + 1 + n)).2 cs (fun _ hd => by cases hd;exact Nat.le_refl _)
  ⟨e,w',fr,r,ComesIn.mono (fun _ hm g hg => let ⟨a,b,c,_⟩:=hm g hg;⟨a,b.imp (hL _) id,fun k hk => hL _ (c k hk),fun d hd => by cases hd⟩) s,x⟩⟩
theorem sort_in (blk off cap:Nat) (zs:List Int) (w:World) (hH:Holds (Value.int .i64) w blk off zs.toArray) (hblk:blk < w.heap.size) (hsz:zs.length < 4611686018427387904) :
  CallsIn Fz 0 Tryz.prog 109 #[.slice (some ⟨blk,off,none⟩) zs.length cap] w fun e w' => e = .returned (.tuple #[]) ∧ ∃ n os,w' = grow (putRow (Value.int .i64) (Sort.ahead w n) blk off (zs.mergeSort fun x y => decide (x ≤ y)).toArray) os:=
 fz_of_every (fun D => AnyS.slices_Sort_int_alone Tryz.lays189 D blk off cap zs w hH hblk hsz) (by kernel_rfl)
theorem compact_in (blk off cap:Nat) (zs:List Int) (w:World) (hH:Holds (Value.int .i64) w blk off zs.toArray) (hsz:zs.length ≤ 9223372036854775807) (hcap:zs.length ≤ cap) :
  CallsIn Fz 0 Tryz.prog 110 #[.slice (some ⟨blk,off,none⟩) zs.length cap] w fun e w' => e = .returned (.slice (some ⟨blk,off,none⟩) (Lib.compact zs).length cap) ∧ ∃ q,w' = putRow (Value.int .i64) (Sort.ahead w q) blk off (Lib.compact zs ++ List.replicate (zs.length - (Lib.compact zs).length) 0).toArray:=
 fz_of_every (fun D => AnyS.slices_Compact_int_in Tryz.laysNm220 D blk off cap zs w hH hsz hcap) (by kernel_rfl)
end Go.Proofs.YtnkejaohnhpbpaaGreatDoor
