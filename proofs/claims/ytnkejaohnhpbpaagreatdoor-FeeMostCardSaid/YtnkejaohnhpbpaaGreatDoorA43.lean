/- The kinds' table, as the row's condition lays it. -/
import Derived.Test.YtnkejaohnhpbpaaGreatDoorTie
import Derived.OpenShut
import Derived.LaidMore
import Derived.LaidHandle
import Derived.Deep.Fields
import Derived.Lay
import Derived.ProofKit
import Derived.Stop.Joined
import Derived.Test.YtnkejaohnhpbpaaGreatDoorA16
set_option linter.all false
section
namespace Go.Proofs.YtnkejaohnhpbpaaGreatDoor
open Go Go.RowKit Go.ChangeShapes Go.WideShapes Go.Deep
abbrev laidAll:List (String × DataW Unit):=[("unicode/utf8.acceptRanges", Rows.laid_unicode_utf8_acceptRanges),("touchmark/fees.kinds", Rows.laid_touchmark_fees_kinds),("unicode/utf8.first", Rows.laid_unicode_utf8_first)]
theorem gKinds:Tryz.prog.globalNamed "touchmark/fees.kinds" = some 0:=by kernel_rfl
theorem tKinds:(Tryz.prog.globals[0]?).map (·.type) = some 144:=by kernel_rfl
theorem und143:Tryz.prog.underlying 143 = some (.struct (Tryz.prog.fieldsOf 143)):=by kernel_rfl
theorem und144:Tryz.prog.underlying 144 = some (.array 3 143):=by kernel_rfl
theorem und141:Tryz.prog.underlying 141 = some (.func #[97,3] #[] false):=by kernel_rfl
theorem cells143:Tryz.prog.cellsOf 143 = 3:=by kernel_rfl
theorem cells144:Tryz.prog.cellsOf 144 = 9:=by kernel_rfl
theorem one143:oneCellFields Tryz.prog (Tryz.prog.fieldsOf 143) = true:=by kernel_rfl
theorem tys143:(Tryz.prog.fieldsOf 143).toList.map (·.type) = [9,141,4]:=by kernel_rfl
set_option maxRecDepth 100000 in
theorem trod_bool1 {W:World} {n:Nat} {c:Value} {last:Bool} {p:List MemPlace} (h:DataW.trod (funcToken Tryz.prog) Tryz.prog W 0 (fun _ => true) true n 4 [c] = some (.lit (.bool last),p)):c = .bool last:=by
 cases n with
 | zero => simp [DataW.trod] at h
 | succ m =>
  unfold DataW.trod at h;rw [Tryz.underlying4] at h;split at h <;> simp_all
set_option maxRecDepth 100000 in
theorem kind_cells {W:World} {n:Nat} {c0 c1 c2:Value} {s:List UInt8} {b0:UInt8} {r:List UInt8} {f0:FuncId} {last:Bool} {p:List MemPlace}
  (hone:((List.range Tryz.prog.funcs.size).filter fun f => (Tryz.prog.funcs[f]?).any (·.name.toUTF8.data.toList == b0 :: r)) = [f0])
  (h:DataW.trod (funcToken Tryz.prog) Tryz.prog W 0 (fun _ => true) true n 143 [c0,c1,c2] = some (.agg [.lit (.string s),.held (b0 :: r),.lit (.bool last)],p)) :
  c0 = .string ⟨s.toArray⟩ ∧ c1 = .func (.func f0) #[] #[] ∧ c2 = .bool last:=by
 obtain ⟨xs,m,_,hx,_,hlen,hf⟩:=DataW.trod_struct und143 h;have hsz:(Tryz.prog.fieldsOf 143).size = 3:=by
  rw [← Array.length_toList,← List.length_map (f:=(·.type)),tys143];rfl
 have get:∀ (j:Nat) (t:TypeId) (c:Value),[9,141,4][j]? = some t → [c0,c1,c2][j]? = some c → ∃ y,xs[j]? = some y ∧ DataW.trod (funcToken Tryz.prog) Tryz.prog W 0 (fun _ => true) true m t [c] = some y:=by
  intro j t c ht hc;rw [← tys143,List.getElem?_map,Array.getElem?_toList] at ht;obtain ⟨f,hf0,rfl⟩:=Option.map_eq_some_iff.1 ht;obtain ⟨ho,hk⟩:=hone_of one143 j f hf0;have h1:=hf j f hf0;rw [ho,hk] at h1;have hcl:=List.getElem?_eq_some_iff.1 hc;have e:([c0,c1,c2].drop j).take 1 = [c]:=by
   rw [List.drop_eq_getElem_cons hcl.1,hcl.2];rfl
  rw [e] at h1;have hjl:j < xs.length:=by have:=(Array.getElem?_eq_some_iff.1 hf0).1;omega
  exact ⟨xs[j],List.getElem?_eq_getElem hjl,h1.trans (List.getElem?_eq_getElem hjl)⟩
 obtain ⟨y0,e0,t0⟩:=get 0 9 c0 rfl rfl;obtain ⟨y1,e1,t1⟩:=get 1 141 c1 rfl rfl;obtain ⟨y2,e2,t2⟩:=get 2 4 c2 rfl rfl
 match xs,hlen.trans hsz with
 | [x0,x1,x2],_ =>
  simp only [List.getElem?_cons_zero,List.getElem?_cons_succ,Option.some.injEq] at e0 e1 e2;subst e0 e1 e2;simp only [Prod.mk.injEq,DataW.agg.injEq,List.map_cons,List.map_nil,List.cons.injEq,and_true] at hx;obtain ⟨⟨hx0,hx1,hx2⟩,_⟩:=hx;obtain ⟨s',k0,q0,_⟩:=DataW.trod_string Tryz.underlying9 t0;obtain ⟨z,q1⟩:∃ z,x1 = (.held (b0 :: r),z):=⟨x1.2,by rw [hx1]⟩
  rw [q1] at t1;have k1:=func_of_trod und141 hone t1;refine ⟨?_,k1,?_⟩
  ·rw [q0] at hx0;have hs:s = s'.data.toList:=by simpa using hx0
   have:=List.cons.inj k0;rw [this.1,hs]
  ·obtain ⟨z2,q2⟩:∃ z,x2 = (.lit (.bool last),z):=⟨x2.2,by rw [hx2]⟩
   rw [q2] at t2;exact trod_bool1 t2
set_option maxRecDepth 100000 in
theorem kinds_of_laid {W:World} (h:laidMetH Tryz.prog laidAll W):KindsAt W:=by
 obtain ⟨g,t,cs,fuel,p,hg,ht,hv,hd⟩:=h.funcs (n := "touchmark/fees.kinds") (List.mem_cons_of_mem _ (List.mem_cons_self ..));obtain rfl:=Option.some.inj (gKinds.symm.trans hg);obtain rfl:=Option.some.inj (tKinds.symm.trans ht);have hd':DataW.trod (funcToken Tryz.prog) Tryz.prog W 0 (fun _ => true) true fuel 144 cs.toList = some (.agg [.agg [.lit (.string [105,110]),.held [40,42,116,111,117,99,104,109,97,114,107,47,102,101,101,115,46,116,105,108,108,41,46,105,110],.lit (.bool false)],.agg [.lit (.string [102,117,110,100]),.held [40,42,116,111,117,99,104,109,97,114,107,47,102,101,101,115,46,116,105,108,108,41,46,102,117,110,100],.lit (.bool false)],.agg [.lit (.string [109,111,118,101]),.held [40,42,116,111,117,99,104,109,97,114,107,47,102,101,101,115,46,116,105,108,108,41,46,109,111,118,101],.lit (.bool true)]],p):=hd;clear hd;obtain ⟨xs,m1,rfl,hx1,hlen,hn3,hel⟩:=DataW.trod_array und144 hd';rw [cells144] at hlen;obtain ⟨l⟩:=cs
 match l,hlen with
 | [c0,c1,c2,c3,c4,c5,c6,c7,c8],_ =>
  match xs,hn3 with
  | [x0,x1,x2],_ =>
   have h0:=hel 0 (by decide);have h1:=hel 1 (by decide);have h2:=hel 2 (by decide);rw [cells143] at h0 h1 h2;simp only [Prod.mk.injEq,List.map_cons,List.map_nil] at hx1;obtain ⟨hx,_⟩:=hx1;simp only [DataW.agg.injEq,List.cons.injEq,and_true] at hx;obtain ⟨q0,q1,q2⟩:=hx;obtain ⟨x0,y0⟩:=x0;obtain ⟨x1,y1⟩:=x1;obtain ⟨x2,y2⟩:=x2;dsimp only at q0 q1 q2;subst q0 q1 q2;obtain ⟨a0,a1,a2⟩:=kind_cells (f0:=206) (by kernel_rfl) (show DataW.trod _ Tryz.prog W 0 _ true m1 143 [c0,c1,c2] = some _ from h0);obtain ⟨a3,a4,a5⟩:=kind_cells (f0:=203) (by kernel_rfl) (show DataW.trod _ Tryz.prog W 0 _ true m1 143 [c3,c4,c5] = some _ from h1);obtain ⟨a6,a7,a8⟩:=kind_cells (f0:=207) (by kernel_rfl) (show DataW.trod _ Tryz.prog W 0 _ true m1 143 [c6,c7,c8] = some _ from h2);subst a0 a1 a2 a3 a4 a5 a6 a7 a8;exact fun j v hj => (World.var?_cell hg hv j).trans hj
end Go.Proofs.YtnkejaohnhpbpaaGreatDoor
end
section
namespace Go.Proofs.YtnkejaohnhpbpaaGreatDoor
open Go Go.RowKit Go.ChangeShapes Go.WideShapes
theorem own:ownKnob Tryz.prog.godebug = none:=by kernel_rfl
abbrev plainTwo:List (String × DataW Unit):=[("unicode/utf8.acceptRanges", Rows.laid_unicode_utf8_acceptRanges),("unicode/utf8.first", Rows.laid_unicode_utf8_first)]
noncomputable def witW (os:Os):World:=(World.doorLaid Tryz.prog 27 os).layVars Tryz.prog plainTwo
theorem plain_met (os:Os) (args:Array Value):laidMet Tryz.prog plainTwo ((witW os).forCall (fun _ _ => 0) ⟨#[],args,[]⟩).memory:=by
 have h:laidMet Tryz.prog plainTwo (witW os):=laidMet_layVars (w0:=World.doorLaid Tryz.prog 27 os) ["unicode/utf8.acceptRanges", "unicode/utf8.first"] [] rfl (by kernel_rfl) (by kernel_rfl) LaidIn.none;exact h.of_heap (by simp [World.memory,World.forCall,Input.heap])
theorem door_met (os:Os) (args:Array Value):laidMetH Tryz.prog laidAll ((witW os).forCall (fun _ _ => 0) ⟨#[],args,[]⟩).memory:=
 laidMetH_of_parts3 (fuel:=8) (plain_met os args) (by kernel_rfl) (by kernel_rfl)
theorem wit_os (os:Os):(witW os).os = os:=(World.layVars_os _ _ _).trans rfl
theorem wit_shaped (os:Os) (args:Array Value):((witW os).forCall (fun _ _ => 0) ⟨#[],args,[]⟩).Shaped Tryz.prog:=World.shaped_of_ZipB (by kernel_rfl) (by kernel_rfl)
end Go.Proofs.YtnkejaohnhpbpaaGreatDoor
end
