/- A payment that comes in as an argument, opened. -/
import Derived.Test.YtnkejaohnhpbpaaGreatDoorA42
set_option linter.all false
namespace Go.Proofs.YtnkejaohnhpbpaaGreatDoor
open Go Go.RowKit Go.ChangeShapes Go.WideShapes Go.Deep Go.Joins
section
variable {H:Type} {enc:TypeId × Value → H} {W:World} {spare:Nat → Bool}
set_option maxRecDepth 100000 in
theorem open_pay {b0:Nat} {r:Reach} {v:Value} {d:DataW H} {p:List MemPlace} (hv:Value.okWide Tryz.prog W r b0 56 v) (h:DataW.Trod enc Tryz.prog W 0 spare true 56 v d p):∃ m:RPay,v = .agg #[.int .i64 m.kind,.int .i64 m.day,.int .i64 m.coin,.int .i64 m.amount,.int .i64 m.cas]:=by
 obtain ⟨cs,rfl,hsz⟩:=okWide_struct und56 hv
 obtain ⟨fuel,hf⟩:=h
 have hcl:cs.toList.length = 5:=by rw [Array.length_toList];exact hsz.trans ce56
 have hfs:(Tryz.prog.fieldsOf 56).size = 5:=by
  have:=congrArg List.length tys56
  rw [List.length_map,Array.length_toList] at this;exact this
 obtain ⟨ys,n',_,_,hlen,hyl,hfi⟩:=DataW.trod_struct und56 hf
 obtain ⟨m,hm⟩:=pay_row (enc:=enc) (W:=W) (spare:=spare) (n:=n') cs.toList hcl fun j t v hj hv => by
  rw [← tys56,List.getElem?_map,Array.getElem?_toList] at hj
  obtain ⟨f,hf0,rfl⟩:=Option.map_eq_some_iff.1 hj
  obtain ⟨ho,hk⟩:=hone_of one56 j f hf0
  have hjl:j < (Tryz.prog.fieldsOf 56).size:=(Array.getElem?_eq_some_iff.1 hf0).1
  have h1:=hfi j f hf0
  rw [ho,hk] at h1
  have hvl:=(List.getElem?_eq_some_iff.1 hv)
  have hone':(cs.toList.drop j).take 1 = [v]:=by
   rw [List.drop_eq_getElem_cons hvl.1,hvl.2]
   rfl
  have h2:(((Value.agg cs).cells.toList).drop j).take 1 = [v]:=hone'
  first | rw [h2] at h1 | rw [hone'] at h1 | skip
  have hys:ys[j]? = some (ys[j]'(by omega)):=List.getElem?_eq_getElem (by omega)
  exact ⟨_,h1.trans hys⟩
 refine ⟨m,?_⟩
 rw [← Array.toArray_toList (xs:=cs),← hm]
 rfl
end
end Go.Proofs.YtnkejaohnhpbpaaGreatDoor
