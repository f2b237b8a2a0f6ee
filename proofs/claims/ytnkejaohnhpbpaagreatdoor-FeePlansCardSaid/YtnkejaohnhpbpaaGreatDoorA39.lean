/- The rows' ends: from a law's run to the row's conclusion, and from a row to its tied card, whatever the law. -/
import Derived.Test.YtnkejaohnhpbpaaGreatDoorCards
import Derived.Test.YtnkejaohnhpbpaaGreatDoorA38
set_option linter.all false
namespace Go.Proofs.YtnkejaohnhpbpaaGreatDoor
section
open Go Go.Conc Go.RowKit Go.ChangeShapes Go.WideShapes Lift
theorem bU.cells{l:Lay}{b:aP}{wa w:World}(h:bU wa.heap.size l b wa)(hc:∀a,w.cell? a=wa.cell? a)(hs:w.heap.size=wa.heap.size):bU w.heap.size l b w:=by
 have up:∀{base:Option Addr} {size:Nat} {rows:List (List Value)},bZ wa.heap.size base size rows wa→bZ w.heap.size base size rows w:=λh' i r hr=>by
  obtain⟨b',o,h1,h2,h3⟩:=h' i r hr;exact⟨b',o,h1,by omega,λj v hv=>(hc _).trans (h3 j v hv)⟩
 exact⟨ay _,up h.cs,up h.ts,up h.ks,up h.ps⟩
theorem laidOut:laidOutB Tryz.prog=true:=by kernel_rfl
section
variable {H:Type} {enc:TypeId×Value→H}
noncomputable def U1 (t:TypeId):Bool:=Tryz.prog.readableRec t&&decide (t<Tryz.prog.types.size)
theorem EJ{W W':World}(hb:Below W.heap.size W W')(ts:List TypeId):∀(vs:List Value) (ds:List (DataW H)) (ps:List MemPlace),
  (ts.all U1)=true→DataW.TrodAll enc Tryz.prog W 0 (λ_=>true) true ts vs ds ps→(∀x∈ps,x.block<W.heap.size)→
  DataW.TrodAll enc Tryz.prog W' 0 (λb=>decide (b<W.heap.size)) true ts vs ds ps:=by
 induction ts with
 |nil=>
  intro vs ds ps _ h _;obtain⟨rfl,rfl,rfl⟩:=trodAll_nil h;exact rfl
 |cons t ts ih=>
  intro vs ds ps hr h hlt;obtain⟨v,vs',d,ds',p,q,rfl,rfl,rfl,hd,hrest⟩:=trodAll_cons h;rw[List.all_cons,Bool.and_eq_true]at hr;have h1:=hr.1;unfold U1 at h1;rw[Bool.and_eq_true]at h1;exact⟨p,q,Below.trod laidOut h1.1 (of_decide_eq_true h1.2) hd hb λx hx=>hlt x (List.mem_append_left _ hx),ih vs' ds' q hr.2 hrest λx hx=>hlt x (List.mem_append_right _ hx),rfl⟩
set_option maxRecDepth 100000 in
theorem QJ{fn:Func}{s:ChangeSpec}{W W':World}{args:Array Value}{ds gs:List (DataW H)}{before:List MemPlace}(hvars:s.vars=[])(hrt:fn.resultTypes=#[4])
  (hr:fn.params.toList.all U1=true)
  (hs:∀l:List (DataW H),l.length=fn.params.size→(s.fn H l).results=[.lit (.bool true)]∧(s.fn H l).args=l∧(s.fn H l).vars=[])
  (hW:DataW.Whole enc Tryz.prog fn.params.toList s.vars false W args.toList ds gs before) (hlen:ds.length=fn.params.size) (hb:Below W.heap.size W.blind W'.blind) :
  s.post enc Tryz.prog fn false true false false W.blind args (.bool true) W'.blind:=by
 have hWb:DataW.Whole enc Tryz.prog fn.params.toList s.vars false W.blind args.toList ds gs before:=DataW.Whole.of_heap (by rfl) hW;have hW2:=hWb;obtain⟨p,q,hA0,hV,rfl,_,_⟩:=hWb;have hA:DataW.TrodAll enc Tryz.prog W.blind 0 (λ_=>true) true fn.params.toList args.toList ds p:=hA0;rw[hvars]at hV;obtain⟨rfl,rfl⟩:=trodVars_none hV;obtain⟨e1,e2,e3⟩:=hs ds hlen;have hlt:∀x∈p,x.block<W.blind.heap.size:=λx hx=>by simpa using hW2.lt x (List.mem_append_left _ hx)
 refine⟨ds,[],_,[],p,[],hW2,?_,?_,?_,(show Below W.blind.heap.size W.blind W'.blind from hb).frame _,λh=>by cases h⟩
 ·rw[List.append_nil,e1,hrt];exact trodAll_mk1 (shut_bool Tryz.underlying4 true)
 ·rw[List.append_nil,e2];exact EJ (show Below W.blind.heap.size W.blind W'.blind from hb) _ _ _ _ hr hA hlt
 ·rw[List.append_nil,e3,hvars];rfl
end
theorem Py{p:Go.Pinned}{s:OpenSpec}{c:OpenClaim}(kinds:List LaidKind)(tests:Bool)(har:Bool×String)(lk:Bool)
  (hc:c.holds p s) (hw:c.wfByText s=true) (htie:c.laidByTextAt .later p kinds tests)
  (hst:c.start=.entering) (hnb:c.noBlocks=false∧c.again=false) (hm:p.checked.prog.mainIs=some (har.1,har.2.toList)) (hn:(!har.1&&har.2.isEmpty&&!lk)=false)
  (hl:∀f fn,p.checked.prog.funcNamed c.func=some f→p.checked.prog.funcs[f]?=some fn→lk=p.checked.prog.looks []∧∀(j:Nat) t,fn.params[j]?=some t→p.checked.prog.wantsStandIn t=false)
  (hg:true=c.goesBy p.checked.prog) :
  Claim7.holds p (.plain s) { stood:={ row:=c,standIns:=[],harness:=har,looks:=lk },kinds:=[],alts:=[],goes:=true,laidByText:=true,laidKinds:=kinds,laidTests:=tests,laidLooks:=.later }:=by
 have h6:Claim7.isSixth { stood:={ row:=c,standIns:=[],harness:=har,looks:=lk },kinds:=[] }=false:=by simpa[Claim7.isSixth]using hn
 exact⟨Claim7.tied_new_at .later kinds tests (Claim7.new_of_sixth hc har lk hst hnb hm h6 hl) hw,λD hD=>(by cases hD),htie,(λh=>by cases h),hg⟩
end
