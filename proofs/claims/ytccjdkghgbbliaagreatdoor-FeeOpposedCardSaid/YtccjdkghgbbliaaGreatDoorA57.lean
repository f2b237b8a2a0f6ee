/- The kinds' table, as the row's condition lays it. -/
import Derived.Test.YtccjdkghgbbliaaGreatDoorTie
import Derived.LaidMore
import Derived.Lay
import Derived.Test.YtccjdkghgbbliaaGreatDoorCards
import Derived.Test.YtccjdkghgbbliaaGreatDoorA41
import Derived.Test.YtccjdkghgbbliaaGreatDoorA52
set_option linter.all false
namespace Go.Proofs.YtccjdkghgbbliaaGreatDoor
section
set_option maxHeartbeats 1000000
set_option maxRecDepth 10000
open Go Go.RowKit Go.ChangeShapes Go.WideShapes Go.Deep
abbrev laidAll:List (String×DataW Unit):=[("unicode/utf8.acceptRanges", Rows.laid_unicode_utf8_acceptRanges),("touchmark/dates.lengths", Rows.laid_touchmark_dates_lengths),("touchmark/fees.kinds", Rows.laid_touchmark_fees_kinds),("unicode/utf8.first", Rows.laid_unicode_utf8_first)]
theorem gKinds:Tryz.prog.globalNamed "touchmark/fees.kinds" = some 0:=by kernel_rfl
theorem tKinds:(Tryz.prog.globals[0]?).map (·.type)=some 212:=by kernel_rfl
theorem und143:Tryz.prog.underlying 211=some (.struct (Tryz.prog.fieldsOf 211)):=by kernel_rfl
theorem und144:Tryz.prog.underlying 212=some (.array 3 211):=by kernel_rfl
theorem und141:Tryz.prog.underlying 209=some (.func #[134,3] #[] false):=by kernel_rfl
theorem Rx:Tryz.prog.cellsOf 211=3:=by kernel_rfl
theorem Ry:Tryz.prog.cellsOf 212=9:=by kernel_rfl
theorem one143:oneCellFields Tryz.prog (Tryz.prog.fieldsOf 211)=true:=by kernel_rfl
theorem Uz:(Tryz.prog.fieldsOf 211).toList.map (·.type)=[9,209,4]:=by kernel_rfl
set_option maxRecDepth 100000 in
theorem Nj{W:World}{n:Nat}{c:Value}{last:Bool}{p:List MemPlace}(h:DataW.trod (funcToken Tryz.prog) Tryz.prog W 0 (λ_=>true) true n 4 [c]=some (.lit (.bool last),p)):c=.bool last:=by
 cases n with
 |zero=>simp[DataW.trod]at h
 |succ m=>
  unfold DataW.trod at h;rw[Tryz.underlying4]at h;split at h<;>simp_all
set_option maxRecDepth 100000 in
theorem vC{W:World}{n:Nat}{c0 c1 c2:Value}{s:List UInt8}{b0:UInt8}{r:List UInt8}{f0:FuncId}{last:Bool}{p:List MemPlace}
  (hone:((List.range Tryz.prog.funcs.size).filter λf=>(Tryz.prog.funcs[f]?).any (·.name.toUTF8.data.toList==b0::r))=[f0])
  (h:DataW.trod (funcToken Tryz.prog) Tryz.prog W 0 (λ_=>true) true n 211 [c0,c1,c2]=some (.agg [.lit (.string s),.held (b0::r),.lit (.bool last)],p)) :
  c0=.string ⟨s.toArray⟩∧c1=.func (.func f0) #[] #[]∧c2=.bool last:=by
 obtain⟨xs,m,_,hx,_,hlen,hf⟩:=DataW.trod_struct und143 h;have hsz:(Tryz.prog.fieldsOf 211).size=3:=by
  rw[← Array.length_toList,← List.length_map (f:=(·.type)),Uz];rfl
 have get:∀(j:Nat) (t:TypeId) (c:Value),[9,209,4][j]?=some t→[c0,c1,c2][j]?=some c→∃y,xs[j]?=some y∧DataW.trod (funcToken Tryz.prog) Tryz.prog W 0 (λ_=>true) true m t [c]=some y:=by
  intro j t c ht hc;rw[← Uz,List.getElem?_map,Array.getElem?_toList]at ht;obtain⟨f,hf0,rfl⟩:=Option.map_eq_some_iff.1 ht;obtain⟨ho,hk⟩:=hone_of one143 j f hf0;have h1:=hf j f hf0;rw[ho,hk]at h1;have hcl:=List.getElem?_eq_some_iff.1 hc;have e:([c0,c1,c2].drop j).take 1=[c]:=by
   rw[List.drop_eq_getElem_cons hcl.1,hcl.2];rfl
  rw[e]at h1;have hjl:j<xs.length:=by have:=(Array.getElem?_eq_some_iff.1 hf0).1;omega
  exact⟨xs[j],List.getElem?_eq_getElem hjl,h1.trans (List.getElem?_eq_getElem hjl)⟩
 obtain⟨y0,e0,t0⟩:=get 0 9 c0 rfl rfl;obtain⟨y1,e1,t1⟩:=get 1 209 c1 rfl rfl;obtain⟨y2,e2,t2⟩:=get 2 4 c2 rfl rfl
 match xs,hlen.trans hsz with
 | [x0,x1,x2],_=>
  simp only[List.getElem?_cons_zero,List.getElem?_cons_succ,Option.some.injEq]at e0 e1 e2;subst e0 e1 e2;simp only[Prod.mk.injEq,DataW.agg.injEq,List.map_cons,List.map_nil,List.cons.injEq,and_true]at hx;obtain⟨⟨hx0,hx1,hx2⟩,_⟩:=hx;obtain⟨s',k0,q0,_⟩:=DataW.trod_string Tryz.underlying9 t0;obtain⟨z,q1⟩:∃z,x1=(.held (b0::r),z):=⟨x1.2,by rw[hx1]⟩
  rw[q1]at t1;have k1:=func_of_trod und141 hone t1;refine⟨?_,k1,?_⟩
  ·rw[q0]at hx0;have hs:s=s'.data.toList:=by simpa using hx0
   have:=List.cons.inj k0;rw[this.1,hs]
  ·obtain⟨z2,q2⟩:∃z,x2=(.lit (.bool last),z):=⟨x2.2,by rw[hx2]⟩
   rw[q2]at t2;exact Nj t2
set_option maxRecDepth 100000 in
theorem Dq{W:World}{L:List (String×DataW Unit)} (hL:("touchmark/fees.kinds", Rows.laid_touchmark_fees_kinds)∈L) (h:laidMetH Tryz.prog L W):bK W:=by
 obtain⟨g,t,cs,fuel,p,hg,ht,hv,hd⟩:=h.funcs (n := "touchmark/fees.kinds") hL;obtain rfl:=Option.some.inj (gKinds.symm.trans hg);obtain rfl:=Option.some.inj (tKinds.symm.trans ht);have hd':DataW.trod (funcToken Tryz.prog) Tryz.prog W 0 (λ_=>true) true fuel 212 cs.toList=some (.agg [.agg [.lit (.string [105,110]),.held [40,42,116,111,117,99,104,109,97,114,107,47,102,101,101,115,46,116,105,108,108,41,46,105,110],.lit (.bool false)],.agg [.lit (.string [102,117,110,100]),.held [40,42,116,111,117,99,104,109,97,114,107,47,102,101,101,115,46,116,105,108,108,41,46,102,117,110,100],.lit (.bool false)],.agg [.lit (.string [109,111,118,101]),.held [40,42,116,111,117,99,104,109,97,114,107,47,102,101,101,115,46,116,105,108,108,41,46,109,111,118,101],.lit (.bool true)]],p):=hd;clear hd;obtain⟨xs,m1,rfl,hx1,hlen,hn3,hel⟩:=DataW.trod_array und144 hd';rw[Ry]at hlen;obtain⟨l⟩:=cs
 match l,hlen with
 | [c0,c1,c2,c3,c4,c5,c6,c7,c8],_=>
  match xs,hn3 with
  | [x0,x1,x2],_=>
   have h0:=hel 0 (by decide);have h1:=hel 1 (by decide);have h2:=hel 2 (by decide);rw[Rx]at h0 h1 h2;simp only[Prod.mk.injEq,List.map_cons,List.map_nil]at hx1;obtain⟨hx,_⟩:=hx1;simp only[DataW.agg.injEq,List.cons.injEq,and_true]at hx;obtain⟨q0,q1,q2⟩:=hx;obtain⟨x0,y0⟩:=x0;obtain⟨x1,y1⟩:=x1;obtain⟨x2,y2⟩:=x2;dsimp only at q0 q1 q2;subst q0 q1 q2;obtain⟨a0,a1,a2⟩:=vC (f0:=343) (by kernel_rfl) (show DataW.trod _ Tryz.prog W 0 _ true m1 211 [c0,c1,c2]=some _ from h0);obtain⟨a3,a4,a5⟩:=vC (f0:=339) (by kernel_rfl) (show DataW.trod _ Tryz.prog W 0 _ true m1 211 [c3,c4,c5]=some _ from h1);obtain⟨a6,a7,a8⟩:=vC (f0:=344) (by kernel_rfl) (show DataW.trod _ Tryz.prog W 0 _ true m1 211 [c6,c7,c8]=some _ from h2);subst a0 a1 a2 a3 a4 a5 a6 a7 a8;exact λj v hj=>(World.var?_cell hg hv j).trans hj
end
section
set_option maxHeartbeats 1000000
set_option maxRecDepth 10000
open Go Go.RowKit Go.ChangeShapes Go.WideShapes
theorem own:ownKnob Tryz.prog.godebug=none:=by kernel_rfl
abbrev Uh:List (String×DataW Unit):=[("unicode/utf8.acceptRanges", Rows.laid_unicode_utf8_acceptRanges),("touchmark/dates.lengths", Rows.laid_touchmark_dates_lengths),("unicode/utf8.first", Rows.laid_unicode_utf8_first)]
noncomputable def witW (os:Os):World:=(World.doorLaid Tryz.prog 300 os).layVars Tryz.prog Uh
end
section
set_option maxHeartbeats 1000000
set_option maxRecDepth 10000
open Go Go.Conc Go.RowKit Go.ChangeShapes Go.WideShapes Lift
theorem bQ.cells{l:Lay}{b:aO}{wa w:World}(h:bQ wa.heap.size l b wa)(hc:∀a,w.cell? a=wa.cell? a)(hs:w.heap.size=wa.heap.size):bQ w.heap.size l b w:=by
 have up:∀{base:Option Addr} {size:Nat} {rows:List (List Value)},bD wa.heap.size base size rows wa→bD w.heap.size base size rows w:=λh' i r hr=>by
  obtain⟨b',o,h1,h2,h3⟩:=h' i r hr;exact⟨b',o,h1,by omega,λj v hv=>(hc _).trans (h3 j v hv)⟩
 exact⟨ak _,up h.cs,up h.ts,up h.ks,up h.ps⟩
theorem laidOut:laidOutB Tryz.prog=true:=by kernel_rfl
section
variable {H:Type} {enc:TypeId×Value→H}
noncomputable def Us (t:TypeId):Bool:=Tryz.prog.readableRec t&&decide (t<Tryz.prog.types.size)
theorem DY{W W':World}(hb:Below W.heap.size W W')(ts:List TypeId):∀(vs:List Value) (ds:List (DataW H)) (ps:List MemPlace),
  (ts.all Us)=true→DataW.TrodAll enc Tryz.prog W 0 (λ_=>true) true ts vs ds ps→(∀x∈ps,x.block<W.heap.size)→
  DataW.TrodAll enc Tryz.prog W' 0 (λb=>decide (b<W.heap.size)) true ts vs ds ps:=by
 induction ts with
 |nil=>
  intro vs ds ps _ h _;obtain⟨rfl,rfl,rfl⟩:=trodAll_nil h;exact rfl
 |cons t ts ih=>
  intro vs ds ps hr h hlt;obtain⟨v,vs',d,ds',p,q,rfl,rfl,rfl,hd,hrest⟩:=trodAll_cons h;rw[List.all_cons,Bool.and_eq_true]at hr;have h1:=hr.1;unfold Us at h1;rw[Bool.and_eq_true]at h1;exact⟨p,q,Below.trod laidOut h1.1 (of_decide_eq_true h1.2) hd hb λx hx=>hlt x (List.mem_append_left _ hx),ih vs' ds' q hr.2 hrest λx hx=>hlt x (List.mem_append_right _ hx),rfl⟩
set_option maxRecDepth 100000 in
theorem Qh{fn:Func}{s:ChangeSpec}{W W':World}{args:Array Value}{ds gs:List (DataW H)}{before:List MemPlace}(hvars:s.vars=[])(hrt:fn.resultTypes=#[4])
  (hr:fn.params.toList.all Us=true)
  (hs:∀l:List (DataW H),l.length=fn.params.size→(s.fn H l).results=[.lit (.bool true)]∧(s.fn H l).args=l∧(s.fn H l).vars=[])
  (hW:DataW.Whole enc Tryz.prog fn.params.toList s.vars false W args.toList ds gs before) (hlen:ds.length=fn.params.size) (hb:Below W.heap.size W.blind W'.blind) :
  s.post enc Tryz.prog fn false true false false W.blind args (.bool true) W'.blind:=by
 have hWb:DataW.Whole enc Tryz.prog fn.params.toList s.vars false W.blind args.toList ds gs before:=DataW.Whole.of_heap (by rfl) hW;have hW2:=hWb;obtain⟨p,q,hA0,hV,rfl,_,_⟩:=hWb;have hA:DataW.TrodAll enc Tryz.prog W.blind 0 (λ_=>true) true fn.params.toList args.toList ds p:=hA0;rw[hvars]at hV;obtain⟨rfl,rfl⟩:=trodVars_none hV;obtain⟨e1,e2,e3⟩:=hs ds hlen;have hlt:∀x∈p,x.block<W.blind.heap.size:=λx hx=>by simpa using hW2.lt x (List.mem_append_left _ hx)
 refine⟨ds,[],_,[],p,[],hW2,?_,?_,?_,(show Below W.blind.heap.size W.blind W'.blind from hb).frame _,λh=>by cases h⟩
 ·rw[List.append_nil,e1,hrt];exact trodAll_mk1 (shut_bool Tryz.underlying4 true)
 ·rw[List.append_nil,e2];exact DY (show Below W.blind.heap.size W.blind W'.blind from hb) _ _ _ _ hr hA hlt
 ·rw[List.append_nil,e3,hvars];rfl
end
theorem OE{p:Go.Pinned}{s:OpenSpec}{c:OpenClaim}(kinds:List LaidKind)(tests:Bool)(har:Bool×String)(lk:Bool)
  (hc:c.holds p s) (hw:c.wfByText s=true) (htie:c.laidByTextAt .later p kinds tests)
  (hst:c.start=.entering) (hnb:c.noBlocks=false∧c.again=false) (hm:p.checked.prog.mainIs=some (har.1,har.2.toList)) (hn:(!har.1&&har.2.isEmpty&&!lk)=false)
  (hl:∀f fn,p.checked.prog.funcNamed c.func=some f→p.checked.prog.funcs[f]?=some fn→lk=p.checked.prog.looks []∧∀(j:Nat) t,fn.params[j]?=some t→p.checked.prog.wantsStandIn t=false)
  (hg:true=c.goesBy p.checked.prog) :
  Claim7.holds p (.plain s) { stood:={ row:=c,standIns:=[],harness:=har,looks:=lk },kinds:=[],alts:=[],goes:=true,laidByText:=true,laidKinds:=kinds,laidTests:=tests,laidLooks:=.later }:=by
 have h6:Claim7.isSixth { stood:={ row:=c,standIns:=[],harness:=har,looks:=lk },kinds:=[] }=false:=by simpa[Claim7.isSixth]using hn
 exact⟨Claim7.tied_new_at .later kinds tests (Claim7.new_of_sixth hc har lk hst hnb hm h6 hl) hw,λD hD=>(by cases hD),htie,(λh=>by cases h),hg⟩
end
section
open Go Go.RowKit Go.ChangeShapes Go.WideShapes Go.Deep Go.Joins
section
variable {H:Type} {enc:TypeId×Value→H} {W:World} {spare:Nat→Bool}
set_option maxRecDepth 100000 in
theorem Ue{b0:Nat}{r:Reach}{v:Value}{d:DataW H}{p:List MemPlace}(hv:Value.okWide Tryz.prog W r b0 93 v)(h:DataW.Trod enc Tryz.prog W 0 spare true 93 v d p):∃m:dI,v=.agg #[.int .i64 m.kind,.int .i64 m.day,.int .i64 m.bg,.int .i64 m.amount,.int .i64 m.cas]:=by
 obtain⟨cs,rfl,hsz⟩:=okWide_struct UF hv;obtain⟨fuel,hf⟩:=h;have hcl:cs.toList.length=5:=by rw[Array.length_toList];exact hsz.trans ce56
 have hfs:(Tryz.prog.fieldsOf 93).size=5:=by
  have:=congrArg List.length UA;rw[List.length_map,Array.length_toList]at this;exact this
 obtain⟨ys,n',_,_,hlen,hyl,hfi⟩:=DataW.trod_struct UF hf;obtain⟨m,hm⟩:=Oi (enc:=enc) (W:=W) (spare:=spare) (n:=n') cs.toList hcl λj t v hj hv=>by
  rw[← UA,List.getElem?_map,Array.getElem?_toList]at hj;obtain⟨f,hf0,rfl⟩:=Option.map_eq_some_iff.1 hj;obtain⟨ho,hk⟩:=hone_of one56 j f hf0;have hjl:j<(Tryz.prog.fieldsOf 93).size:=(Array.getElem?_eq_some_iff.1 hf0).1;have h1:=hfi j f hf0;rw[ho,hk]at h1;have hvl:=(List.getElem?_eq_some_iff.1 hv)
  have hone':(cs.toList.drop j).take 1=[v]:=by
   rw[List.drop_eq_getElem_cons hvl.1,hvl.2];rfl
  have h2:(((Value.agg cs).cells.toList).drop j).take 1=[v]:=hone'
  first|rw[h2]at h1|rw[hone']at h1|skip
  have hys:ys[j]?=some (ys[j]'(by omega)):=List.getElem?_eq_getElem (by omega);exact⟨_,h1.trans hys⟩
 refine⟨m,?_⟩;rw[← Array.toArray_toList (xs:=cs),← hm];rfl
end
end
section
set_option maxHeartbeats 1000000
set_option maxRecDepth 10000
open Go Go.RowKit Go.ChangeShapes Go.WideShapes Go.Deep
theorem gChecks:Tryz.prog.globalNamed "touchmark/rival.checks" = some 2:=by kernel_rfl
theorem tChecks:(Tryz.prog.globals[2]?).map (·.type)=some 317:=by kernel_rfl
theorem Nk:Tryz.prog.underlying 316=some (.func #[252] #[42] false):=by kernel_rfl
theorem Rz:Tryz.prog.cellsOf 317=3:=by kernel_rfl
set_option maxRecDepth 100000 in
theorem Ac{W:World}{L:List (String×DataW Unit)} (hL:("touchmark/rival.checks", Rows.laid_touchmark_rival_checks)∈L) (h:laidMetH Tryz.prog L W):eP W:=by
 obtain⟨g,t,cs,fuel,p,hg,ht,hv,hd⟩:=h.funcs (n := "touchmark/rival.checks") hL;obtain rfl:=Option.some.inj (gChecks.symm.trans hg);obtain rfl:=Option.some.inj (tChecks.symm.trans ht);have hd':DataW.trod (funcToken Tryz.prog) Tryz.prog W 0 (λ_=>true) true fuel 317 cs.toList=some (.agg [.held [40,116,111,117,99,104,109,97,114,107,47,114,105,118,97,108,46,98,111,111,107,41,46,114,105,103,104,116,115],.held [40,116,111,117,99,104,109,97,114,107,47,114,105,118,97,108,46,98,111,111,107,41,46,99,97,115,101,115],.held [40,116,111,117,99,104,109,97,114,107,47,114,105,118,97,108,46,98,111,111,107,41,46,108,111,111,112,115]],p):=hd;clear hd;obtain⟨xs,m1,rfl,hx1,hlen,hn3,hel⟩:=DataW.trod_array UD hd';rw[Rz]at hlen;obtain⟨l⟩:=cs
 match l,hlen with
 | [c0,c1,c2],_=>
  match xs,hn3 with
  | [x0,x1,x2],_=>
   have h0:=hel 0 (by decide);have h1:=hel 1 (by decide);have h2:=hel 2 (by decide);rw[KL]at h0 h1 h2;simp only[Prod.mk.injEq,List.map_cons,List.map_nil]at hx1;obtain⟨hx,_⟩:=hx1;simp only[DataW.agg.injEq,List.cons.injEq,and_true]at hx;obtain⟨q0,q1,q2⟩:=hx;obtain⟨x0,y0⟩:=x0;obtain⟨x1,y1⟩:=x1;obtain⟨x2,y2⟩:=x2;dsimp only at q0 q1 q2;subst q0 q1 q2;have a0:=func_of_trod (f0:=345) Nk (by kernel_rfl) (show DataW.trod _ Tryz.prog W 0 _ true m1 316 [c0]=some _ from h0);have a1:=func_of_trod (f0:=346) Nk (by kernel_rfl) (show DataW.trod _ Tryz.prog W 0 _ true m1 316 [c1]=some _ from h1);have a2:=func_of_trod (f0:=347) Nk (by kernel_rfl) (show DataW.trod _ Tryz.prog W 0 _ true m1 316 [c2]=some _ from h2);subst a0 a1 a2;exact λj v hj=>(World.var?_cell hg hv j).trans (by simpa[jg]using hj)
end
