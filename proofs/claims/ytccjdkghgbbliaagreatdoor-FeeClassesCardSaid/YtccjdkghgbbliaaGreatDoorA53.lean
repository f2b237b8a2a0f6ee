/- The closed facts of a row, one theorem each (feeClassesRow). PRINTED BY A PROGRAM (z7.py). -/
import Derived.Test.YtccjdkghgbbliaaGreatDoorA50
import Derived.Test.YtccjdkghgbbliaaGreatDoorA51
set_option linter.all false
namespace Go.Proofs.YtccjdkghgbbliaaGreatDoor
section
set_option maxHeartbeats 1000000
set_option maxRecDepth 10000
open Go
theorem dM{a b:Bool}(h:a=true)(k:b=true):(a&&b)=true:=by rw[h,k];rfl
set_option maxRecDepth 100000
theorem k5_k0:(Rows.feeClassesRow.wf (OpenSpec.ofChange Rows.feeClassesSpec))=true:=by kernel_rfl
theorem k5_k1:(laidOutB Tryz.pinned.checked.prog)=true:=by kernel_rfl
theorem k5_k2:(mapsRowed Tryz.pinned.checked.prog)=true:=by kernel_rfl
theorem k5_k3:(Tryz.f5.params.all (Tryz.pinned.checked.prog.readableRec ·))=true:=by kernel_rfl
theorem k5_k4:(namedTie Tryz.pinned.checked.prog Rows.feeClassesRow.named Rows.feeClassesSpec.vars)=true:=by kernel_rfl
theorem k5_k5:((Rows.feeClassesRow.stops==[]))=true:=by kernel_rfl
theorem k5_k6:((Tryz.pinned.checked.prog.stops==[]))=true:=by kernel_rfl
theorem k5_k7:((Rows.feeClassesRow.knobs==[]))=true:=by kernel_rfl
theorem k5_k8:((Tryz.pinned.checked.prog.stopKnobs==[]))=true:=by kernel_rfl
theorem k5_k9:((Rows.feeClassesRow.inPlace==Tryz.pinned.checked.prog.inPlace 5))=true:=by kernel_rfl
theorem k5_k10:((Rows.feeClassesRow.unfollowed==Tryz.pinned.checked.prog.unfollowed 5))=true:=by kernel_rfl
theorem k5_k11:((Rows.feeClassesRow.recurses==Tryz.pinned.checked.prog.recurses 5))=true:=by kernel_rfl
theorem k5_k12:((Rows.feeClassesRow.named==Tryz.pinned.checked.prog.varsNamed 5))=true:=by kernel_rfl
theorem k5_k13:((Rows.feeClassesRow.maps==(Tryz.f5.params.toList++Rows.feeClassesSpec.plain.varTypes Tryz.pinned.checked.prog).any (Tryz.pinned.checked.prog.mapsRec ·)))=true:=by kernel_rfl
theorem k5_k14:((Rows.feeClassesRow.ifaces==(Tryz.f5.params.toList++Rows.feeClassesSpec.plain.varTypes Tryz.pinned.checked.prog).any (Tryz.pinned.checked.prog.ifacesRec ·)))=true:=by kernel_rfl
theorem k5_k15:((Rows.feeClassesRow.mapsOut==Tryz.pinned.checked.prog.mapsAmong Tryz.f5.resultTypes.toList))=true:=by kernel_rfl
theorem k5_k16:((Rows.feeClassesRow.loops==(Tryz.f5.params.toList++Rows.feeClassesSpec.plain.varTypes Tryz.pinned.checked.prog).any (Tryz.pinned.checked.prog.loopsFrom ·)))=true:=by kernel_rfl
theorem k5_k17:((Rows.feeClassesRow.wideKeys==(Tryz.f5.params.toList++Rows.feeClassesSpec.plain.varTypes Tryz.pinned.checked.prog++Tryz.f5.resultTypes.toList).any (Tryz.pinned.checked.prog.wideKeysFrom ·)))=true:=by kernel_rfl
theorem k5_k18:(Rows.feeClassesSpec.vars.all (Tryz.pinned.checked.prog.varReadable ·))=true:=by kernel_rfl
theorem k5_k19:(Tryz.f5.resultTypes.all (λt=>Tryz.pinned.checked.prog.readableRec t&&decide (t<Tryz.pinned.checked.prog.types.size)))=true:=by kernel_rfl
theorem k5_k20:((Rows.feeClassesRow.ifacesOut==Tryz.f5.resultTypes.toList.any (Tryz.pinned.checked.prog.ifacesRec ·)))=true:=by kernel_rfl
theorem k5_k21:((Rows.feeClassesRow.loopsOut==Tryz.f5.resultTypes.toList.any (Tryz.pinned.checked.prog.loopsFrom ·)))=true:=by kernel_rfl
theorem k5_k22:((Rows.feeClassesRow.plainKeys==Tryz.pinned.checked.prog.plainKeys))=true:=by kernel_rfl
theorem k5_k23:(Rows.feeClassesRow.shortTexts.isNone)=true:=by kernel_rfl
theorem k5_k24:(Tryz.pinned.checked.prog.stopsHeard)=true:=by kernel_rfl
theorem k5_k25:(Tryz.pinned.checked.prog.mayEnter)=true:=by kernel_rfl
theorem k5_k26:((Rows.feeClassesRow.lifted==Tryz.pinned.checked.prog.liftsFinal))=true:=by kernel_rfl
theorem k5_k27:((Tryz.pinned.checked.prog.make==some Rows.feeClassesRow.make))=true:=by kernel_rfl
theorem k5_k28:((Rows.feeClassesRow.kinds==(if Rows.feeClassesRow.domain.isEmpty then[]else Tryz.f5.params.toList.map λt=>match Tryz.pinned.checked.prog.underlying t with|some (.int k)=>some k|_=>none)))=true:=by kernel_rfl
theorem k5_k29:((Rows.feeClassesRow.pinned==Rows.feeClassesRow.pinnedBy))=true:=by kernel_rfl
theorem k5_k30:((Rows.feeClassesRow.veiled==(Tryz.f5.params.toList++Rows.feeClassesSpec.plain.varTypes Tryz.pinned.checked.prog++Tryz.f5.resultTypes.toList).any (Tryz.pinned.checked.prog.veiledRec ·)))=true:=by kernel_rfl
theorem k5_k31:(Rows.feeClassesRow.veiledFits Tryz.pinned.checked.prog Tryz.f5.params.toList (Tryz.f5.params.toList++Rows.feeClassesSpec.plain.varTypes Tryz.pinned.checked.prog++Tryz.f5.resultTypes.toList))=true:=by kernel_rfl
theorem Px:joinedFacts Tryz.pinned.checked.prog 5 Tryz.f5 Rows.feeClassesSpec Rows.feeClassesRow=true:=dM (dM (dM (dM (dM (dM (dM (dM (dM (dM (dM (dM (dM (dM (dM (dM (dM (dM (dM (dM (dM (dM (dM (dM (dM (dM (dM (dM (dM (dM (dM (k5_k0) k5_k1) k5_k2) k5_k3) k5_k4) k5_k5) k5_k6) k5_k7) k5_k8) k5_k9) k5_k10) k5_k11) k5_k12) k5_k13) k5_k14) k5_k15) k5_k16) k5_k17) k5_k18) k5_k19) k5_k20) k5_k21) k5_k22) k5_k23) k5_k24) k5_k25) k5_k26) k5_k27) k5_k28) k5_k29) k5_k30) k5_k31
theorem IZ:Tryz.pinned.checked.prog.funcNamed Rows.feeClassesRow.func=some 5:=by kernel_rfl
theorem k5_inst:Tryz.f5.isInstance Tryz.pinned.checked.prog Rows.feeClassesRow.origin Rows.feeClassesRow.targs:=of_decide_eq_true (by kernel_rfl)
theorem k5_wrap:Tryz.f5.isWrapper Tryz.pinned.checked.prog Rows.feeClassesRow.wrapper Rows.feeClassesRow.mainSum:=by unfold Func.isWrapper;first|(rw[if_pos (by decide +kernel)];kernel_rfl)|(rw[if_neg (by decide +kernel)];exact⟨rfl,rfl⟩)
end
section
open Go Go.Conc Go.RowKit Go.ChangeShapes Go.WideShapes Lift
abbrev NV:List (String×DataW Unit):=[("unicode/utf8.acceptRanges", Rows.laid_unicode_utf8_acceptRanges),("touchmark/fees.kinds", Rows.laid_touchmark_fees_kinds),("unicode/utf8.first", Rows.laid_unicode_utf8_first)]
abbrev MI:List (String×DataW Unit):=[("unicode/utf8.acceptRanges", Rows.laid_unicode_utf8_acceptRanges),("unicode/utf8.first", Rows.laid_unicode_utf8_first)]
noncomputable def Qn (os:Os):World:=(World.doorLaid Tryz.prog 300 os).layVars Tryz.prog MI
theorem MJ(os:Os)(args:Array Value):laidMet Tryz.prog MI ((Qn os).forCall (λ_ _=>0) ⟨#[],args,[]⟩).memory:=by
 have h:laidMet Tryz.prog MI (Qn os):=laidMet_layVars (w0:=World.doorLaid Tryz.prog 300 os) ["unicode/utf8.acceptRanges", "unicode/utf8.first"] [] rfl (by kernel_rfl) (by kernel_rfl) LaidIn.none;exact h.of_heap (by simp[World.memory,World.forCall,Input.heap])
theorem OI(os:Os)(args:Array Value):laidMetH Tryz.prog NV ((Qn os).forCall (λ_ _=>0) ⟨#[],args,[]⟩).memory:=
 laidMetH_of_parts3 (fuel:=8) (MJ os args) (by kernel_rfl) (by kernel_rfl)
theorem witC_os(os:Os):(Qn os).os=os:=(World.layVars_os _ _ _).trans rfl
theorem J4(os:Os)(args:Array Value):((Qn os).forCall (λ_ _=>0) ⟨#[],args,[]⟩).Shaped Tryz.prog:=World.shaped_of_ZipB (by kernel_rfl) (by kernel_rfl)
theorem bI.cells{t:aZ}{wa w:World}(h:bI wa.heap.size t wa)(hc:∀a,w.cell? a=wa.cell? a)(hs:w.heap.size=wa.heap.size):bI w.heap.size t w:=by
 have up:∀{base:Option Addr} {size:Nat} {rows:List (List Value)},bC wa.heap.size base size rows wa→bC w.heap.size base size rows w:=λh' i r hr=>by
  obtain⟨b',o,h1,h2,h3⟩:=h' i r hr;exact⟨b',o,h1,by omega,λj v hv=>(hc _).trans (h3 j v hv)⟩
 exact⟨ak _,up h.es,λe he=>up (h.ed e he),up h.ms,up h.ks⟩
theorem iq.cells{a:Option Addr}{n:Nat}{wa w:World}(h:iq wa.heap.size a n wa)(hc:∀a,w.cell? a=wa.cell? a)(hs:w.heap.size=wa.heap.size):iq w.heap.size a n w:=λi hi=>
 let ⟨b,o,x,h1,h2,h3,h4⟩:=h i hi
 ⟨b,o,x,h1,by omega,(hc _).trans h3,h4⟩
theorem UD:Tryz.prog.underlying 69=some (.slice 38):=by kernel_rfl
theorem cel38s:Tryz.prog.cellsOf 38=1:=by kernel_rfl
set_option maxRecDepth 100000 in
theorem Ub{H:Type}{enc:TypeId×Value→H}{W:World}{spare:Nat→Bool}{n:Nat}{y:DataW H×List MemPlace}(cs:List Value)(hl:cs.length=1)(h:DataW.trod enc Tryz.prog W 0 spare true n 38 cs=some y):∃x:Int,[Value.int .u16 x]=cs∧0≤x∧x≤65535:=by
 match cs,hl with
 | [c],_=>
  obtain⟨x,e,_,hw⟩:=DataW.trod_int Tryz.underlying38 h;obtain rfl:c=.int .u16 x:=by simpa using e
  have:0≤x∧x≤65535:=by simpa[Lit.wf,IntKind.min,IntKind.max,IntKind.signed,IntKind.bits]using hw
  exact⟨x,rfl,this⟩
set_option maxRecDepth 100000 in
theorem MF{H:Type}{enc:TypeId×Value→H}{W:World}{spare:Nat→Bool}{v:Value}{d:DataW H}{p:List MemPlace}{b0:Nat}{r:Reach}(hv:Value.okWide Tryz.prog W r b0 69 v)(h:DataW.Trod enc Tryz.prog W 0 spare true 69 v d p):∃a n c,v=.slice a n c∧iq W.heap.size a n W:=by
 obtain⟨a0,len0,cap0,rfl⟩:=okWide_slice UD hv;obtain⟨fuel,hf0⟩:=h;have hf:DataW.trod enc Tryz.prog W 0 spare true fuel 69 [.slice a0 len0 cap0]=some (d,p):=by simpa[Value.cells]using hf0
 obtain⟨a,k,xs,e0,r,q⟩:=lU (row:=λx:Int=>[Value.int .u16 x]) (λx=>0≤x∧x≤65535) UD cel38s (size:=1) hf (λx=>⟨_,rfl⟩) λcs n y hl hy=>Ub cs hl hy;refine⟨a,_,k,e0,λi hi=>?_⟩;obtain⟨b,o,e1,e2,e3⟩:=bC.nI r hi;have hm:=q _ (List.getElem_mem hi);exact⟨b,o,_,e1,e2,by simpa using e3 0 _ rfl,hm⟩
theorem DR{H:Type}{enc:TypeId×Value→H}{P:Program}{w:World}{base:Nat}{spare:Nat→Bool}{held:Bool}{t0 t1 t2 t3 t4 t5 t6:TypeId}{args:Array Value}{ds:List (DataW H)}{ps:List MemPlace}(h:DataW.TrodAll enc P w base spare held [t0,t1,t2,t3,t4,t5,t6] args.toList ds ps) :
  ∃v0 v1 v2 v3 v4 v5 v6 d0 d1 d2 d3 d4 d5 d6 p0 p1 p2 p3 p4 p5 p6,args=#[v0,v1,v2,v3,v4,v5,v6]∧ds=[d0,d1,d2,d3,d4,d5,d6]∧ps=p0++(p1++(p2++(p3++(p4++(p5++p6)))))∧
   DataW.Trod enc P w base spare held t0 v0 d0 p0∧DataW.Trod enc P w base spare held t1 v1 d1 p1∧DataW.Trod enc P w base spare held t2 v2 d2 p2∧DataW.Trod enc P w base spare held t3 v3 d3 p3∧DataW.Trod enc P w base spare held t4 v4 d4 p4∧DataW.Trod enc P w base spare held t5 v5 d5 p5∧DataW.Trod enc P w base spare held t6 v6 d6 p6:=by
 obtain⟨v0,vs0,d0,e0,p0,q0,hargs,rfl,rfl,h0,hr0⟩:=trodAll_cons h;obtain⟨v1,vs1,d1,e1,p1,q1,rfl,rfl,rfl,h1,hr1⟩:=trodAll_cons hr0;obtain⟨v2,vs2,d2,e2,p2,q2,rfl,rfl,rfl,h2,hr2⟩:=trodAll_cons hr1;obtain⟨v3,vs3,d3,e3,p3,q3,rfl,rfl,rfl,h3,hr3⟩:=trodAll_cons hr2;obtain⟨v4,vs4,d4,e4,p4,q4,rfl,rfl,rfl,h4,hr4⟩:=trodAll_cons hr3;obtain⟨v5,vs5,d5,e5,p5,q5,rfl,rfl,rfl,h5,hr5⟩:=trodAll_cons hr4;obtain⟨v6,vs6,d6,e6,p6,q6,rfl,rfl,rfl,h6,hr6⟩:=trodAll_cons hr5;obtain⟨rfl,rfl,rfl⟩:=trodAll_nil hr6;exact⟨v0,v1,v2,v3,v4,v5,v6,d0,d1,d2,d3,d4,d5,d6,p0,p1,p2,p3,p4,p5,p6,by cases args;simp_all,rfl,by simp,h0,h1,h2,h3,h4,h5,h6⟩
set_option maxRecDepth 100000 in
theorem vU(os:Os)(started:os.Started)(H:Type)(enc:TypeId×Value→H) :
  ReturnsInLeavingWide {} Tryz.checked os 5 .any (λw args=>(Rows.feeClassesSpec.pre enc Tryz.prog Tryz.f5 [] false w args∧laidMetH Tryz.prog NV w)∧sizedMet enc Tryz.prog Tryz.f5 (OpenSpec.ofChange Rows.feeClassesSpec) false w args)
   (Rows.feeClassesSpec.post enc Tryz.prog Tryz.f5 false true false false):=by
 refine yV (C:=Tryz.checked) (X:=λw _=>laidMetH Tryz.prog NV w) (λ_ _ _ hh h=>h.of_heap hh) own started Tryz.func5
  (ChangeSpec.witness_shaped (enc:=enc) (C:=Tryz.checked) (os:=os) (X:=λw _=>laidMetH Tryz.prog NV w) false (Qn os) #[.agg #[.slice none 0 0,.slice none 0 0,.slice none 0 0,.slice none 0 0],.agg #[.slice none 0 0,.slice none 0 0,.slice none 0 0],.int .u8 0,.int .u8 0,.int .u8 0,.int .u16 0,.slice none 0 0] 3 (witC_os os) (J4 os _) (by kernel_rfl) (by kernel_rfl) (by kernel_rfl) (OI os _)) ?_
 intro W base args ds gs before hval0 hW hL;have hval:∀(j:Nat) t v,Tryz.f5.params[j]?=some t→args[j]?=some v→Value.okWide Tryz.prog W .any base t v:=hval0;have hW':=hW;obtain⟨p,q,hA0,hV,rfl,_,_⟩:=hW;have hA:DataW.TrodAll enc Tryz.prog W 0 (λ_=>true) true Tryz.f5.params.toList args.toList ds p:=hA0;rw[Tryz.params5]at hA hval;obtain⟨v0,v1,v2,v3,v4,v5,v6,d0,d1,d2,d3,d4,d5,d6,p0,p1,p2,p3,p4,p5,p6,rfl,rfl,rfl,h0,h1,h2,h3,h4,h5,h6⟩:=DR hA;obtain⟨l,b,rfl,hcap,hbk⟩:=PW (hval 0 27 v0 rfl rfl) h0;obtain⟨t,rfl,hta⟩:=open_table (hval 1 68 v1 rfl rfl) h1;obtain⟨x2,rfl,-,-,w2⟩:=open_int Tryz.underlying5 (hval 2 5 v2 rfl rfl) h2;obtain⟨x3,rfl,-,-,w3⟩:=open_int Tryz.underlying5 (hval 3 5 v3 rfl rfl) h3;obtain⟨x4,rfl,-,-,w4⟩:=open_int Tryz.underlying5 (hval 4 5 v4 rfl rfl) h4;obtain⟨x5,rfl,-,-,w5⟩:=open_int Tryz.underlying38 (hval 5 38 v5 rfl rfl) h5;have hv6:=hval 6 69 v6 rfl rfl;obtain⟨pa,pn,pc,rfl,hpk⟩:=MF hv6 h6;have hk:=Dq (by simp) hL;have hx2:0≤x2∧x2≤255:=by simpa[Lit.wf,IntKind.min,IntKind.max,IntKind.signed,IntKind.bits]using w2
 have hx3:0≤x3∧x3≤255:=by simpa[Lit.wf,IntKind.min,IntKind.max,IntKind.signed,IntKind.bits]using w3
 have hx4:0≤x4∧x4≤255:=by simpa[Lit.wf,IntKind.min,IntKind.max,IntKind.signed,IntKind.bits]using w4
 have hx5:0≤x5∧x5≤65535:=by simpa[Lit.wf,IntKind.min,IntKind.max,IntKind.signed,IntKind.bits]using w5
 obtain⟨N,last,o,w',t',e1,e2,e3,e4⟩:=Ti (P:=Tryz.prog) (wa:=W) (args:=#[.agg (l.bP b),.agg t.arr,.int .u8 x2,.int .u8 x3,.int .u8 x4,.int .u16 x5,.slice pa pn pc]) Tryz.func5 rfl (by kernel_rfl) λw hcell hs hlim=>
  law5 hx2.1 hx2.2 hx3.1 hx3.2 hx4.1 hx4.2 hx5.1 hx5.2 (hbk.cells hcell hs) hcap (hta.cells hcell hs) (hpk.cells hcell hs) (λj v hj=>(hcell _).trans (hk j v hj)) (by rw[hlim,hs];exact ak _)
 exact⟨N,last,o,w',t',e1,e2,e3,e4.mono λv hv=>by
  obtain⟨rfl,hb⟩:=hv;exact P6 rfl rfl (by kernel_rfl) (λl hl=>by match l,hl with | [_,_,_,_,_,_,_],_=>exact⟨rfl,rfl,rfl⟩) hW' rfl hb⟩
theorem xg:Rows.FeeClassesSaid:=
 OpenClaim.holds_of_wide_leaving 5 Tryz.f5 rfl rfl rfl rfl rfl rfl rfl ⟨rfl,rfl,rfl,rfl,rfl⟩ rfl rfl rfl rfl rfl IZ Tryz.func5 Px k5_inst k5_wrap
  (λos started H enc _=>vU os started H enc)
theorem feeClasses_card:Rows.FeeClassesCardSaid:=
 Ot [.data,.funcsDeep,.pinned] true (true, "2b3833b37c59463e22f25a6b7d36a15fd743a6e422ab7f52625749c65d5d1d7e") false xg (by kernel_rfl) feeClasses_row_tie rfl ⟨rfl,rfl⟩ (by kernel_rfl) rfl
  (λf fn hf hfn=>by
   obtain rfl:f=5:=Option.some.inj (IZ.symm.trans hf) |>.symm;obtain rfl:fn=Tryz.f5:=(Option.some.inj (Tryz.func5.symm.trans hfn)).symm;exact⟨by kernel_rfl,λj t ht=>by
    rw[Tryz.params5]at ht;have hm:t∈[27,68,5,5,5,38,69]:=by simpa using Array.mem_of_getElem? ht
    have hall:([27,68,5,5,5,38,69].all λu=>!Tryz.prog.wantsStandIn u)=true:=by kernel_rfl
    exact(show Tryz.prog.wantsStandIn t=false by simpa using List.all_eq_true.1 hall t hm)⟩)
  (by kernel_rfl)
end
