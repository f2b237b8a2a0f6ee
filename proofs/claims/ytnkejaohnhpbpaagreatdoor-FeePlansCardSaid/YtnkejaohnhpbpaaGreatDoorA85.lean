/- FeePlans, beside leavers. PRINTED BY A PROGRAM. -/
import Derived.Test.YtnkejaohnhpbpaaGreatDoorA39
import Derived.Test.YtnkejaohnhpbpaaGreatDoorA84
set_option linter.all false
namespace Go.Proofs.YtnkejaohnhpbpaaGreatDoor
section
open Go Go.Conc Go.RowKit Lift
theorem QI{b:aP}{day:Int}{cs ps:List Int}(hs:b.Small)(h:b.nX day cs ps):cs.length<1000000∧ps.length<1000000:=by
 unfold aP.nX at h;split at h
 ·obtain⟨c0,p0,h1,rfl,rfl⟩:=h;have hl:=kF h1;have h2:b.aJ.length * b.to.cs.length≤1000 * 100:=Nat.mul_le_mul (by have:=hs.1;omega) (by rw[Lc];have:=hs.2.2.1;omega);rw[dI,dI];omega
 ·rw[h.1,h.2];decide
set_option maxHeartbeats 16000000 in
set_option maxRecDepth 1000000 in
theorem law5[Keep]{w:World}{l:Lay}{b:aP}(hbk:bU w.heap.size l b w)(hcap:b.aJ.length≤l.cc)(hkd:bT w)(hlim:Keep.lim≤w.heap.size){day:Int}{bc bp:Option Addr}{kc kp:Nat}{cases proof:List Int}(Hz:bQ w (.slice bc cases.length kc) cases)(hvp:bQ w (.slice bp proof.length kp) proof) :
  Raw Tryz.prog (uz Tryz.prog 5 Tryz.f5 λv w1 S1=>v=.bool true∧gu w.heap.size w (λ_=>False) w1 S1) (G (Frame.enter Tryz.prog 5 #[.agg (l.cu b),.int .i64 day,.slice bc cases.length kc,.slice bp proof.length kp] .normal) []) w (λ_=>False):=by
 refine N7 fit (by simp) Tryz.func5 rfl ?_;generalize (λ_=>False:Blks)=S;simp only[Tryz.ntmps5,aC,aB,aF,Nat.reduceAdd,Nat.reduceSub,Array.replicate_succ,Array.replicate_zero,List.push_toArray,List.append_toArray,List.nil_append,List.cons_append];refine gY λwa hs=>?_;gi_wp2;have E:mZ w S w.heap.size l b wa.heap.size (wa.alloc (.cells (l.cu b) 27)) S:=by
  have hsz:wa.heap.size=w.heap.size:=by rw[hs.heap]
  have hg:Grow w.heap.size w (wa.alloc (.cells (l.cu b) 27)):=hs.grow ((Below.refl w.heap.size wa).alloc (by omega) _);exact⟨hg.s,hbk.grow hg,Blk.new _ _ _,by omega,hkd.grow hg hkd.lt⟩
 clear hs hbk hkd;generalize wa.alloc _=W at *;generalize wa.heap.size=B at *;refine jd fit ?_;refine DY E λwb E=>?_;have g0:=E.bx.cell 0;have g1:=E.bx.cell 1;have g2:=E.bx.cell 2;have g3:=E.bx.cell 3;simp at g0 g1 g2 g3;have Np:=E.bx.lt;have hcall:=O9 E.bk;by_cases q1:40<cases.length
 ·have z1:(40:Int)<cases.length:=by omega
  gi_wp2_with (gi_at_call 16;with_reducible refine hcall.mono ?_;rintro e w2 ⟨⟨r,rfl,hr⟩,hb2⟩;replace E:=E.below hb2;clear hb2;rcases r with _|_)
  all_goals
   clear g0 g1 g2 g3 Np;clear hcall;refine ug fit (t:=true) rfl ?_;simp only[if_true];refine jd fit (kT fit ?_);simp only[aC,aB,aF,Nat.reduceAdd,List.range,List.range.loop];refine kP rfl rfl rfl Tryz.func17 (by kernel_rfl) GN (vals:=#[]) (by simp) (Iz E.kd (Nat.le_trans hlim E.g.size)) ?_;rintro u w5 S5 ⟨rfl,hg5⟩;replace E:=E.grow hg5;clear hg5;refine bH rfl rfl λwr hs=>?_;replace E:=E.same hs;clear hs;gi_wp2;refine lG fit ?_;refine yI fit ?_;exact⟨rfl,.bool true,λτ d=>by rw[results_tmp rfl];rfl,rfl,E.g⟩
 ·have z1:decide ((40:Int)<cases.length)=false:=decide_eq_false (by omega);by_cases q2:40<proof.length
  ·have z2:(40:Int)<proof.length:=by omega
   gi_wp2_with (gi_at_call 16;with_reducible refine hcall.mono ?_;rintro e w2 ⟨⟨r,rfl,hr⟩,hb2⟩;replace E:=E.below hb2;clear hb2;rcases r with _|_)
   all_goals
    clear g0 g1 g2 g3 Np;clear hcall;refine ug fit (t:=true) rfl ?_;simp only[if_true];refine jd fit (kT fit ?_);simp only[aC,aB,aF,Nat.reduceAdd,List.range,List.range.loop];refine kP rfl rfl rfl Tryz.func17 (by kernel_rfl) GN (vals:=#[]) (by simp) (Iz E.kd (Nat.le_trans hlim E.g.size)) ?_;rintro u w5 S5 ⟨rfl,hg5⟩;replace E:=E.grow hg5;clear hg5;refine bH rfl rfl λwr hs=>?_;replace E:=E.same hs;clear hs;gi_wp2;refine lG fit ?_;refine yI fit ?_;exact⟨rfl,.bool true,λτ d=>by rw[results_tmp rfl];rfl,rfl,E.g⟩
  ·have z2:decide ((40:Int)<proof.length)=false:=decide_eq_false (by omega);have hnc:cases.length<1000000:=by omega
   have hnp:proof.length<1000000:=by omega
   gi_wp2_with (gi_at_call 16;with_reducible refine hcall.mono ?_;rintro e w2 ⟨⟨r,rfl,hr⟩,hb2⟩;replace E:=E.below hb2;clear hb2;rcases r with _|_)
   ·clear g0 g1 g2 g3 Np;clear hcall;refine ug fit (t:=false) rfl ?_;simp only[Bool.false_eq_true,if_false];refine Lm fit ?_;have hs:b.Small:=hr (by trivial);clear hr;have k31:=λ{w':World} (h:bU w.heap.size l b w') (hk:bT w')=>RQ h hs (day:=day) hk;have k32:=λ{w':World} (h:bU w.heap.size l b w')=>RP h hcap hs day;have k33:=λ{w':World} (h:bU w.heap.size l b w') (hk:bT w') (hg:Grow w.heap.size w w')=>LJ h hs (day:=day) hk (Hz.gr hg) (hvp.gr hg) hnc hnp;have k34:=λ{w':World} (h:bU w.heap.size l b w') (hg:Grow w.heap.size w w')=>LH h hcap hs day (Hz.gr hg) (hvp.gr hg) hnc hnp;generalize b.je (true=true) day=fl at k31 k32 k33 k34;generalize b.pvA day cases proof=pv at k33 k34;refine DY E λwr E=>?_;have g0:=E.bx.cell 0;have g1:=E.bx.cell 1;have g2:=E.bx.cell 2;have g3:=E.bx.cell 3;simp at g0 g1 g2 g3;have Np:=E.bx.lt;have hcall:=k31 E.bk E.kd
    gi_wp2_with (gi_at_call 31;with_reducible refine hcall.mono ?_;rintro e w4 ⟨v1,v2,rfl,c1,p1,px1,o1,o2,hb4⟩)
    have h1:=eF o1 rfl;have h2:=eF o2 rfl;replace E:=E.below hb4;clear hb4 hcall g0 g1 g2 g3 Np;clear o1 o2;refine gY λwr hs=>?_;replace E:=E.same hs;replace h1:=h1.grow (hs.g _);replace h2:=h2.grow (hs.g _);clear hs;have g0:=E.bx.cell 0;have g1:=E.bx.cell 1;have g2:=E.bx.cell 2;have g3:=E.bx.cell 3;simp at g0 g1 g2 g3;have Np:=E.bx.lt;have hcall:=k32 E.bk
    gi_wp2_with (gi_at_call 32;with_reducible refine hcall.mono ?_;rintro e w4 ⟨v3,v4,rfl,c2,p2,px2,o3,o4,hb4⟩)
    have h3:=eF o3 rfl;have h4:=eF o4 rfl;replace E:=E.below hb4;replace h1:=h1.below hb4;replace h2:=h2.below hb4;clear hb4 hcall g0 g1 g2 g3 Np;clear o3 o4;obtain⟨rfl,rfl⟩:=NW px1 px2;have hq:c1.length<1000000∧p1.length<1000000:=QI hs px1;clear px1 px2 k31 k32;refine jd fit ?_;refine gY λwr hs=>?_;replace E:=E.same hs;replace h1:=h1.grow (hs.g _);replace h2:=h2.grow (hs.g _);replace h3:=h3.grow (hs.g _);replace h4:=h4.grow (hs.g _);clear hs;have hc1:=IU c1 c1 v1 v3 wr h1 h3 hq.1 hq.1;have hc2:=λ{w':World} (hb:Below wr.heap.size wr w')=>IU p1 p1 v2 v4 w' (h2.below hb) (h4.below hb) hq.2 hq.2;rw[decide_eq_true rfl]at hc1;simp only[decide_true]at hc2
    gi_wp2_with (first
     |(gi_at_call 30;with_reducible refine hc1.mono ?_;rintro e w6 ⟨rfl,hb4⟩)
     |(gi_at_call 30;with_reducible refine(hc2 hb4).mono ?_;rintro e w7 ⟨rfl,hb5⟩))
    replace E:=(E.below hb4).below hb5;clear hb4 hb5 hc1 hc2 h1 h2 h3 h4 hq;refine ug fit (t:=false) rfl ?_;simp only[Bool.false_eq_true,if_false];refine Lm fit ?_;refine DY E λwr E=>?_;have g0:=E.bx.cell 0;have g1:=E.bx.cell 1;have g2:=E.bx.cell 2;have g3:=E.bx.cell 3;simp at g0 g1 g2 g3;have Np:=E.bx.lt;have hcall:=k33 E.bk E.kd E.g.toGrow
    gi_wp2_with (gi_at_call 33;with_reducible refine hcall.mono ?_;rintro e w4 ⟨rfl,hb4⟩)
    replace E:=E.below hb4;clear hb4 hcall g0 g1 g2 g3 Np;refine gY λwr hs=>?_;replace E:=E.same hs;clear hs;have g0:=E.bx.cell 0;have g1:=E.bx.cell 1;have g2:=E.bx.cell 2;have g3:=E.bx.cell 3;simp at g0 g1 g2 g3;have Np:=E.bx.lt;have hcall:=k34 E.bk E.g.toGrow
    gi_wp2_with (gi_at_call 34;with_reducible refine hcall.mono ?_;rintro e w4 ⟨rfl,hb4⟩)
    replace E:=E.below hb4;clear hb4 hcall g0 g1 g2 g3 Np;clear k33 k34;refine jd fit (kT fit ?_);simp only[aC,aB,aF,Nat.reduceAdd,List.range,List.range.loop]
    iterate 9
     refine bH rfl rfl λwr hs=>?_;replace E:=E.same hs;clear hs;gi_wp2
    refine kP rfl rfl rfl Tryz.func17 (by kernel_rfl) GN (vals:=#[]) (by simp) (Iz E.kd (Nat.le_trans hlim E.g.size)) ?_;rintro u w5 S5 ⟨rfl,hg5⟩;replace E:=E.grow hg5;clear hg5
    iterate 2
     refine bH rfl rfl λwr hs=>?_;replace E:=E.same hs;clear hs;gi_wp2
    refine lG fit ?_;refine yI fit ?_;exact⟨rfl,.bool true,λτ d=>by rw[results_tmp rfl];rfl,rfl,E.g⟩
   ·clear g0 g1 g2 g3 Np;clear hcall;refine ug fit (t:=true) rfl ?_;simp only[if_true];refine jd fit (kT fit ?_);simp only[aC,aB,aF,Nat.reduceAdd,List.range,List.range.loop];refine kP rfl rfl rfl Tryz.func17 (by kernel_rfl) GN (vals:=#[]) (by simp) (Iz E.kd (Nat.le_trans hlim E.g.size)) ?_;rintro u w5 S5 ⟨rfl,hg5⟩;replace E:=E.grow hg5;clear hg5;refine bH rfl rfl λwr hs=>?_;replace E:=E.same hs;clear hs;gi_wp2;refine lG fit ?_;refine yI fit ?_;exact⟨rfl,.bool true,λτ d=>by rw[results_tmp rfl];rfl,rfl,E.g⟩
end
section
open Go Go.Conc Go.RowKit Go.ChangeShapes Go.WideShapes Go.Deep Lift
theorem ce3:Tryz.prog.cellsOf 3=1:=by kernel_rfl
theorem bQ.cells{wa w:World}{v:Value}{xs:List Int}(h:bQ wa v xs)(hc:∀a,w.cell? a=wa.cell? a)(hs:w.heap.size=wa.heap.size):bQ w v xs:=by
 obtain⟨b,o,c,rfl,h2⟩:=h;refine⟨b,o,c,rfl,λi hi=>?_⟩;obtain⟨B,h3,h4,h5⟩:=h2 i hi;exact⟨B,h3,by omega,(hc _).trans h5⟩
theorem bZ.seq{w:World}{a:Option Addr}{cap:Nat}{xs:List Int}(h:bZ w.heap.size a 1 (xs.map λn=>[.int .i64 n]) w):bQ w (.slice a xs.length cap) xs:=by
 have hg:∀i,i<xs.length→∃b o,a=some ⟨b,o,none⟩∧b<w.heap.size∧w.cell? ⟨b,o+i,none⟩=some (.int .i64 (xs.getD i 0)):=λi hi=>by
  obtain⟨b,o,h1,h2,h3⟩:=h i [.int .i64 (xs.getD i 0)] (by simp[hi]);have:=h3 0 _ rfl;rw[Nat.mul_one,Nat.add_zero]at this;exact⟨b,o,h1,h2,this⟩
 cases a with
 |none=>exact⟨none,0,cap,rfl,λi hi=>by obtain⟨b,o,e,_⟩:=hg i hi;cases e⟩
 |some ad=>
  refine⟨_,ad.off,cap,rfl,λi hi=>?_⟩;obtain⟨b,o,e,h2,h3⟩:=hg i hi;cases e;exact⟨b,rfl,h2,h3⟩
section
variable {H:Type} {enc:TypeId×Value→H} {W:World} {spare:Nat→Bool}
set_option maxRecDepth 100000 in
theorem KD{b0:Nat}{r:Reach}{v:Value}{d:DataW H}{p:List MemPlace}(hv:Value.okWide Tryz.prog W r b0 44 v)(h:DataW.Trod enc Tryz.prog W 0 spare true 44 v d p):∃(a:Option Addr) (cap:Nat) (xs:List Int),v=.slice a xs.length cap∧bQ W (.slice a xs.length cap) xs:=by
 obtain⟨a0,n0,c0,rfl⟩:=okWide_slice Tryz.underlying44 hv;obtain⟨fuel,hf⟩:=h;have hf':DataW.trod enc Tryz.prog W 0 spare true fuel 44 [.slice a0 n0 c0]=some (d,p):=hf;rcases open_slice Tryz.underlying44 hf' with⟨hcs,_⟩|⟨a,len,cap,m,n,D,Pl,hcs,_,hl,hm,hmm,_,hi⟩
 ·cases hcs;exact⟨none,0,[],rfl,⟨none,0,0,rfl,λi hi=>absurd hi (by simp)⟩⟩
 ·cases hcs;have hlm:n0≤m:=by rw[hmm];split<;>omega
  obtain⟨xs,e1,e3⟩:=IL (W:=W) (a:=a) (size:=1) (row:=λn:Int=>[.int .i64 n]) n0 (λx=>⟨_,rfl⟩) λi him=>by
   obtain⟨cs',hc,ht'⟩:=hi i (by omega);rw[ce3]at hc;obtain⟨_,hcl,hat⟩:=World.cells?_some hc;obtain⟨s,hs,_,hsz⟩:=DataW.trod_int Tryz.underlying3 ht';refine⟨s,λj v hv=>?_⟩;have hj:j=0:=by have:=(List.getElem?_eq_some_iff.1 hv).1;simpa using this
   subst hj;have:=hat 0 (by decide);rw[Go.Deep.add_add,hs]at this;rw[this];simpa using hv
  subst e1;exact⟨some a,c0,xs,rfl,e3.seq⟩
end
end
section
open Go
theorem dZ{a b:Bool}(h:a=true)(k:b=true):(a&&b)=true:=by rw[h,k];rfl
set_option maxRecDepth 100000
theorem k5_k0:(Rows.feePlansRow.wf (OpenSpec.ofChange Rows.feePlansSpec))=true:=by kernel_rfl
theorem k5_k1:(laidOutB Tryz.pinned.checked.prog)=true:=by kernel_rfl
theorem k5_k2:(mapsRowed Tryz.pinned.checked.prog)=true:=by kernel_rfl
theorem k5_k3:(Tryz.f5.params.all (Tryz.pinned.checked.prog.readableRec ·))=true:=by kernel_rfl
theorem k5_k4:(namedTie Tryz.pinned.checked.prog Rows.feePlansRow.named Rows.feePlansSpec.vars)=true:=by kernel_rfl
theorem k5_k5:((Rows.feePlansRow.stops==[]))=true:=by kernel_rfl
theorem k5_k6:((Tryz.pinned.checked.prog.stops==[]))=true:=by kernel_rfl
theorem k5_k7:((Rows.feePlansRow.knobs==[]))=true:=by kernel_rfl
theorem k5_k8:((Tryz.pinned.checked.prog.stopKnobs==[]))=true:=by kernel_rfl
theorem k5_k9:((Rows.feePlansRow.inPlace==Tryz.pinned.checked.prog.inPlace 5))=true:=by kernel_rfl
theorem k5_k10:((Rows.feePlansRow.unfollowed==Tryz.pinned.checked.prog.unfollowed 5))=true:=by kernel_rfl
theorem k5_k11:((Rows.feePlansRow.recurses==Tryz.pinned.checked.prog.recurses 5))=true:=by kernel_rfl
theorem k5_k12:((Rows.feePlansRow.named==Tryz.pinned.checked.prog.varsNamed 5))=true:=by kernel_rfl
theorem k5_k13:((Rows.feePlansRow.maps==(Tryz.f5.params.toList++Rows.feePlansSpec.plain.varTypes Tryz.pinned.checked.prog).any (Tryz.pinned.checked.prog.mapsRec ·)))=true:=by kernel_rfl
theorem k5_k14:((Rows.feePlansRow.ifaces==(Tryz.f5.params.toList++Rows.feePlansSpec.plain.varTypes Tryz.pinned.checked.prog).any (Tryz.pinned.checked.prog.ifacesRec ·)))=true:=by kernel_rfl
theorem k5_k15:((Rows.feePlansRow.mapsOut==Tryz.pinned.checked.prog.mapsAmong Tryz.f5.resultTypes.toList))=true:=by kernel_rfl
theorem k5_k16:((Rows.feePlansRow.loops==(Tryz.f5.params.toList++Rows.feePlansSpec.plain.varTypes Tryz.pinned.checked.prog).any (Tryz.pinned.checked.prog.loopsFrom ·)))=true:=by kernel_rfl
theorem k5_k17:((Rows.feePlansRow.wideKeys==(Tryz.f5.params.toList++Rows.feePlansSpec.plain.varTypes Tryz.pinned.checked.prog++Tryz.f5.resultTypes.toList).any (Tryz.pinned.checked.prog.wideKeysFrom ·)))=true:=by kernel_rfl
theorem k5_k18:(Rows.feePlansSpec.vars.all (Tryz.pinned.checked.prog.varReadable ·))=true:=by kernel_rfl
theorem k5_k19:(Tryz.f5.resultTypes.all (λt=>Tryz.pinned.checked.prog.readableRec t&&decide (t<Tryz.pinned.checked.prog.types.size)))=true:=by kernel_rfl
theorem k5_k20:((Rows.feePlansRow.ifacesOut==Tryz.f5.resultTypes.toList.any (Tryz.pinned.checked.prog.ifacesRec ·)))=true:=by kernel_rfl
theorem k5_k21:((Rows.feePlansRow.loopsOut==Tryz.f5.resultTypes.toList.any (Tryz.pinned.checked.prog.loopsFrom ·)))=true:=by kernel_rfl
theorem k5_k22:((Rows.feePlansRow.plainKeys==Tryz.pinned.checked.prog.plainKeys))=true:=by kernel_rfl
theorem k5_k23:(Rows.feePlansRow.shortTexts.isNone)=true:=by kernel_rfl
theorem k5_k24:(Tryz.pinned.checked.prog.stopsHeard)=true:=by kernel_rfl
theorem k5_k25:(Tryz.pinned.checked.prog.mayEnter)=true:=by kernel_rfl
theorem k5_k26:((Rows.feePlansRow.lifted==Tryz.pinned.checked.prog.liftsFinal))=true:=by kernel_rfl
theorem k5_k27:((Tryz.pinned.checked.prog.make==some Rows.feePlansRow.make))=true:=by kernel_rfl
theorem k5_k28:((Rows.feePlansRow.kinds==(if Rows.feePlansRow.domain.isEmpty then[]else Tryz.f5.params.toList.map λt=>match Tryz.pinned.checked.prog.underlying t with|some (.int k)=>some k|_=>none)))=true:=by kernel_rfl
theorem k5_k29:((Rows.feePlansRow.pinned==Rows.feePlansRow.pinnedBy))=true:=by kernel_rfl
theorem k5_k30:((Rows.feePlansRow.veiled==(Tryz.f5.params.toList++Rows.feePlansSpec.plain.varTypes Tryz.pinned.checked.prog++Tryz.f5.resultTypes.toList).any (Tryz.pinned.checked.prog.veiledRec ·)))=true:=by kernel_rfl
theorem k5_k31:(Rows.feePlansRow.veiledFits Tryz.pinned.checked.prog Tryz.f5.params.toList (Tryz.f5.params.toList++Rows.feePlansSpec.plain.varTypes Tryz.pinned.checked.prog++Tryz.f5.resultTypes.toList))=true:=by kernel_rfl
theorem Ql:joinedFacts Tryz.pinned.checked.prog 5 Tryz.f5 Rows.feePlansSpec Rows.feePlansRow=true:=dZ (dZ (dZ (dZ (dZ (dZ (dZ (dZ (dZ (dZ (dZ (dZ (dZ (dZ (dZ (dZ (dZ (dZ (dZ (dZ (dZ (dZ (dZ (dZ (dZ (dZ (dZ (dZ (dZ (dZ (dZ (k5_k0) k5_k1) k5_k2) k5_k3) k5_k4) k5_k5) k5_k6) k5_k7) k5_k8) k5_k9) k5_k10) k5_k11) k5_k12) k5_k13) k5_k14) k5_k15) k5_k16) k5_k17) k5_k18) k5_k19) k5_k20) k5_k21) k5_k22) k5_k23) k5_k24) k5_k25) k5_k26) k5_k27) k5_k28) k5_k29) k5_k30) k5_k31
theorem JL:Tryz.pinned.checked.prog.funcNamed Rows.feePlansRow.func=some 5:=by kernel_rfl
theorem k5_inst:Tryz.f5.isInstance Tryz.pinned.checked.prog Rows.feePlansRow.origin Rows.feePlansRow.targs:=of_decide_eq_true (by kernel_rfl)
theorem k5_wrap:Tryz.f5.isWrapper Tryz.pinned.checked.prog Rows.feePlansRow.wrapper Rows.feePlansRow.mainSum:=by unfold Func.isWrapper;first|(rw[if_pos (by decide +kernel)];kernel_rfl)|(rw[if_neg (by decide +kernel)];exact⟨rfl,rfl⟩)
end
section
open Go Go.Conc Go.RowKit Go.ChangeShapes Go.WideShapes Lift
set_option maxRecDepth 100000 in
theorem Ae(os:Os)(started:os.Started)(H:Type)(enc:TypeId×Value→H) :
  ReturnsInLeavingWide {} Tryz.checked os 5 .any (λw args=>(Rows.feePlansSpec.pre enc Tryz.prog Tryz.f5 [] false w args∧laidMetH Tryz.prog laidAll w)∧sizedMet enc Tryz.prog Tryz.f5 (OpenSpec.ofChange Rows.feePlansSpec) false w args)
   (Rows.feePlansSpec.post enc Tryz.prog Tryz.f5 false true false false):=by
 refine Ah (C:=Tryz.checked) (X:=λw _=>laidMetH Tryz.prog laidAll w) (λ_ _ _ hh h=>h.of_heap hh) own started Tryz.func5
  (ChangeSpec.witness_shaped (enc:=enc) (C:=Tryz.checked) (os:=os) (X:=λw _=>laidMetH Tryz.prog laidAll w) false (Rh os) #[.agg #[.slice none 0 0,.slice none 0 0,.slice none 0 0,.slice none 0 0],.int .i64 0,.slice none 0 0,.slice none 0 0] 5 (wit_os os) (Ot os _) (by kernel_rfl) (by kernel_rfl) (by kernel_rfl) (door_met os _)) ?_
 intro W base args ds gs before hval0 hW hL;have hval:∀(j:Nat) t v,Tryz.f5.params[j]?=some t→args[j]?=some v→Value.okWide Tryz.prog W .any base t v:=hval0;have hW':=hW;obtain⟨p,q,hA0,hV,rfl,_,_⟩:=hW;have hA:DataW.TrodAll enc Tryz.prog W 0 (λ_=>true) true Tryz.f5.params.toList args.toList ds p:=hA0;rw[Tryz.params5]at hA hval;obtain⟨v0,v1,v2,v3,d0,d1,d2,d3,p0,p1,p2,p3,rfl,rfl,rfl,h0,h1,h2,h3⟩:=trodAll_four hA;obtain⟨l,b,rfl,hcap,hbk⟩:=QC (hval 0 27 v0 rfl rfl) h0;obtain⟨x1,rfl,-,-,w1⟩:=open_int Tryz.underlying3 (hval 1 3 v1 rfl rfl) h1;obtain⟨ax2,kx2,x2,rfl,sx2⟩:=KD (hval 2 44 v2 rfl rfl) h2;obtain⟨ax3,kx3,x3,rfl,sx3⟩:=KD (hval 3 44 v3 rfl rfl) h3;have hk:=Em hL;obtain⟨N,last,o,w',t',e1,e2,e3,e4⟩:=Ur (P:=Tryz.prog) (wa:=W) (args:=#[.agg (l.cu b),.int .i64 x1,.slice ax2 x2.length kx2,.slice ax3 x3.length kx3]) Tryz.func5 rfl (by kernel_rfl) λw hcell hs hlim=>
  law5 (hbk.cells hcell hs) hcap (λj v hj=>(hcell _).trans (hk j v hj)) (by rw[hlim,hs];exact ay _) (sx2.cells hcell hs) (sx3.cells hcell hs)
 exact⟨N,last,o,w',t',e1,e2,e3,e4.mono λv hv=>by
  obtain⟨rfl,hb⟩:=hv;exact QJ rfl rfl (by kernel_rfl) (λl hl=>by match l,hl with | [_,_,_,_],_=>exact⟨rfl,rfl,rfl⟩) hW' rfl hb⟩
theorem BL:Rows.FeePlansSaid:=
 OpenClaim.holds_of_wide_leaving 5 Tryz.f5 rfl rfl rfl rfl rfl rfl rfl ⟨rfl,rfl,rfl,rfl,rfl⟩ rfl rfl rfl rfl rfl JL Tryz.func5 Ql k5_inst k5_wrap
  (λos started H enc _=>Ae os started H enc)
theorem feePlans_card:Rows.FeePlansCardSaid:=
 Py [.data,.funcsDeep,.pinned] true (true, "78367989f1779c6ad5062e28a7d61523e937c9c2f303a8adb35e256f7f7bb139") false BL (by kernel_rfl) feePlans_row_tie rfl ⟨rfl,rfl⟩ (by kernel_rfl) rfl
  (λf fn hf hfn=>by
   obtain rfl:f=5:=Option.some.inj (JL.symm.trans hf) |>.symm;obtain rfl:fn=Tryz.f5:=(Option.some.inj (Tryz.func5.symm.trans hfn)).symm;exact⟨by kernel_rfl,λj t ht=>by
    rw[Tryz.params5]at ht;have hm:t∈[27,3,44,44]:=by simpa using Array.mem_of_getElem? ht
    have hall:([27,3,44,44].all λu=>!Tryz.prog.wantsStandIn u)=true:=by kernel_rfl
    exact(show Tryz.prog.wantsStandIn t=false by simpa using List.all_eq_true.1 hall t hm)⟩)
  (by kernel_rfl)
end
