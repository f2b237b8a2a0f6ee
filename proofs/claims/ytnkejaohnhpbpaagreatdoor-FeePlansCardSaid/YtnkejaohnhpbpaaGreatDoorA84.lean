/- The specification's lists: inside the fence. PRINTED BY A PROGRAM (qp.py). -/
import Derived.Test.YtnkejaohnhpbpaaGreatDoorA78
import Derived.Test.YtnkejaohnhpbpaaGreatDoorA83
set_option linter.all false
namespace Go.Proofs.YtnkejaohnhpbpaaGreatDoor
section
open Go Go.RowKit Lift
section
variable {F:Fence} {n:Nat} {P:Program} {ops:Array Oper} {W:Wm} {i:Nat} {rest:List Nat} {a:Act} {R:Act→Prop} {o:Oper}
theorem qP(ho:ops[i]?=some o)(hw:Region.wanted o (yielded ops a.tmps)=false)(hab:∀w f,o.about P w a.eval=some f→F.fn f)
  (hk:∀D x w,dX ops D i→W D x w→W (aQ D i) x w) {d:Tmp} (hd:o.dst=some d) (hr:lJ F n P ops W [] rest (a.put (some d) undef) R):lJ F n P ops W [] (i::rest) a R:=
 yM ho (λ_=>hw) (λg hg=>by cases hg) (λ_=>hab) hk (hd▸hr)
end
def WB0(w0:World):Wm:=λ_ _ w=>Below w0.heap.size w0 w
theorem WB0.start(w0:World){x:Tmp→Value}:WB0 w0 (λ_=>false) x { w0 with drawn:=w0.drawn+1 }:=⟨rfl,rfl,rfl,ay _,λ_ _=>rfl⟩
set_option maxHeartbeats 16000000 in
set_option maxRecDepth 100000 in
theorem FC{N:Nat}{l:Lay}{b:aP}{w:World}(hbk:bU N l b w)(hnk:b.cs.length<1000000){M:Nat}{R:RW}{s:St}(hG:bP M R b.to s w){v:Value}{xs:List Int}(h:bQ w v xs)(hn:xs.length<1000000) :
  CallsIn Fz 0 Tryz.prog 73 #[.agg (l.cu b),.agg (R.arr b.to),v] w λe w'=>e=.returned (.bool (b.to.bV s xs xs.length))∧Below w.heap.size w w':=by
 obtain⟨base,off,cap,rfl,h2⟩:=h;have hkc:b.to.cs.length=b.cs.length:=Lc b;have hb1:Below w.heap.size w (w.alloc (.cells (l.cu b) 27)):=(Below.refl _ w).alloc (ay _) _;have hb2:=hb1.alloc (by simp) (.cells (R.arr b.to) 102);have hA:=(Blk.new w (l.cu b) 27).below ((Below.refl _ _).alloc (ay _) (.cells (R.arr b.to) 102));have hR:=Blk.new (w.alloc (.cells (l.cu b) 27)) (R.arr b.to) 102;simp only[World.size_alloc]at hR;gi_enter Tryz.func73,Tryz.ntmps73
 gi_wp2;clear hb1;generalize (w.alloc _).alloc _=W at *;gi_loopw [7] (λi wr=>∃k:Nat,k≤xs.length∧i=.int .i64 k∧b.to.bV s xs k=true∧Below W.heap.size W wr) (λi _=>xs.length-(intOf i).toNat)
 case atStart=>exact⟨0,Nat.zero_le _,rfl,rfl,Below.refl _ _⟩
 case round=>
  obtain⟨i,hi,rfl,hok,HB⟩:=hrel;have rU:Below w.heap.size w wr:=hb2.trans (HB.mono hb2.size);have hA2:=hA.below HB;have hR2:=hR.below HB;have hG2:=hG.same rU;by_cases hl:i<xs.length
  ·obtain⟨B,rfl,hB,hc⟩:=h2 i hl;have hBr:B<wr.heap.size:=aA hB rU.size;have hcr:=(rU.cell (p:=⟨B,off+i,none⟩) hB).trans hc;have pV:∀j,i=j+1→wr.cell? ⟨B,off+j,none⟩=some (.int .i64 (xs.getD (i-1) 0)):=λj e=>by
    obtain⟨B',e',h4,h5⟩:=h2 j (by omega);cases e';rw[show i-1=j by omega];exact(rU.cell (p:=⟨B,off+j,none⟩) h4).trans h5
   have hs1:=sU b.to s xs i;rw[hok,Bool.true_and]at hs1;generalize xs.getD i 0=y at *;generalize xs.getD (i-1) 0=z at *;have HS1:=Lib.hid hs1;have HE:=Lib.hid (λ(e:b.to.bV s xs (i+1)=false)=>yc e xs.length (by omega));have HKC:=Lib.hid hkc;clear hs1 hok hc hkc hB;gi_wp2;refine aV rfl mixed (by kernel_rfl) (WB0 wr) [] (x₀:=λ_=>undef) (λg hg=>by cases hg) (WB0.start _) ?_;simp only[aC,aB,aF,Nat.reduceAdd,List.range,List.range.loop];refine dn rfl rfl ?_;apply ah;refine⟨λD x w' (hm:dX _ D _) (hW:Below _ _ _) K Q hK=>?_,?_⟩
   ·have q:=hA2.below hW;have q0:=q.cell 0;have q1:=q.cell 1;have q2:=q.cell 2;have q3:=q.cell 3;simp at q0 q1 q2 q3;have mV:=q.lt;gi_wp2;exact hW
   refine⟨_,rfl,?_⟩
   iterate 3
    (refine dn rfl rfl ?_
     apply ah;refine⟨λD x w' (hm:dX _ D _) (hW:Below _ _ _) K Q hK=>?_,?_⟩
     ·gi_wp2;exact hW
     refine⟨_,rfl,?_⟩)
   refine dn rfl rfl ?_;apply ah;refine⟨λD x w' (hm:dX _ D _) (hW:Below _ _ _) K Q hK=>?_,?_⟩
   ·have cr:=(hW.cell (p:=⟨B,off+i,none⟩) hBr).trans hcr;have Np:=aA hBr hW.size;gi_wp2;exact hW
   refine⟨_,rfl,?_⟩;by_cases hr:0≤y∧y<b.cs.length
   ·obtain⟨m,rfl⟩:∃m:Nat,y=m:=⟨y.toNat,by omega⟩
    have hm:m<b.cs.length:=by omega
    have h0m:m<cnt b.to 0:=by show m<b.to.cs.length;rw[HKC.out];exact hm
    have HAT:=Lib.hid (hG2.at_ 0 (by omega) (Nat.lt_of_le_of_lt (Nat.zero_le _) h0m));obtain⟨st,hst⟩:∃st,(s.cases m).state=st:=⟨_,rfl⟩
    have HS:=Lib.hid hst;have hm':(m:Int)<b.cs.length:=by omega
    refine dn rfl rfl ?_;apply ah;refine⟨λD x w' (hm:dX _ D _) (hW:Below _ _ _) K Q hK=>?_,?_⟩
    ·gi_wp2_with (gi_at_call 77;with_reducible refine(Fj (l:=l) (b:=b) hr hnk).mono ?_;rintro e w3 ⟨rfl,hb⟩)
     exact hW.trans (hb.mono hW.size)
    refine⟨_,rfl,?_⟩
    iterate 3
     (refine dn rfl rfl ?_
      apply ah;refine⟨λD x w' (hm:dX _ D _) (hW:Below _ _ _) K Q hK=>?_,?_⟩
      ·gi_wp2;exact hW
      refine⟨_,rfl,?_⟩)
    refine dn rfl rfl ?_;apply ah;refine⟨λD x w' (hm:dX _ D _) (hW:Below _ _ _) K Q hK=>?_,?_⟩
    ·have r:=hR2.below hW;have r0:=r.cell 0;simp at r0;rw[HAT.out]at r0;have ltr:=r.lt;gi_wp2;exact hW
    refine⟨_,rfl,?_⟩
    iterate 3
     (refine dn rfl rfl ?_
      apply ah;refine⟨λD x w' (hm:dX _ D _) (hW:Below _ _ _) K Q hK=>?_,?_⟩
      ·gi_wp2;exact hW
      refine⟨_,rfl,?_⟩)
    refine dn rfl rfl ?_;apply ah;refine⟨λD x w' (hm:dX _ D _) (hW:Below _ _ _) K Q hK=>?_,?_⟩
    ·have cr:=(hW.cell (p:=⟨B,off+i,none⟩) hBr).trans hcr;have Np:=aA hBr hW.size;gi_wp2;exact hW
    refine⟨_,rfl,?_⟩;refine dn rfl rfl ?_;apply ah;refine⟨λD x w' (hm:dX _ D _) (hW:Below _ _ _) K Q hK=>?_,?_⟩
    ·gi_wp2;exact hW
    refine⟨_,rfl,?_⟩;refine dn rfl rfl ?_;apply ah;refine⟨λD x w' (hm:dX _ D _) (hW:Below _ _ _) K Q hK=>?_,?_⟩
    ·have s0:=(hG2.same hW).cell (j:=0) (i:=m) (by omega) h0m;have AV:=(hG2.same hW).blt (j:=0) (i:=m) (by omega) h0m;simp only[cval]at s0;rw[HS.out]at s0;gi_wp2;exact hW
    refine⟨_,rfl,?_⟩;by_cases hs:st=0
    ·subst hs
     iterate 3
      (refine dn rfl rfl ?_
       apply ah;refine⟨λD x w' (hm:dX _ D _) (hW:Below _ _ _) K Q hK=>?_,?_⟩
       ·gi_wp2;exact hW
       refine⟨_,rfl,?_⟩)
     by_cases hi0:i=0
     ·have HF:Hid (b.to.bV s xs (i+1)=true):=by
       show _=_
       rw[HS1.out,HKC.out];simp[hst,hi0];omega
      clear hst pV;have hz:decide ((0:Int)<i)=false:=decide_eq_false (by omega);have hy:decide (0<i)=false:=decide_eq_false (by omega);clear hi0
      iterate 3
       (refine dn rfl rfl ?_
        apply ah;refine⟨λD x w' (hm:dX _ D _) (hW:Below _ _ _) K Q hK=>?_,?_⟩
        ·gi_wp2;exact hW
        refine⟨_,rfl,?_⟩)
      iterate 10
       (refine qP rfl rfl (λw f hf=>by simp[Oper.about]at hf) (λD x w hm hW=>hW) rfl ?_
        simp only[Act.put,aj,ak,au])
      iterate 2
       (refine dn rfl rfl ?_
        apply ah;refine⟨λD x w' (hm:dX _ D _) (hW:Below _ _ _) K Q hK=>?_,?_⟩
        ·gi_wp2;exact hW
        refine⟨_,rfl,?_⟩)
      rintro x w4 yT;have yT:Below wr.heap.size wr w4:=yT;simp only[Lift.Act.bC,List.foldl_cons,List.foldl_nil,aj,au,ak];gi_wp2;go_roundw
      case rel=>exact⟨i+1,by omega,by go_num,HF.out,HB.trans (yT.mono HB.size)⟩
      case measure=>simp[intOf];omega
     ·obtain⟨j,rfl⟩:∃j,i=j+1:=⟨i - 1,by omega⟩
      have hcp:=pV j rfl;clear pV;have hdz:decide ((0:Int)<(j:Int)+1)=true:=decide_eq_true (by omega)
      iterate 6
       (refine dn rfl rfl ?_
        apply ah;refine⟨λD x w' (hm:dX _ D _) (hW:Below _ _ _) K Q hK=>?_,?_⟩
        ·gi_wp2;exact hW
        refine⟨_,rfl,?_⟩)
      refine dn rfl rfl ?_;apply ah;refine⟨λD x w' (hm:dX _ D _) (hW:Below _ _ _) K Q hK=>?_,?_⟩
      ·have cr:=(hW.cell (p:=⟨B,off+(j+1),none⟩) hBr).trans hcr;have Np:=aA hBr hW.size;gi_wp2;exact hW
      refine⟨_,rfl,?_⟩
      iterate 4
       (refine dn rfl rfl ?_
        apply ah;refine⟨λD x w' (hm:dX _ D _) (hW:Below _ _ _) K Q hK=>?_,?_⟩
        ·gi_wp2;exact hW
        refine⟨_,rfl,?_⟩)
      refine dn rfl rfl ?_;apply ah;refine⟨λD x w' (hm:dX _ D _) (hW:Below _ _ _) K Q hK=>?_,?_⟩
      ·have cp:=(hW.cell (p:=⟨B,off+j,none⟩) hBr).trans hcp;gi_wp2;exact hW
      refine⟨_,rfl,?_⟩;by_cases hle:(m:Int)≤z
      ·have HF:Hid (b.to.bV s xs (j+1+1)=false):=by
        show _=_
        rw[HS1.out,HKC.out];simp[hst];intros;omega
       clear hst;have hdl:decide ((m:Int)≤z)=true:=decide_eq_true hle
       iterate 3
        (refine dn rfl rfl ?_
         apply ah;refine⟨λD x w' (hm:dX _ D _) (hW:Below _ _ _) K Q hK=>?_,?_⟩
         ·gi_wp2;exact hW
         refine⟨_,rfl,?_⟩)
       rintro x w4 yT;have yT:Below wr.heap.size wr w4:=yT;simp only[Lift.Act.bC,List.foldl_cons,List.foldl_nil,aj,au,ak];gi_wp2;go_ret;exact⟨by rw[HE.out HF.out];rfl,rU.trans (yT.mono rU.size)⟩
      ·have HF:Hid (b.to.bV s xs (j+1+1)=true):=by
        show _=_
        rw[HS1.out,HKC.out];simp[hst];omega
       clear hst;have hdl:decide ((m:Int)≤z)=false:=decide_eq_false hle
       iterate 3
        (refine dn rfl rfl ?_
         apply ah;refine⟨λD x w' (hm:dX _ D _) (hW:Below _ _ _) K Q hK=>?_,?_⟩
         ·gi_wp2;exact hW
         refine⟨_,rfl,?_⟩)
       rintro x w4 yT;have yT:Below wr.heap.size wr w4:=yT;simp only[Lift.Act.bC,List.foldl_cons,List.foldl_nil,aj,au,ak];gi_wp2;go_roundw
       case rel=>exact⟨j+1+1,by omega,by go_num,HF.out,HB.trans (yT.mono HB.size)⟩
       case measure=>simp[intOf];omega
    ·have HF:Hid (b.to.bV s xs (i+1)=false):=by
      show _=_
      rw[HS1.out,HKC.out];simp[hst,hs]
     have hds:(st != 0)=true:=by simpa using hs
     clear hst pV
     iterate 3
      (refine dn rfl rfl ?_
       apply ah;refine⟨λD x w' (hm:dX _ D _) (hW:Below _ _ _) K Q hK=>?_,?_⟩
       ·gi_wp2;exact hW
       refine⟨_,rfl,?_⟩)
     iterate 14
      (refine qP rfl rfl (λw f hf=>by simp[Oper.about]at hf) (λD x w hm hW=>hW) rfl ?_
       simp only[Act.put,aj,ak,au])
     refine dn rfl rfl ?_;apply ah;refine⟨λD x w' (hm:dX _ D _) (hW:Below _ _ _) K Q hK=>?_,?_⟩
     ·gi_wp2;exact hW
     refine⟨_,rfl,?_⟩;rintro x w4 yT;have yT:Below wr.heap.size wr w4:=yT;simp only[Lift.Act.bC,List.foldl_cons,List.foldl_nil,aj,au,ak];gi_wp2;go_ret;exact⟨by rw[HE.out HF.out];rfl,rU.trans (yT.mono rU.size)⟩
   ·have HF:Hid (b.to.bV s xs (i+1)=false):=by
     show _=_
     rw[HS1.out,HKC.out];simp;intros;omega
    clear pV;refine dn rfl rfl ?_;apply ah;refine⟨λD x w' (hm:dX _ D _) (hW:Below _ _ _) K Q hK=>?_,?_⟩
    ·gi_wp2_with (gi_at_call 77;with_reducible refine(Fh (l:=l) (b:=b) hr hnk).mono ?_;rintro e w3 ⟨rfl,hb⟩)
     exact hW.trans (hb.mono hW.size)
    refine⟨_,rfl,?_⟩
    iterate 2
     (refine dn rfl rfl ?_
      apply ah;refine⟨λD x w' (hm:dX _ D _) (hW:Below _ _ _) K Q hK=>?_,?_⟩
      ·gi_wp2;exact hW
      refine⟨_,rfl,?_⟩)
    iterate 9
     (refine qP rfl rfl (λw f hf=>by simp[Oper.about]at hf) (λD x w hm hW=>hW) rfl ?_
      simp only[Act.put,aj,ak,au])
    iterate 2
     (refine dn rfl rfl ?_
      apply ah;refine⟨λD x w' (hm:dX _ D _) (hW:Below _ _ _) K Q hK=>?_,?_⟩
      ·gi_wp2;exact hW
      refine⟨_,rfl,?_⟩)
    iterate 14
     (refine qP rfl rfl (λw f hf=>by simp[Oper.about]at hf) (λD x w hm hW=>hW) rfl ?_
      simp only[Act.put,aj,ak,au])
    refine dn rfl rfl ?_;apply ah;refine⟨λD x w' (hm:dX _ D _) (hW:Below _ _ _) K Q hK=>?_,?_⟩
    ·gi_wp2;exact hW
    refine⟨_,rfl,?_⟩;rintro x w4 yT;have yT:Below wr.heap.size wr w4:=yT;simp only[Lift.Act.bC,List.foldl_cons,List.foldl_nil,aj,au,ak];gi_wp2;go_ret;exact⟨by rw[HE.out HF.out];rfl,rU.trans (yT.mono rU.size)⟩
  ·obtain rfl:i=xs.length:=by omega
   have HO:=Lib.hid hok;clear hok;gi_wp2;go_ret;exact⟨by rw[HO.out];rfl,rU⟩
end
section
open Go Go.RowKit Lift
section
variable {n k s:Nat} {pd sm mo le a:Int}
theorem rvc1(h:a<pd):Ending.returned (.bool false)=.returned (.bool (lN n k pd s sm mo le a)):=by rw[lN,if_pos h]
theorem rvc2(h:pd≤a)(e:((k:Int)==n)=true):Ending.returned (.bool ((s:Int)==0))=.returned (.bool (lN n k pd s sm mo le a)):=by
 rw[lN,if_neg (Int.not_lt.2 h),if_pos (Int.natCast_inj.1 (beq_iff_eq.1 e))]
 congr 2
 by_cases q:s=0<;>simp[q]
theorem rvc3(h:pd≤a)(e:((k:Int)==n)=false)(q:(s:Int)=k+1)(r:mo≤le):Ending.returned (.bool (decide (a<sm)))=.returned (.bool (lN n k pd s sm mo le a)):=by
 rw[lN,if_neg (Int.not_lt.2 h),if_neg λz=>by rw[z]at e;simp at e,decide_eq_true (show s=k+1 by omega),decide_eq_true r];rfl
theorem rvc4(h:pd≤a)(e:((k:Int)==n)=false)(r:le<mo):Ending.returned (.bool false)=.returned (.bool (lN n k pd s sm mo le a)):=by
 rw[lN,if_neg (Int.not_lt.2 h),if_neg λz=>by rw[z]at e;simp at e,decide_eq_false (Int.not_le.2 r),Bool.and_false];rfl
theorem rvc5(h:pd≤a)(e:((k:Int)==n)=false)(q:¬(s:Int)=k+1):Ending.returned (.bool false)=.returned (.bool (lN n k pd s sm mo le a)):=by
 rw[lN,if_neg (Int.not_lt.2 h),if_neg λz=>by rw[z]at e;simp at e,decide_eq_false (show¬s=k+1 by omega)];rfl
end
theorem wrap_succ{k:Nat}(h:k<1000):wrap64 ((k:Int)+1)=k+1:=by unfold wrap64;omega
theorem KC{b:Book}(hv:Valid b)(n:Nat):∀c,c<b.cs.length→((b.after n).cases c).state=0→(b.fee c n).2=true:=λc hc hs=>(oL hv hc hs).2.2.1
set_option maxHeartbeats 16000000 in
set_option maxRecDepth 100000 in
theorem NZ{N:Nat}{l:Lay}{b:Book}{w:World}(hbk:dQ N l b w)(hf:Full b){M:Nat}{R:RW}{n:Nat}(hn:n≤9999)(hG:bP M R b (b.after n) w){aN:Nat}(hco:aN<b.aJ.length){vc vp:Value}{cases proof:List Int}(Hz:bQ w vc cases)(hvp:bQ w vp proof)(hnc:cases.length<1000000)(hnp:proof.length<1000000) :
  CallsIn Fz 0 Tryz.prog 74 #[l.val b,.agg (R.arr b),.int .i64 aN,.int .i64 n,vc,vp] w λe w'=>e=.returned (.bool (jG cases proof (b.short (b.after n) n aN) ((b.after n).acc aN)))∧Below w.heap.size w w':=by
 have hv:=hf.v;have hncc:=hv.nc;have hS:=KR hv n aN;have hAS:=wC hv hf.al n hn;have ha0:=hAS.acc aN (by omega);have ha1:(b.after n).acc aN≤100000000000:=by have:=(hAS.bounds (k:=aN) (by omega)).1;omega
 have hb1:Below w.heap.size w (w.alloc (.cells (l.arr b) 27)):=(Below.refl _ w).alloc (ay _) _;have hb2:=hb1.alloc (by simp) (.cells (R.arr b) 102);have hA:=(Blk.new w (l.arr b) 27).below ((Below.refl _ _).alloc (ay _) (.cells (R.arr b) 102));have hR:=Blk.new (w.alloc (.cells (l.arr b) 27)) (R.arr b) 102;simp only[World.size_alloc]at hR;have hop:=KA (hbk.below (hb2.mono hbk.hN)) hv (hG.same hb2) (aN:=aN) (day:=n) (KC hv n);have h4:aN<cnt b 4:=hco;have HAT:=Lib.hid (hG.at_ 4 (by omega) (Nat.lt_of_le_of_lt (Nat.zero_le _) h4));have hlsz:(b.short (b.after n) n aN).length<1000:=by have:=hS.few;omega
 obtain⟨L,hLe⟩:∃L,b.short (b.after n) n aN=L:=⟨_,rfl⟩
 rw[hLe]at hop hS hlsz ⊢;clear hLe;have h0:=hS.le;have lU:=hS.few;have hup:=hS.up;clear hS hAS;have hvc':=Hz;have hvp':=hvp;obtain⟨bc,oc,kc,rfl,-⟩:=hvc';obtain⟨bp,op,kp,rfl,-⟩:=hvp';unfold Lay.val at hop ⊢;have q0:=hA.cell 0;have q1:=hA.cell 1;have q2:=hA.cell 2;have q3:=hA.cell 3;simp at q0 q1 q2 q3;have t0:=hR.cell 0;have t1:=hR.cell 1;have t2:=hR.cell 2;have t3:=hR.cell 3;have t4:=hR.cell 4;have t5:=hR.cell 5;have t6:=hR.cell 6;have t7:=hR.cell 7;simp at t0 t1 t2 t3 t4 t5 t6 t7;gi_enter Tryz.func74,Tryz.ntmps74
 gi_wp2_with (gi_at_call 67;with_reducible refine hop.mono ?_;rintro e w2 ⟨v,LB,rfl,hO,hb3⟩;obtain⟨a,c,rfl⟩:=fE hO.row)
 have HB2:=hb2.trans (hb3.mono hb2.size);have hR2:=hR.below hb3;clear q0 q1 q2 q3 t0 t1 t2 t3 t4 t5 t6 t7 hop hb1 hA;generalize (w.alloc _).alloc _=W0 at *;have hlc:=tu hO.row;gi_loopw [15,16,17,18,19,20,21] (λx1 x2 x3 x4 x5 x6 i wr=>∃(j k s:Nat) (pd sm mo le:Int),j≤L.length∧x1=.int .i64 k∧x2=.int .i64 pd∧x3=.int .i64 s∧x4=.int .i64 sm∧x5=.int .i64 mo∧x6=.int .i64 le∧i=.int .i64 j∧Pj cases proof L j k pd s sm mo le∧Below w2.heap.size w2 wr) (λ_ _ _ _ _ _ i _=>L.length - (intOf i).toNat)
 case atStart=>exact⟨0,0,0,0,0,0,1073741824,Nat.zero_le _,rfl,rfl,rfl,rfl,rfl,rfl,rfl,rv_zero _ _ _,Below.refl _ _⟩
 case round=>
  obtain⟨j,k,s,pd,sm,mo,le,hj,rfl,rfl,rfl,rfl,rfl,rfl,rfl,H,HB⟩:=hrel;have rU:=HB2.trans (HB.mono HB2.size);have B:=y8 h0 lU H;obtain⟨B1,B2,B3,B4,B5,B6,B7,B8,B9,B10⟩:=B;by_cases hjl:j<L.length
  ·replace hj:=hjl;have HO:=hO.below HB;obtain⟨G,ci,x2,rfl,hG',hgd,hci,c1,hlb,c2⟩:=HO.at hj;have hG:=hG';have hxm:=h0 _ (getD_mem hj);rw[hgd]at hxm;simp only at hxm;have hcc:=Hz.below rU;have hcp:=hvp.below rU;have hci':(ci:Int)<b.cs.length:=by omega
   have hjl':(j:Int)<L.length:=by omega
   clear hG';by_cases hC:(ci:Int)∈cases
   ·by_cases hP:(ci:Int)∈proof
    ·have Nc:=AZ h0 lU H hj hgd;rw[if_pos hC,if_pos hC,if_pos hP,if_pos hP,if_pos hP,if_pos hP]at Nc;have HRV:=Lib.hid Nc;clear Nc H hgd;have sH:=iM cases _ ci wr hcc hnc;rw[decide_eq_true hC]at sH
     gi_wp2_with (gi_at_call 40;with_reducible refine sH.mono ?_;rintro e w3 ⟨rfl,hw3⟩;obtain rfl:=hw3.symm)
     gi_big_quiet_th (fail)
     have hdr:=below_drewN wr nq;replace c1:=(hdr.cell (p:=⟨G,j,none⟩) hG).trans c1;replace c2:=(hdr.cell (p:=⟨LB,ci,none⟩) hlb).trans c2;replace hG:=aA hG hdr.size;replace hlb:=aA hlb hdr.size;replace hcp:=hcp.below hdr;replace HB:=HB.trans (hdr.mono HB.size);clear hdr;generalize wr.drewN nq=wr at *;have sH:=iM proof _ ci wr hcp hnp;rw[decide_eq_true hP]at sH
     gi_wp2_with (gi_at_call 40;with_reducible refine sH.mono ?_;rintro e w3 ⟨rfl,hw3⟩;obtain rfl:=hw3.symm)
     refine aV rfl mixed (by kernel_rfl) (WB0 wr) [] (x₀:=λ_=>undef) (λg hg=>by cases hg) (WB0.start _) ?_;simp only[aC,aB,aF,Nat.reduceAdd,List.range,List.range.loop]
     iterate 7
      (refine dn rfl rfl ?_
       apply ah;refine⟨λD x w' (hm:dX _ D _) (hW:Below _ _ _) K Q hK=>?_,?_⟩
       ·gi_wp2;exact hW
       refine⟨_,rfl,?_⟩)
     refine dn rfl rfl ?_;apply ah;refine⟨λD x w' (hm:dX _ D _) (hW:Below _ _ _) K Q hK=>?_,?_⟩
     ·have q:=(hW.cell (p:=⟨G,j,none⟩) hG).trans c1;have mV:=aA hG hW.size;gi_wp2;exact hW
     refine⟨_,rfl,?_⟩;refine dn rfl rfl ?_;apply ah;refine⟨λD x w' (hm:dX _ D _) (hW:Below _ _ _) K Q hK=>?_,?_⟩
     ·gi_wp2;exact hW
     refine⟨_,rfl,?_⟩;refine dn rfl rfl ?_;apply ah;refine⟨λD x w' (hm:dX _ D _) (hW:Below _ _ _) K Q hK=>?_,?_⟩
     ·have q:=(hW.cell (p:=⟨LB,ci,none⟩) hlb).trans c2;have mV:=aA hlb hW.size;gi_wp2;exact hW
     refine⟨_,rfl,?_⟩
     iterate 6
      (refine dn rfl rfl ?_
       apply ah;refine⟨λD x w' (hm:dX _ D _) (hW:Below _ _ _) K Q hK=>?_,?_⟩
       ·gi_wp2;exact hW
       refine⟨_,rfl,?_⟩)
     refine dn rfl rfl ?_;apply ah;refine⟨λD x w' (hm:dX _ D _) (hW:Below _ _ _) K Q hK=>?_,?_⟩
     ·have q:=(hW.cell (p:=⟨G,j,none⟩) hG).trans c1;have mV:=aA hG hW.size;gi_wp2;exact hW
     refine⟨_,rfl,?_⟩;refine dn rfl rfl ?_;apply ah;refine⟨λD x w' (hm:dX _ D _) (hW:Below _ _ _) K Q hK=>?_,?_⟩
     ·gi_wp2;exact hW
     refine⟨_,rfl,?_⟩;refine dn rfl rfl ?_;apply ah;refine⟨λD x w' (hm:dX _ D _) (hW:Below _ _ _) K Q hK=>?_,?_⟩
     ·have q:=(hW.cell (p:=⟨LB,ci,none⟩) hlb).trans c2;have mV:=aA hlb hW.size;gi_wp2;exact hW
     refine⟨_,rfl,?_⟩
     iterate 4
      (refine dn rfl rfl ?_
       apply ah;refine⟨λD x w' (hm:dX _ D _) (hW:Below _ _ _) K Q hK=>?_,?_⟩
       ·gi_wp2;exact hW
       refine⟨_,rfl,?_⟩)
     rintro x w4 yT;have yT:Below wr.heap.size wr w4:=yT;simp only[Lift.Act.bC,List.foldl_cons,List.foldl_nil,aj,au,ak]
     gi_wp2_with fail
     go_roundw
     case rel=>
      refine⟨j+1,_,_,_,_,_,_,by omega,?_,?_,?_,?_,?_,?_,by go_num,HRV.out,HB.trans (yT.mono HB.size)⟩
      all_goals first
       |rfl
       |go_num
       |(congr 1;unfold wrap64;omega)
       |(congr 1;omega)
     case measure=>simp[intOf];omega
    ·have Nc:=AZ h0 lU H hj hgd;rw[if_pos hC,if_pos hC,if_neg hP,if_neg hP,if_neg hP,if_neg hP]at Nc;have HRV:=Lib.hid Nc;clear Nc H hgd;have sH:=iM cases _ ci wr hcc hnc;rw[decide_eq_true hC]at sH
     gi_wp2_with (gi_at_call 40;with_reducible refine sH.mono ?_;rintro e w3 ⟨rfl,hw3⟩;obtain rfl:=hw3.symm)
     gi_big_quiet_th (fail)
     have hdr:=below_drewN wr nq;replace c1:=(hdr.cell (p:=⟨G,j,none⟩) hG).trans c1;replace c2:=(hdr.cell (p:=⟨LB,ci,none⟩) hlb).trans c2;replace hG:=aA hG hdr.size;replace hlb:=aA hlb hdr.size;replace hcp:=hcp.below hdr;replace HB:=HB.trans (hdr.mono HB.size);clear hdr;generalize wr.drewN nq=wr at *;have sH:=iM proof _ ci wr hcp hnp;rw[decide_eq_false hP]at sH
     gi_wp2_with (gi_at_call 40;with_reducible refine sH.mono ?_;rintro e w3 ⟨rfl,hw3⟩;obtain rfl:=hw3.symm)
     go_roundw
     case rel=>
      refine⟨j+1,_,_,_,_,_,_,by omega,?_,?_,?_,?_,?_,?_,by go_num,HRV.out,HB⟩
      all_goals first
       |rfl
       |go_num
       |(congr 1;unfold wrap64;omega)
       |(congr 1;omega)
     case measure=>simp[intOf];omega
   ·by_cases hP:(ci:Int)∈proof
    ·have Nc:=AZ h0 lU H hj hgd;rw[if_neg hC,if_neg hC,if_pos hP,if_pos hP,if_pos hP,if_pos hP]at Nc;have HRV:=Lib.hid Nc;clear Nc H hgd;have sH:=iM cases _ ci wr hcc hnc;rw[decide_eq_false hC]at sH;have TT:=iM proof _ ci wr hcp hnp;rw[decide_eq_true hP]at TT
     gi_wp2_with (first
      |(gi_at_call 40;with_reducible refine sH.mono ?_;rintro e w3 ⟨rfl,hw3⟩;obtain rfl:=hw3.symm)
      |(gi_at_call 40;with_reducible refine TT.mono ?_;rintro e w3 ⟨rfl,hw3⟩;obtain rfl:=hw3.symm))
     refine aV rfl mixed (by kernel_rfl) (WB0 wr) [] (x₀:=λ_=>undef) (λg hg=>by cases hg) (WB0.start _) ?_;simp only[aC,aB,aF,Nat.reduceAdd,List.range,List.range.loop]
     iterate 7
      (refine dn rfl rfl ?_
       apply ah;refine⟨λD x w' (hm:dX _ D _) (hW:Below _ _ _) K Q hK=>?_,?_⟩
       ·gi_wp2;exact hW
       refine⟨_,rfl,?_⟩)
     refine dn rfl rfl ?_;apply ah;refine⟨λD x w' (hm:dX _ D _) (hW:Below _ _ _) K Q hK=>?_,?_⟩
     ·have q:=(hW.cell (p:=⟨G,j,none⟩) hG).trans c1;have mV:=aA hG hW.size;gi_wp2;exact hW
     refine⟨_,rfl,?_⟩;refine dn rfl rfl ?_;apply ah;refine⟨λD x w' (hm:dX _ D _) (hW:Below _ _ _) K Q hK=>?_,?_⟩
     ·gi_wp2;exact hW
     refine⟨_,rfl,?_⟩;refine dn rfl rfl ?_;apply ah;refine⟨λD x w' (hm:dX _ D _) (hW:Below _ _ _) K Q hK=>?_,?_⟩
     ·have q:=(hW.cell (p:=⟨LB,ci,none⟩) hlb).trans c2;have mV:=aA hlb hW.size;gi_wp2;exact hW
     refine⟨_,rfl,?_⟩
     iterate 6
      (refine dn rfl rfl ?_
       apply ah;refine⟨λD x w' (hm:dX _ D _) (hW:Below _ _ _) K Q hK=>?_,?_⟩
       ·gi_wp2;exact hW
       refine⟨_,rfl,?_⟩)
     refine dn rfl rfl ?_;apply ah;refine⟨λD x w' (hm:dX _ D _) (hW:Below _ _ _) K Q hK=>?_,?_⟩
     ·have q:=(hW.cell (p:=⟨G,j,none⟩) hG).trans c1;have mV:=aA hG hW.size;gi_wp2;exact hW
     refine⟨_,rfl,?_⟩;refine dn rfl rfl ?_;apply ah;refine⟨λD x w' (hm:dX _ D _) (hW:Below _ _ _) K Q hK=>?_,?_⟩
     ·gi_wp2;exact hW
     refine⟨_,rfl,?_⟩;refine dn rfl rfl ?_;apply ah;refine⟨λD x w' (hm:dX _ D _) (hW:Below _ _ _) K Q hK=>?_,?_⟩
     ·have q:=(hW.cell (p:=⟨LB,ci,none⟩) hlb).trans c2;have mV:=aA hlb hW.size;gi_wp2;exact hW
     refine⟨_,rfl,?_⟩
     iterate 4
      (refine dn rfl rfl ?_
       apply ah;refine⟨λD x w' (hm:dX _ D _) (hW:Below _ _ _) K Q hK=>?_,?_⟩
       ·gi_wp2;exact hW
       refine⟨_,rfl,?_⟩)
     rintro x w4 yT;have yT:Below wr.heap.size wr w4:=yT;simp only[Lift.Act.bC,List.foldl_cons,List.foldl_nil,aj,au,ak]
     gi_wp2_with fail
     go_roundw
     case rel=>
      refine⟨j+1,_,_,_,_,_,_,by omega,?_,?_,?_,?_,?_,?_,by go_num,HRV.out,HB.trans (yT.mono HB.size)⟩
      all_goals first
       |rfl
       |go_num
       |(congr 1;unfold wrap64;omega)
       |(congr 1;omega)
     case measure=>simp[intOf];omega
    ·have Nc:=AZ h0 lU H hj hgd;rw[if_neg hC,if_neg hC,if_neg hP,if_neg hP,if_neg hP,if_neg hP]at Nc;have HRV:=Lib.hid Nc;clear Nc H hgd;have sH:=iM cases _ ci wr hcc hnc;rw[decide_eq_false hC]at sH;have TT:=iM proof _ ci wr hcp hnp;rw[decide_eq_false hP]at TT
     gi_wp2_with (first
      |(gi_at_call 40;with_reducible refine sH.mono ?_;rintro e w3 ⟨rfl,hw3⟩;obtain rfl:=hw3.symm)
      |(gi_at_call 40;with_reducible refine TT.mono ?_;rintro e w3 ⟨rfl,hw3⟩;obtain rfl:=hw3.symm))
     go_roundw
     case rel=>
      refine⟨j+1,_,_,_,_,_,_,by omega,?_,?_,?_,?_,?_,?_,by go_num,HRV.out,HB⟩
      all_goals first
       |rfl
       |go_num
       |(congr 1;unfold wrap64;omega)
       |(congr 1;omega)
     case measure=>simp[intOf];omega
  ·obtain rfl:j=L.length:=by omega
   have hrp:=rv_pv h0 lU ha0 ha1 hup H;have hG2:=hG.same rU;have r4:=(hR2.below HB).cell 4;simp at r4;rw[HAT.out]at r4;have lD:=(hR2.below HB).lt;have s4:=hG2.cell (j:=4) (i:=aN) (by omega) h4;have lt4:=hG2.blt (j:=4) (i:=aN) (by omega) h4;simp only[cval]at s4;have hco':(aN:Int)<b.aJ.length:=by omega
   obtain⟨ac,hac⟩:∃ac,(b.after n).acc aN=ac:=⟨_,rfl⟩
   rw[hac]at hrp ha0 ha1 s4;have HAC:=Lib.hid hac;clear hac;have HRP:=Lib.hid hrp;have hk1:wrap64 ((k:Int)+1)=((k+1:Nat):Int):=by unfold wrap64;omega
   have hw:=wrap_succ (Nat.lt_of_le_of_lt B9 hlsz);have HW:=Lib.hid hw;clear hrp H hw hup h0 hnc hnp hlc hncc hn ha0 ha1 Hz hvp hj B1 B2 B3 B4 B5 B6 B7 B8 B9 B10 lU hlsz;gi_wp2
   all_goals
    go_ret;refine⟨?_,rU⟩;rw[HAC.out,← HRP.out]
    first
     |exact rvc1 ‹_›
     |exact rvc2 ‹_› ‹_›
     |exact rvc3 ‹_› ‹_› ‹_› ‹_›
     |exact rvc4 ‹_› ‹_› ‹_›
     |exact rvc5 ‹_› ‹_› ‹_›
end
section
open Go Go.RowKit Lift
def aP.nX(b:aP)(day:Int)(cs ps:List Int):Prop:=if b.je (true=true) day=0 then∃c0 p0,jX b.to (b.to.after day) day b.aJ.length c0 p0∧cs=gB c0∧ps=gB p0 else cs=[]∧ps=[]
theorem NW{b:aP}{day:Int}{cs ps cs' ps':List Int}(h:b.nX day cs ps)(h':b.nX day cs' ps'):cs=cs'∧ps=ps':=by
 unfold aP.nX at h h';split at h
 ·rename_i q;rw[if_pos q]at h';obtain⟨c0,p0,h1,rfl,rfl⟩:=h;obtain⟨c1,p1,h2,rfl,rfl⟩:=h';obtain⟨rfl,rfl⟩:=yA h1 h2;exact⟨rfl,rfl⟩
 ·rename_i q;rw[if_neg q]at h';rw[h.1,h.2,h'.1,h'.2];exact⟨rfl,rfl⟩
def aP.pvA(b:aP)(day:Int)(cases proof:List Int):Bool:=if b.je (true=true) day=0 then b.to.proves (b.to.after day) day cases proof else false
structure D9 (N:Nat) (v u:Value) (xs ys:List Int) (w:World):Prop where
 a:w.ownsRow N 3 1 v xs.length (ints xs)
 b:w.ownsRow N 3 1 u ys.length (ints ys)
 ne:∀g,v.ownBlock=some g→u.ownBlock≠some g
section
variable {N:Nat} {v u v':Value} {xs ys zs:List Int} {w w':World}
theorem D9.below(h:D9 N v u xs ys w)(hb:Below w.heap.size w w'):D9 N v u xs ys w':=⟨cZ h.a hb,cZ h.b hb,h.ne⟩
theorem D9.swap(h:D9 N v u xs ys w):D9 N u v ys xs w:=⟨h.b,h.a,λg e q=>h.ne g q e⟩
theorem D9.app(h:D9 N v u xs ys w)(hown:w'.ownsRow N 3 1 v' (xs.length+zs.length) (ints (xs++zs)))(hg:w.grownBy w' v.ownBlock)(hat:v'.ownBlock=v.ownBlock∨v'.ownBlock=some w.heap.size):D9 N v' u (xs++zs) ys w':=by
 refine⟨by rw[List.length_append];exact hown,Dw h.b hg λq hq e=>h.ne q e hq,λg e q=>?_⟩;rcases hat with z|z
 ·rw[z]at e;exact h.ne g e q
 ·rw[z]at e;cases e;have:=(kE h.b q).2;omega
end
theorem KF{N n size:Nat}{e:TypeId}{v u:Value}{xs:List Value}{w w':World}(h:w.ownsRow N e size v n xs)(hg:w.grownBy w' u.ownBlock)(hlt:∀q,u.ownBlock=some q→q<N):w'.ownsRow N e size v n xs:=Dw h hg λq hq e=>absurd (hlt q e) (Nat.not_lt.2 (kE h hq).1)
set_option maxRecDepth 100000 in
set_option maxHeartbeats 16000000 in
theorem RP{N:Nat}{l:Lay}{b:aP}{w:World}(hbk:bU N l b w)(hcap:b.aJ.length≤l.cc)(hs:b.Small)(day:Int):CallsIn Fz 0 Tryz.prog 32 #[.agg (l.cu b),.int .i64 day] w λe w'=>∃v1 v2,e=.returned (.tuple #[v1,v2,.int .i64 (b.je (true=true) day)])∧∃cs ps,b.nX day cs ps∧w'.ownsRow w.heap.size 3 1 v1 cs.length (ints cs)∧w'.ownsRow w.heap.size 3 1 v2 ps.length (ints ps)∧Below w.heap.size w w':=by
 have hb1:Below w.heap.size w (w.alloc (.cells (l.cu b) 27)):=(Below.refl _ w).alloc (ay _) _;have hA:=Blk.new w (l.cu b) 27;have hN1:=hbk.below (hb1.mono hbk.hN);have hck:=zo hN1 hcap (by have:=hs.1;omega) (by have:=hs.2.1;omega) (by have:=hs.2.2.1;omega) (by have:=hs.2.2.2;omega);by_cases hf:b.iY=0
 ·rw[hf]at hck;by_cases hd:0≤day∧day≤9999
  ·have hq0:b.je (true=true) day=0:=AA hf rfl hd;have Pg:=Lib.hid (show∀c0 p0,jX b.to (b.to.after day) day b.aJ.length c0 p0→b.nX day (gB c0) (gB p0)from λc0 p0 h=>by unfold aP.nX;rw[if_pos hq0];exact⟨c0,p0,h,rfl,rfl⟩);rw[hq0];clear hq0;have hR:=b.pK.1 hf;have hfull:=hR.full;clear hf;obtain⟨n,rfl⟩:∃n:Nat,day=n:=⟨day.toNat,by omega⟩
   have hn:n≤9999:=by omega
   have hrun:=λ{w'} (h:bU N l b w')=>RS (h.to hR) hfull hd.1 hd.2;rw[aP.zk]at hrun;gi_enter Tryz.func32,Tryz.ntmps32
   gi_wp2_with (first
    |(gi_at_call 21;with_reducible refine hck.mono ?_;rintro e w2 ⟨rfl,hb3⟩;have hA2:=hA.below hb3;have yJ:=hN1.below (hb3.mono hN1.hN);have g0:=hA2.cell 0;have g1:=hA2.cell 1;have g2:=hA2.cell 2;have g3:=hA2.cell 3;simp at g0 g1 g2 g3;have I9:=hA2.lt)
    |(gi_at_call 47;with_reducible refine(tH _ _ hd).mono ?_;rintro e w5 ⟨rfl,hw5⟩;obtain rfl:=hw5.symm)
    |(gi_at_call 58;with_reducible refine(hrun yJ).mono ?_;rintro e w6 ⟨R,rfl,G6,hb6⟩;have Lp:=hA2.below hb6;have Rw:=yJ.below (hb6.mono yJ.hN);have hb7:=(Below.refl w6.heap.size w6).alloc (ay _) (.cells (R.arr b.to) 102);have pO:=Blk.new w6 (R.arr b.to) 102))
   have G7:=G6.same hb7;have MR:=hb1.trans ((hb3.trans ((hb6.trans (hb7.mono hb6.size)).mono hb3.size)).mono hb1.size);have BX:=Lp.below hb7;have MS:=Rw.below (hb7.mono Rw.hN);simp only[RW.arr]at hb7 pO G7 BX MS MR;generalize w6.alloc _=w7 at *;generalize w6.heap.size=RX at *;clear hA hA2 Lp hN1 yJ Rw hck hrun G6 hb1 hb3 hb6 hb7;clear g0 g1 g2 g3 I9;have hnc:=hfull.v.nc;have hncc:b.aJ.length≤3:=hnc;have hnk:=hfull.v.nk;gi_loopw [9,10,11] (λv u i wr=>∃(co:Nat) (cs ps:List Int),co≤b.aJ.length∧i=.int .i64 co∧jX b.to (b.to.after n) n co cs ps∧D9 w7.heap.size v u cs ps wr∧Below w7.heap.size w7 wr) (λ_ _ i _=>b.aJ.length-(intOf i).toNat)
   case atStart=>exact⟨0,[],[],Nat.zero_le _,rfl,⟨rfl,rfl⟩,⟨World.ownsRow_nil _ _ _ _,World.ownsRow_nil _ _ _ _,λg e=>by cases e⟩,Below.refl _ _⟩
   case round=>
    obtain⟨co,cs,ps,hco,rfl,hpl,hT,HB⟩:=hrel;have AO:=BX.below HB;have pR:=pO.below HB;have hN8:=MS.below (HB.mono MS.hN);have HBz:=HB.size;have G8:=G7.same HB;have hlen:=kF hpl;have hcm:co * b.to.cs.length≤18:=Nat.le_trans (Nat.mul_le_mul hco (ay _)) (Nat.le_trans (Nat.mul_le_mul hnc hnk) (by decide));have g0:=AO.cell 0;have g1:=AO.cell 1;have g2:=AO.cell 2;have g3:=AO.cell 3;simp at g0 g1 g2 g3;have I9:=AO.lt;by_cases hl:co<b.aJ.length
    ·have hS:=KR hfull.v n co;have hAS:=wC hfull.v hfull.al n hn;have ha0:=hAS.acc co (by omega);have ha1:(b.to.after n).acc co≤100000000000:=by have:=(hAS.bounds (k:=co) (by omega)).1;omega
     have hop:=KA (hN8.to hR) hfull.v G8 (aN:=co) (day:=n) (KC hfull.v n);have hsl:=kJ b.to (b.to.after n) n co;have h4:co<cnt b.to 4:=hl;have HAT:=Lib.hid (G8.at_ 4 (by omega) (Nat.lt_of_le_of_lt (Nat.zero_le _) h4));rw[aP.zk]at hop;have h0:=hS.le;have lU:=hS.few;clear hAS hS;obtain⟨L,hLe⟩:∃L,b.to.short (b.to.after n) n co=L:=⟨_,rfl⟩
     rw[hLe]at hop h0 lU hsl;have HLE:=Lib.hid hLe;clear hLe;have t0:=pR.cell 0;have t1:=pR.cell 1;have t2:=pR.cell 2;have t3:=pR.cell 3;have t4:=pR.cell 4;have t5:=pR.cell 5;have t6:=pR.cell 6;have t7:=pR.cell 7;simp at t0 t1 t2 t3 t4 t5 t6 t7;have lD:=pR.lt
     gi_wp2_with (gi_at_call 67;with_reducible refine hop.mono ?_;rintro e w4 ⟨v,LB,rfl,hO,hb4⟩;obtain⟨a,c,rfl⟩:=fE hO.row)
     clear t0 t1 t2 t3 t4 t5 t6 t7 lD;clear g0 g1 g2 g3 I9;have hcp:=tu hO.row;have hT1:=hT.below hb4;have hw47:w7.heap.size≤w4.heap.size:=Nat.le_trans HBz hb4.size;have hvl:∀q,u9.ownBlock=some q→q<wr.heap.size:=λq e=>(kE hT.a e).2;have HL:=Lib.hid h0;clear h0;gi_loopw [14,15] (λmv sv wr=>∃m:Nat,m≤L.length∧mv=.int .i64 m∧sv=.int .i64 (sums L m)∧(∀j,j<m→sums L (j+1)≤(b.to.after n).acc co)∧Below w4.heap.size w4 wr) (λmv _ _=>L.length-(intOf mv).toNat)
     case atStart=>exact⟨0,Nat.zero_le _,rfl,rfl,λj hj=>absurd hj (Nat.not_lt_zero _),Below.refl _ _⟩
     case round=>
      obtain⟨m,hm,rfl,rfl,Na,HB1⟩:=hrel;have HO:=hO.below HB1;have hsb:=oO HL.out lU m hm;have hR9:=(pR.below hb4).below HB1;have G9:=(G8.same hb4).same HB1;have r4:=hR9.cell 4;simp at r4;rw[HAT.out]at r4;have lD:=hR9.lt;have s4:=G9.cell (j:=4) (i:=co) (by omega) h4;have lt4:=G9.blt (j:=4) (i:=co) (by omega) h4;simp only[cval]at s4;have hl':(co:Int)<b.to.aJ.length:=Int.ofNat_lt.2 hl;obtain⟨ac,hac⟩:∃ac,(b.to.after n).acc co=ac:=⟨_,rfl⟩
      rw[hac]at s4 Na ha0 ha1;have HAC:=Lib.hid hac;have HHD:=Lib.hid Na;clear hac Na;by_cases hlm:m<L.length
      ·obtain⟨G,ci,x,rfl,hG,hgd,hci,c1,hlb,c2⟩:=HO.at hlm;have hxm:=HL.out _ (getD_mem hlm);have hss:=uT HL.out lU hlm;rw[hgd]at hxm hss;simp only at hxm hss;have hci':(ci:Int)<b.to.cs.length:=Int.ofNat_lt.2 hci;have hlm':(m:Int)<L.length:=Int.ofNat_lt.2 hlm;obtain⟨sm,hsm⟩:∃sm,sums L m=sm:=⟨_,rfl⟩
       rw[hsm]at hss hsb;by_cases hle:sm+x≤ac
       ·have HN:Hid (∀j,j<m+1→sums L (j+1)≤ac):=λj hj=>by
         by_cases e:j=m
         ·subst e;rw[hss];exact hle
         ·exact HHD.out j (by omega)
        have HS:=Lib.hid hss;rw[hsm];clear hss hgd hsm;gi_wp2;gi_big_quiet_th (fail)
        have hdr:=below_drewN wr nq;replace c1:=(hdr.cell (p:=⟨G,m,none⟩) hG).trans c1;replace c2:=(hdr.cell (p:=⟨LB,ci,none⟩) hlb).trans c2;replace hG:=aA hG hdr.size;replace hlb:=aA hlb hdr.size;replace HB1:=HB1.trans (hdr.mono HB1.size);clear hdr r4 lD s4 lt4;generalize wr.drewN nq=wr at *
        gi_wp2_with fail
        go_roundw
        case rel=>exact⟨m+1,hlm,by go_num,by rw[HS.out],by rw[HAC.out];exact HN.out,HB1⟩
        case measure=>simp[intOf];omega
       ·have HTK:Hid (Gz L ac m):=yF HL.out lU ha0 ha1 hm HHD.out λ_=>by rw[hss];omega
        have hld:decide (sm+x≤ac)=false:=decide_eq_false hle;rw[hsm];clear hss hgd hsm;gi_wp2;gi_big_quiet_th (fail)
        have hdr:=below_drewN wr nq;replace HO:=HO.below hdr;replace HB1:=HB1.trans (hdr.mono HB1.size);generalize wr.drewN nq=wr at *;have hT2:=hT1.below HB1;have hwz:w7.heap.size≤wr.heap.size:=Nat.le_trans hw47 HB1.size;have hq:=eF HO.row (List.length_map ..).symm;have ht:=hq.to (k:=m) (c:=c) (Nat.le_trans hm (Nat.le_of_eq (List.length_map ..).symm));have hl1:cs.length+((L.map (·.1)).take m).length≤1000000:=by rw[List.length_take,List.length_map];exact Nat.le_trans (Nat.add_le_add (Nat.le_trans hlen.1 hcm) (Nat.le_trans (Nat.min_le_right ..) lU)) (by decide)
        have hmc:m≤c:=Nat.le_trans hm hcp;have hmc':(m:Int)≤c:=Int.ofNat_le.2 hmc;have e1:(L.map (·.1)).take m=(L.take m).map (·.1):=List.map_take.symm;have hl2:ps.length+((L.map (·.1)).take (m+1)).length≤1000000:=by rw[List.length_take,List.length_map];exact Nat.le_trans (Nat.add_le_add (Nat.le_trans hlen.2 hcm) (Nat.le_trans (Nat.min_le_right ..) lU)) (by decide)
        have e2:(L.map (·.1)).take (m+1)=(L.take (m+1)).map (·.1):=List.map_take.symm;have hmc2:m+1≤c:=Nat.le_trans hlm hcp;have hmc3:(m:Int)+1≤c:=by omega
        gi_wp2_with (first
         |(gi_at_builtin;refine dF rfl _ _ rfl (base:=w7.heap.size) rfl hT2.a rfl ht hl1 hwz ?_;intro v1 w5 ho1 hg1 hat1;have ji:=hT2.app ho1 hg1 hat1;have hb5:=eY hT2.a hg1 hwz;have hrow2:=KF HO.row hg1 hvl;have hb5z:=Nat.le_trans hwz hb5.size;have ht2:=(eF hrow2 (List.length_map ..).symm).to (k:=m+1) (c:=c) (Nat.le_trans hlm (Nat.le_of_eq (List.length_map ..).symm));go_frame)
         |(gi_at_builtin;refine dF rfl _ _ rfl (base:=w7.heap.size) rfl ji.swap.a rfl ht2 hl2 hb5z ?_;intro v2 w6 ho2 hg2 hat2;have xU:=(ji.swap.app ho2 hg2 hat2).swap;have hb6:=eY ji.swap.a hg2 hb5z;go_frame))
        rw[e1,e2]at xU;refine⟨⟨co+1,_,_,hl,by go_num,⟨cs,ps,m,hpl,by rw[HLE.out,HAC.out];exact HTK.out,rfl,rfl⟩,?_,HB.trans ((hb4.trans (HB1.mono hb4.size)).mono HB.size |>.trans (hb5.trans hb6))⟩,by simp[intOf];omega⟩;rw[HLE.out,if_pos hlm];exact xU
      ·have HTK:Hid (Gz L ac m):=yF HL.out lU ha0 ha1 hm HHD.out λq=>absurd q hlm;have hld:decide ((m:Int)<L.length)=false:=decide_eq_false λq=>hlm (Int.ofNat_lt.1 q);have hle:decide (m<L.length)=false:=decide_eq_false hlm;gi_wp2;gi_big_quiet_th (fail)
       have hdr:=below_drewN wr nq;replace HO:=HO.below hdr;replace HB1:=HB1.trans (hdr.mono HB1.size);generalize wr.drewN nq=wr at *;have hT2:=hT1.below HB1;have hwz:w7.heap.size≤wr.heap.size:=Nat.le_trans hw47 HB1.size;have hq:=eF HO.row (List.length_map ..).symm;have ht:=hq.to (k:=m) (c:=c) (Nat.le_trans hm (Nat.le_of_eq (List.length_map ..).symm));have hl1:cs.length+((L.map (·.1)).take m).length≤1000000:=by rw[List.length_take,List.length_map];exact Nat.le_trans (Nat.add_le_add (Nat.le_trans hlen.1 hcm) (Nat.le_trans (Nat.min_le_right ..) lU)) (by decide)
       have hmc:m≤c:=Nat.le_trans hm hcp;have hmc':(m:Int)≤c:=Int.ofNat_le.2 hmc;have e1:(L.map (·.1)).take m=(L.take m).map (·.1):=List.map_take.symm
       gi_wp2_with (gi_at_builtin;refine dF rfl _ _ rfl (base:=w7.heap.size) rfl hT2.a rfl ht hl1 hwz ?_;intro v1 w5 ho1 hg1 hat1;have ji:=hT2.app ho1 hg1 hat1;have hb5:=eY hT2.a hg1 hwz;have hrow2:=KF HO.row hg1 hvl;go_frame)
       rw[e1]at ji;refine⟨⟨co+1,_,_,hl,by go_num,⟨cs,ps,m,hpl,by rw[HLE.out,HAC.out];exact HTK.out,rfl,rfl⟩,?_,HB.trans ((hb4.trans (HB1.mono hb4.size)).mono HB.size |>.trans hb5)⟩,by simp[intOf];omega⟩;rw[HLE.out,if_neg hlm,List.append_nil];exact ji
    ·obtain rfl:co=b.aJ.length:=Nat.le_antisymm hco (Nat.le_of_not_lt hl);have hc1:cs.length<1000:=Nat.lt_of_le_of_lt (Nat.le_trans hlen.1 hcm) (by decide);have hp1:ps.length<1000:=Nat.lt_of_le_of_lt (Nat.le_trans hlen.2 hcm) (by decide);have hs1:=KT (eF hT.a rfl) hc1;have hs2:=λ{w'} (h:Below wr.heap.size wr w')=>KT (eF (hT.below h).b rfl) hp1
     gi_wp2_with (first
      |(gi_at_call 68;with_reducible refine hs1.mono ?_;rintro e w8 ⟨v8,rfl,ho8,hb8⟩)
      |(gi_at_call 68;with_reducible refine(hs2 hb8).mono ?_;rintro e w9 ⟨v9,rfl,ho9,oD⟩))
     (try simp only[Exit.inBlock,Exit.then])
     refine bodyPost_ret (results_tmp3 rfl _ _ _) rfl ?_;have rU:=MR.trans (HB.mono MR.size);have HBf:=rU.trans ((hb8.trans (oD.mono hb8.size)).mono rU.size);exact⟨_,_,rfl,gB cs,gB ps,Pg.out _ _ hpl,by rw[dI];exact jl (cZ ho8 oD) rU.size,by rw[dI];exact jl ho9 (Nat.le_trans rU.size hb8.size),HBf⟩
  ·have hpx:b.nX day [] []:=by unfold aP.nX;rw[if_neg (by rw[o9 hf rfl hd];decide)];exact⟨rfl,rfl⟩
   have Pg:=Lib.hid hpx;clear hpx;rw[o9 hf rfl hd];clear hf;gi_enter Tryz.func32,Tryz.ntmps32
   gi_wp2_with (first
    |(gi_at_call 21;with_reducible refine hck.mono ?_;rintro e w2 ⟨rfl,hb3⟩;have hA2:=hA.below hb3;have yJ:=hN1.below (hb3.mono hN1.hN);have g0:=hA2.cell 0;have g1:=hA2.cell 1;have g2:=hA2.cell 2;have g3:=hA2.cell 3;simp at g0 g1 g2 g3;have I9:=hA2.lt)
    |(gi_at_call 47;with_reducible refine(IG day _ hd).mono ?_;rintro e w5 ⟨rfl,rfl⟩))
   (try simp only[Exit.inBlock,Exit.then])
   refine bodyPost_ret (results_tmp3 rfl _ _ _) rfl ?_;exact⟨_,_,rfl,[],[],Pg.out,World.ownsRow_nil _ _ _ _,World.ownsRow_nil _ _ _ _,hb1.trans (hb3.mono hb1.size)⟩
 ·have hpx:b.nX day [] []:=by unfold aP.nX;rw[if_neg (by rw[mJ hf];exact hf)];exact⟨rfl,rfl⟩
  have Pg:=Lib.hid hpx;clear hpx;rw[mJ hf];generalize b.iY=fl at hck hf ⊢;gi_enter Tryz.func32,Tryz.ntmps32
  gi_wp2_with (gi_at_call 21;with_reducible refine hck.mono ?_;rintro e w2 ⟨rfl,hb3⟩;have hA2:=hA.below hb3;have yJ:=hN1.below (hb3.mono hN1.hN);have g0:=hA2.cell 0;have g1:=hA2.cell 1;have g2:=hA2.cell 2;have g3:=hA2.cell 3;simp at g0 g1 g2 g3;have I9:=hA2.lt)
  (try simp only[Exit.inBlock,Exit.then])
  refine bodyPost_ret (results_tmp3 rfl _ _ _) rfl ?_;exact⟨_,_,rfl,[],[],Pg.out,World.ownsRow_nil _ _ _ _,World.ownsRow_nil _ _ _ _,hb1.trans (hb3.mono hb1.size)⟩
end
section
open Go Go.RowKit Lift
set_option maxRecDepth 100000 in
set_option maxHeartbeats 16000000 in
theorem LH{N:Nat}{l:Lay}{b:aP}{w:World}(hbk:bU N l b w)(hcap:b.aJ.length≤l.cc)(hs:b.Small)(day:Int){vc vp:Value}{cases proof:List Int}(Hz:bQ w vc cases)(hvp:bQ w vp proof)(hnc:cases.length<1000000)(hnp:proof.length<1000000):CallsIn Fz 0 Tryz.prog 34 #[.agg (l.cu b),.int .i64 day,vc,vp] w λe w'=>e=.returned (.tuple #[.bool (b.pvA day cases proof),.int .i64 (b.je (true=true) day)])∧Below w.heap.size w w':=by
 have hb1:Below w.heap.size w (w.alloc (.cells (l.cu b) 27)):=(Below.refl _ w).alloc (ay _) _;have hA:=Blk.new w (l.cu b) 27;have hN1:=hbk.below (hb1.mono hbk.hN);have hck:=zo hN1 hcap (by have:=hs.1;omega) (by have:=hs.2.1;omega) (by have:=hs.2.2.1;omega) (by have:=hs.2.2.2;omega);by_cases hf:b.iY=0
 ·rw[hf]at hck;by_cases hd:0≤day∧day≤9999
  ·have hq0:b.je (true=true) day=0:=AA hf rfl hd;have Pg:=Lib.hid (show b.pvA day cases proof=b.to.proves (b.to.after day) day cases proof from if_pos hq0);have hnk:b.cs.length<1000000:=by have:=hs.2.2.1;omega
   rw[hq0];clear hq0;have hR:=b.pK.1 hf;have hfull:=hR.full;clear hf;obtain⟨n,rfl⟩:∃n:Nat,day=n:=⟨day.toNat,by omega⟩
   have hn:n≤9999:=by omega
   have hrun:=λ{w'} (h:bU N l b w')=>RS (h.to hR) hfull hd.1 hd.2;rw[aP.zk]at hrun;have hl1:=λ{w':World} {M:Nat} {R:RW} (h:bU N l b w') (g:bP M R b.to (b.to.after n) w') (hb:Below w.heap.size w w')=>FC h hnk g (Hz.below hb) hnc;have hl2:=λ{w':World} {M:Nat} {R:RW} (h:bU N l b w') (g:bP M R b.to (b.to.after n) w') (hb:Below w.heap.size w w')=>FC h hnk g (hvp.below hb) hnp;have hncc:b.aJ.length≤3:=hfull.v.nc;have hvc':=Hz;have hvp':=hvp;obtain⟨bc,oc,kc,rfl,-⟩:=hvc';obtain⟨bp,op,kp,rfl,-⟩:=hvp';by_cases ok1:b.to.bV (b.to.after n) cases cases.length=true
   ·simp only[ok1]at hl1;by_cases ok2:b.to.bV (b.to.after n) proof proof.length=true
    ·simp only[ok2]at hl2;have HAL:=Lib.hid (show b.pvA n cases proof=(List.range b.aJ.length).all λc=>jG cases proof (b.to.short (b.to.after n) n c) ((b.to.after n).acc c)from by rw[Pg.out,Book.proves,ok1,ok2];rfl);clear ok1 ok2;gi_enter Tryz.func34,Tryz.ntmps34
     gi_wp2_with (first
      |(gi_at_call 21;with_reducible refine hck.mono ?_;rintro e w2 ⟨rfl,hb3⟩;have hA2:=hA.below hb3;have yJ:=hN1.below (hb3.mono hN1.hN);have g0:=hA2.cell 0;have g1:=hA2.cell 1;have g2:=hA2.cell 2;have g3:=hA2.cell 3;simp at g0 g1 g2 g3;have I9:=hA2.lt)
      |(gi_at_call 47;with_reducible refine(tH _ _ hd).mono ?_;rintro e w5 ⟨rfl,hw5⟩;obtain rfl:=hw5.symm)
      |(gi_at_call 58;with_reducible refine(hrun yJ).mono ?_;rintro e w6 ⟨R,rfl,G6,hb6⟩;have Lp:=hA2.below hb6;have Rw:=yJ.below (hb6.mono yJ.hN);have hb7:=(Below.refl w6.heap.size w6).alloc (ay _) (.cells (R.arr b.to) 102);have pO:=Blk.new w6 (R.arr b.to) 102;simp only[RW.arr]at hb7 pO;have G7:=G6.same hb7;have BX:=Lp.below hb7;have MS:=Rw.below (hb7.mono Rw.hN);have MR:=hb1.trans ((hb3.trans ((hb6.trans (hb7.mono hb6.size)).mono hb3.size)).mono hb1.size);have hk1:=hl1 MS G7 MR;simp only[RW.arr]at hk1;have g0:=BX.cell 0;have g1:=BX.cell 1;have g2:=BX.cell 2;have g3:=BX.cell 3;simp at g0 g1 g2 g3;have I9:=BX.lt;have t0:=pO.cell 0;have t1:=pO.cell 1;have t2:=pO.cell 2;have t3:=pO.cell 3;have t4:=pO.cell 4;have t5:=pO.cell 5;have t6:=pO.cell 6;have t7:=pO.cell 7;simp at t0 t1 t2 t3 t4 t5 t6 t7;have lD:=pO.lt)
      |(gi_at_call 73;with_reducible refine hk1.mono ?_;rintro e w8 ⟨rfl,hb8⟩;have AO:=BX.below hb8;have pR:=pO.below hb8;have hN8:=MS.below (hb8.mono MS.hN);have G8:=G7.same hb8;have Rt:=MR.trans (hb8.mono MR.size);have hk2:=hl2 hN8 G8 Rt;simp only[RW.arr]at hk2;have g0:=AO.cell 0;have g1:=AO.cell 1;have g2:=AO.cell 2;have g3:=AO.cell 3;simp at g0 g1 g2 g3;have I9:=AO.lt;have t0:=pR.cell 0;have t1:=pR.cell 1;have t2:=pR.cell 2;have t3:=pR.cell 3;have t4:=pR.cell 4;have t5:=pR.cell 5;have t6:=pR.cell 6;have t7:=pR.cell 7;simp at t0 t1 t2 t3 t4 t5 t6 t7;have lD:=pR.lt)
      |(gi_at_call 73;with_reducible refine hk2.mono ?_;rintro e w9 ⟨rfl,oD⟩))
     clear g0 g1 g2 g3 I9;clear t0 t1 t2 t3 t4 t5 t6 t7 lD;have hB9:=Rt.trans (oD.mono Rt.size);have hA9:=AO.below oD;have hR9:=pR.below oD;have hN9:=hN8.below (oD.mono hN8.hN);have G9:=G8.same oD;gi_loopw [12] (λi wr=>∃c:Nat,c≤b.aJ.length∧i=.int .i64 c∧((List.range c).all λc=>jG cases proof (b.to.short (b.to.after n) n c) ((b.to.after n).acc c))=true∧Below w9.heap.size w9 wr) (λi _=>b.aJ.length - (intOf i).toNat)
     case atStart=>exact⟨0,Nat.zero_le _,rfl,rfl,Below.refl _ _⟩
     case round=>
      obtain⟨c,hc,rfl,hall,HB⟩:=hrel;have rU:=hB9.trans (HB.mono hB9.size);have hA3:=hA9.below HB;have D7:=hR9.below HB;have g0:=hA3.cell 0;have g1:=hA3.cell 1;have g2:=hA3.cell 2;have g3:=hA3.cell 3;simp at g0 g1 g2 g3;have I9:=hA3.lt;have ALL:=Lib.hid hall;clear hall;by_cases hl:c<b.aJ.length
      ·have hpv:=NZ ((hN9.below (HB.mono hN9.hN)).to hR) hfull hn (G9.same HB) (aN:=c) hl (Hz.below rU) (hvp.below rU) hnc hnp;rw[aP.zk]at hpv;simp only[RW.arr]at hpv;have t0:=D7.cell 0;have t1:=D7.cell 1;have t2:=D7.cell 2;have t3:=D7.cell 3;have t4:=D7.cell 4;have t5:=D7.cell 5;have t6:=D7.cell 6;have t7:=D7.cell 7;simp at t0 t1 t2 t3 t4 t5 t6 t7;have lD:=D7.lt;cases hv:jG cases proof (b.to.short (b.to.after n) n c) ((b.to.after n).acc c)with
       |true=>
        rw[hv]at hpv;have HV:=Lib.hid hv;clear hv
        gi_wp2_with (gi_at_call 74;with_reducible refine hpv.mono ?_;rintro e w4 ⟨rfl,hb4⟩)
        go_roundw
        case rel=>exact⟨c+1,hl,by go_num,by rw[all_succ,ALL.out,HV.out];rfl,HB.trans (hb4.mono HB.size)⟩
        case measure=>simp[intOf];omega
       |false=>
        rw[hv]at hpv;have HV:=Lib.hid hv;clear hv
        gi_wp2_with (gi_at_call 74;with_reducible refine hpv.mono ?_;rintro e w4 ⟨rfl,hb4⟩)
        (try simp only[Exit.inBlock,Exit.then])
        refine bodyPost_ret (results_tmp2 rfl _ _ _) rfl ?_;exact⟨by rw[HAL.out,all_false hl HV.out];rfl,rU.trans (hb4.mono rU.size)⟩
      ·obtain rfl:c=b.aJ.length:=Nat.le_antisymm hc (Nat.le_of_not_lt hl);gi_wp2
       (try simp only[Exit.inBlock,Exit.then])
       refine bodyPost_ret (results_tmp2 rfl _ _ _) rfl ?_;exact⟨by rw[HAL.out,ALL.out];rfl,rU⟩
    ·have ok2:b.to.bV (b.to.after n) proof proof.length=false:=by simpa using ok2
     simp only[ok2]at hl2;have HAL:=Lib.hid (show b.pvA n cases proof=false from by rw[Pg.out,Book.proves,ok1,ok2];rfl);clear ok1 ok2;gi_enter Tryz.func34,Tryz.ntmps34
     gi_wp2_with (first
      |(gi_at_call 21;with_reducible refine hck.mono ?_;rintro e w2 ⟨rfl,hb3⟩;have hA2:=hA.below hb3;have yJ:=hN1.below (hb3.mono hN1.hN);have g0:=hA2.cell 0;have g1:=hA2.cell 1;have g2:=hA2.cell 2;have g3:=hA2.cell 3;simp at g0 g1 g2 g3;have I9:=hA2.lt)
      |(gi_at_call 47;with_reducible refine(tH _ _ hd).mono ?_;rintro e w5 ⟨rfl,hw5⟩;obtain rfl:=hw5.symm)
      |(gi_at_call 58;with_reducible refine(hrun yJ).mono ?_;rintro e w6 ⟨R,rfl,G6,hb6⟩;have Lp:=hA2.below hb6;have Rw:=yJ.below (hb6.mono yJ.hN);have hb7:=(Below.refl w6.heap.size w6).alloc (ay _) (.cells (R.arr b.to) 102);have pO:=Blk.new w6 (R.arr b.to) 102;simp only[RW.arr]at hb7 pO;have G7:=G6.same hb7;have BX:=Lp.below hb7;have MS:=Rw.below (hb7.mono Rw.hN);have MR:=hb1.trans ((hb3.trans ((hb6.trans (hb7.mono hb6.size)).mono hb3.size)).mono hb1.size);have hk1:=hl1 MS G7 MR;simp only[RW.arr]at hk1;have g0:=BX.cell 0;have g1:=BX.cell 1;have g2:=BX.cell 2;have g3:=BX.cell 3;simp at g0 g1 g2 g3;have I9:=BX.lt;have t0:=pO.cell 0;have t1:=pO.cell 1;have t2:=pO.cell 2;have t3:=pO.cell 3;have t4:=pO.cell 4;have t5:=pO.cell 5;have t6:=pO.cell 6;have t7:=pO.cell 7;simp at t0 t1 t2 t3 t4 t5 t6 t7;have lD:=pO.lt)
      |(gi_at_call 73;with_reducible refine hk1.mono ?_;rintro e w8 ⟨rfl,hb8⟩;have AO:=BX.below hb8;have pR:=pO.below hb8;have hN8:=MS.below (hb8.mono MS.hN);have G8:=G7.same hb8;have Rt:=MR.trans (hb8.mono MR.size);have hk2:=hl2 hN8 G8 Rt;simp only[RW.arr]at hk2;have g0:=AO.cell 0;have g1:=AO.cell 1;have g2:=AO.cell 2;have g3:=AO.cell 3;simp at g0 g1 g2 g3;have I9:=AO.lt;have t0:=pR.cell 0;have t1:=pR.cell 1;have t2:=pR.cell 2;have t3:=pR.cell 3;have t4:=pR.cell 4;have t5:=pR.cell 5;have t6:=pR.cell 6;have t7:=pR.cell 7;simp at t0 t1 t2 t3 t4 t5 t6 t7;have lD:=pR.lt)
      |(gi_at_call 73;with_reducible refine hk2.mono ?_;rintro e w9 ⟨rfl,oD⟩))
     (try simp only[Exit.inBlock,Exit.then])
     refine bodyPost_ret (results_tmp2 rfl _ _ _) rfl ?_;exact⟨by rw[HAL.out];rfl,Rt.trans (oD.mono Rt.size)⟩
   ·have ok1:b.to.bV (b.to.after n) cases cases.length=false:=by simpa using ok1
    simp only[ok1]at hl1;have HAL:=Lib.hid (show b.pvA n cases proof=false from by rw[Pg.out,Book.proves,ok1];rfl);clear ok1;gi_enter Tryz.func34,Tryz.ntmps34
    gi_wp2_with (first
     |(gi_at_call 21;with_reducible refine hck.mono ?_;rintro e w2 ⟨rfl,hb3⟩;have hA2:=hA.below hb3;have yJ:=hN1.below (hb3.mono hN1.hN);have g0:=hA2.cell 0;have g1:=hA2.cell 1;have g2:=hA2.cell 2;have g3:=hA2.cell 3;simp at g0 g1 g2 g3;have I9:=hA2.lt)
     |(gi_at_call 47;with_reducible refine(tH _ _ hd).mono ?_;rintro e w5 ⟨rfl,hw5⟩;obtain rfl:=hw5.symm)
     |(gi_at_call 58;with_reducible refine(hrun yJ).mono ?_;rintro e w6 ⟨R,rfl,G6,hb6⟩;have Lp:=hA2.below hb6;have Rw:=yJ.below (hb6.mono yJ.hN);have hb7:=(Below.refl w6.heap.size w6).alloc (ay _) (.cells (R.arr b.to) 102);have pO:=Blk.new w6 (R.arr b.to) 102;simp only[RW.arr]at hb7 pO;have G7:=G6.same hb7;have BX:=Lp.below hb7;have MS:=Rw.below (hb7.mono Rw.hN);have MR:=hb1.trans ((hb3.trans ((hb6.trans (hb7.mono hb6.size)).mono hb3.size)).mono hb1.size);have hk1:=hl1 MS G7 MR;simp only[RW.arr]at hk1;have g0:=BX.cell 0;have g1:=BX.cell 1;have g2:=BX.cell 2;have g3:=BX.cell 3;simp at g0 g1 g2 g3;have I9:=BX.lt;have t0:=pO.cell 0;have t1:=pO.cell 1;have t2:=pO.cell 2;have t3:=pO.cell 3;have t4:=pO.cell 4;have t5:=pO.cell 5;have t6:=pO.cell 6;have t7:=pO.cell 7;simp at t0 t1 t2 t3 t4 t5 t6 t7;have lD:=pO.lt)
     |(gi_at_call 73;with_reducible refine hk1.mono ?_;rintro e w8 ⟨rfl,hb8⟩;have AO:=BX.below hb8;have pR:=pO.below hb8;have hN8:=MS.below (hb8.mono MS.hN);have G8:=G7.same hb8;have Rt:=MR.trans (hb8.mono MR.size);have hk2:=hl2 hN8 G8 Rt;simp only[RW.arr]at hk2;have g0:=AO.cell 0;have g1:=AO.cell 1;have g2:=AO.cell 2;have g3:=AO.cell 3;simp at g0 g1 g2 g3;have I9:=AO.lt;have t0:=pR.cell 0;have t1:=pR.cell 1;have t2:=pR.cell 2;have t3:=pR.cell 3;have t4:=pR.cell 4;have t5:=pR.cell 5;have t6:=pR.cell 6;have t7:=pR.cell 7;simp at t0 t1 t2 t3 t4 t5 t6 t7;have lD:=pR.lt)
     |(gi_at_call 73;with_reducible refine hk2.mono ?_;rintro e w9 ⟨rfl,oD⟩))
    (try simp only[Exit.inBlock,Exit.then])
    refine bodyPost_ret (results_tmp2 rfl _ _ _) rfl ?_;exact⟨by rw[HAL.out];rfl,Rt⟩
  ·have Pg:=Lib.hid (show b.pvA day cases proof=false from if_neg (by rw[o9 hf rfl hd];decide));rw[o9 hf rfl hd];clear hf;gi_enter Tryz.func34,Tryz.ntmps34
   gi_wp2_with (first
    |(gi_at_call 21;with_reducible refine hck.mono ?_;rintro e w2 ⟨rfl,hb3⟩;have hA2:=hA.below hb3;have yJ:=hN1.below (hb3.mono hN1.hN);have g0:=hA2.cell 0;have g1:=hA2.cell 1;have g2:=hA2.cell 2;have g3:=hA2.cell 3;simp at g0 g1 g2 g3;have I9:=hA2.lt)
    |(gi_at_call 47;with_reducible refine(IG day _ hd).mono ?_;rintro e w5 ⟨rfl,rfl⟩))
   (try simp only[Exit.inBlock,Exit.then])
   refine bodyPost_ret (results_tmp2 rfl _ _ _) rfl ?_;exact⟨by rw[Pg.out];rfl,hb1.trans (hb3.mono hb1.size)⟩
 ·have Pg:=Lib.hid (show b.pvA day cases proof=false from if_neg (by rw[mJ hf];exact hf));rw[mJ hf];generalize b.iY=fl at hck hf ⊢;gi_enter Tryz.func34,Tryz.ntmps34
  gi_wp2_with (gi_at_call 21;with_reducible refine hck.mono ?_;rintro e w2 ⟨rfl,hb3⟩;have hA2:=hA.below hb3;have yJ:=hN1.below (hb3.mono hN1.hN);have g0:=hA2.cell 0;have g1:=hA2.cell 1;have g2:=hA2.cell 2;have g3:=hA2.cell 3;simp at g0 g1 g2 g3;have I9:=hA2.lt)
  (try simp only[Exit.inBlock,Exit.then])
  refine bodyPost_ret (results_tmp2 rfl _ _ _) rfl ?_;exact⟨by rw[Pg.out];rfl,hb1.trans (hb3.mono hb1.size)⟩
end
section
open Go Go.RowKit Lift
section
variable {N:Nat} {l:Lay} {b:aP} {w:World} (hbk:bU N l b w) (hs:b.Small) {day:Int}
include hbk hs
set_option maxHeartbeats 8000000 in
theorem Plan_un(hF:¬b.je (true=true) day=0):CallsIn Fz 0 Tryz.prog 31 #[.agg (l.cu b),.int .i64 day] w λe w'=>e=.returned (.tuple #[.slice none 0 0,.slice none 0 0,.int .i64 (b.je (true=true) day)])∧Below w.heap.size w w':=by
 have hb1:Below w.heap.size w (w.alloc (.cells (l.cu b) 27)):=(Below.refl _ w).alloc (ay _) _;have hb2:=hb1.alloc (by simp) (.cells #[.slice none 0 0] 44);have hb3:=hb2.alloc (by simp;omega) (.cells #[.slice none 0 0] 44);have hA:=((Blk.new w (l.cu b) 27).below ((Below.refl _ _).alloc (ay _) (.cells #[.slice none 0 0] 44))).below ((Below.refl _ _).alloc (ay _) (.cells #[.slice none 0 0] 44));have hC:=(Blk.new (w.alloc (.cells (l.cu b) 27)) #[.slice none 0 0] 44).below ((Below.refl _ _).alloc (ay _) (.cells #[.slice none 0 0] 44));have hP:=Blk.new ((w.alloc (.cells (l.cu b) 27)).alloc (.cells #[.slice none 0 0] 44)) #[.slice none 0 0] 44;simp only[World.size_alloc]at hC hP;have jk:=Jg (hbk.topR.below hb3) hs hF;generalize b.je (true=true) day=F at *;unfold Lay.cu at *;have a0:=hA.cell 0;have a1:=hA.cell 1;have a2:=hA.cell 2;have a3:=hA.cell 3;simp at a0 a1 a2 a3;gi_enter Tryz.func31,Tryz.ntmps31
 gi_wp2_with (gi_at_call 43;with_reducible refine jk.mono ?_;rintro e w2 ⟨rfl,MW⟩;have hbB:=(Below.refl w2.heap.size w2).alloc (ay _) (.cells #[.slice none 0 0,.slice none 0 0,.slice none 0 0,.slice none 0 0] 77);have hC4:=(hC.below MW).below hbB;have TJ:=(hP.below MW).below hbB;have c0:=hC4.cell 0;have c1:=hC4.frozen 0;have c2:=hC4.lt;have p0:=TJ.cell 0;have p1:=TJ.frozen 0;have p2:=TJ.lt;simp at c0 p0)
 rw[mF hC4,mF TJ]
 (try simp only[Exit.inBlock,Exit.then])
 refine bodyPost_ret (zY (fn:=Tryz.f31) (x:=⟨w.heap.size+1,0,none⟩) (y:=⟨w.heap.size+1+1,0,none⟩) rfl rfl rfl (Ic hC4) (Ic TJ)) rfl ?_;exact⟨rfl,hb3.trans ((MW.trans (hbB.mono MW.size)).mono hb3.size)⟩
set_option maxHeartbeats 8000000 in
theorem Ph{vc vp:Value}{proof:List Int}(hvp:bQ w vp proof)(hF:¬b.je (true=true) day=0):CallsIn Fz 0 Tryz.prog 33 #[.agg (l.cu b),.int .i64 day,vc,vp] w λe w'=>e=.returned (.tuple #[.bool false,.int .i64 (b.je (true=true) day)])∧Below w.heap.size w w':=by
 obtain⟨bp,op,kp,rfl,-⟩:=hvp;have hb1:Below w.heap.size w (w.alloc (.cells (l.cu b) 27)):=(Below.refl _ w).alloc (ay _) _;have hb2:=hb1.alloc (by simp) (.cells #[.slice bp proof.length kp] 44);have hA:=(Blk.new w (l.cu b) 27).below ((Below.refl _ _).alloc (ay _) (.cells #[.slice bp proof.length kp] 44));have jk:=Jg (hbk.topR.below hb2) hs hF;generalize b.je (true=true) day=F at *;unfold Lay.cu at *;have a0:=hA.cell 0;have a1:=hA.cell 1;have a2:=hA.cell 2;have a3:=hA.cell 3;simp at a0 a1 a2 a3;gi_enter Tryz.func33,Tryz.ntmps33
 gi_wp2;refine DX (λ_ _ _ h=>h) ?_
 gi_wp2_with (gi_at_call 43;with_reducible refine jk.mono ?_;rintro e w2 ⟨rfl,MW⟩)
 (try simp only[Exit.inBlock,Exit.then])
 refine bodyPost_ret (results_tmp2 rfl _ _ _) rfl ?_;have HB:=hb2.trans (MW.mono hb2.size);exact⟨rfl,HB.alloc HB.size _⟩
theorem RQ(hkd:bT w):CallsIn Fz 0 Tryz.prog 31 #[.agg (l.cu b),.int .i64 day] w λe w'=>∃v1 v2,e=.returned (.tuple #[v1,v2,.int .i64 (b.je (true=true) day)])∧∃cs ps,b.nX day cs ps∧w'.ownsRow w.heap.size 3 1 v1 cs.length (ints cs)∧w'.ownsRow w.heap.size 3 1 v2 ps.length (ints ps)∧Below w.heap.size w w':=by
 by_cases hF:b.je (true=true) day=0
 ·obtain⟨hf,-,hd⟩:=ER.1 hF;have hR:=b.pK.1 hf;have h:=Gs (hbk.to hR) hR.full hkd hd.1 hd.2;rw[aP.zk]at h;rw[hF];refine h.mono ?_;rintro e w' ⟨v1,v2,cs,ps,rfl,hpl,h1,h2,hb⟩;exact⟨v1,v2,rfl,gB cs,gB ps,by unfold aP.nX;rw[if_pos hF];exact⟨cs,ps,hpl,rfl,rfl⟩,by rw[dI];exact h1,by rw[dI];exact h2,hb⟩
 ·exact(Plan_un hbk hs hF).mono λe w' ⟨h1,h2⟩=>⟨_,_,h1,[],[],by unfold aP.nX;rw[if_neg hF];exact⟨rfl,rfl⟩,World.ownsRow_nil _ _ _ _,World.ownsRow_nil _ _ _ _,h2⟩
theorem LJ(hkd:bT w){vc vp:Value}{cases proof:List Int}(Hz:bQ w vc cases)(hvp:bQ w vp proof)(hnc:cases.length<1000000)(hnp:proof.length<1000000):CallsIn Fz 0 Tryz.prog 33 #[.agg (l.cu b),.int .i64 day,vc,vp] w λe w'=>e=.returned (.tuple #[.bool (b.pvA day cases proof),.int .i64 (b.je (true=true) day)])∧Below w.heap.size w w':=by
 by_cases hF:b.je (true=true) day=0
 ·obtain⟨hf,-,hd⟩:=ER.1 hF;have hR:=b.pK.1 hf;have h:=EP (hbk.to hR) hR.full hkd hd.1 hd.2 Hz hvp hnc hnp;rw[aP.zk]at h;rw[hF,show b.pvA day cases proof=b.to.proves (b.to.after day) day cases proof from if_pos hF];exact h
 ·rw[show b.pvA day cases proof=false from if_neg hF];exact Ph hbk hs hvp hF
end
end
