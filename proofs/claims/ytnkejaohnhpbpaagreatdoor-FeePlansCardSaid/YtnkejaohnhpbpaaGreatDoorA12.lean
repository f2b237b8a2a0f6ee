/- The specification's check of a payment, inside the fence. PRINTED BY A PROGRAM (m7.py). -/
import Derived.Test.YtnkejaohnhpbpaaGreatDoorA11
set_option linter.all false
namespace Go.Proofs.YtnkejaohnhpbpaaGreatDoor
section
open Go Go.RowKit Lift
theorem aP.KG(b:aP)(p:dM):b.gq p=0↔b.RN p:=by
 unfold aP.gq aP.RN
 repeat' split
 all_goals omega
inductive jq (b:aP) (dy am:Int):Int→Int→Int→Int→Prop
 |l0 {co cc:Int} (qc:0≤dy∧dy≤9999) (qd:1≤am∧am≤10000) (qe:0≤co∧co<b.aJ.length) (qg:0≤cc∧cc<b.cs.length):jq b dy am 0 co cc 0
 |l1 {co cc:Int} (qc:0≤dy∧dy≤9999) (qd:1≤am∧am≤10000) (qe:0≤co∧co<b.aJ.length) (qg:¬(0≤cc∧cc<b.cs.length)):jq b dy am 0 co cc 6
 |l2 {co:Int} (qc:0≤dy∧dy≤9999) (qd:1≤am∧am≤10000) (qe:0≤co∧co<b.aJ.length):jq b dy am 1 co 0 0
 |l3 {co cc:Int} (qc:0≤dy∧dy≤9999) (qd:1≤am∧am≤10000) (qe:0≤co∧co<b.aJ.length) (qf:¬cc=0):jq b dy am 1 co cc 1
 |l4 (c:Nat) {kc:Int} (qc:0≤dy∧dy≤9999) (qd:1≤am∧am≤10000) (qe:0≤kc∧kc<b.aJ.length) (qg:0≤(c:Int)∧(c:Int)<b.cs.length) (hkc:(b.iw (b.aY c).tar.toNat).aN=kc):jq b dy am 2 kc c 0
 |l5 (c:Nat) {co kc:Int} (qc:0≤dy∧dy≤9999) (qd:1≤am∧am≤10000) (qe:0≤co∧co<b.aJ.length) (qg:0≤(c:Int)∧(c:Int)<b.cs.length) (hkc:(b.iw (b.aY c).tar.toNat).aN=kc) (qh:¬co=kc):jq b dy am 2 co c 10
 |l6 {co cc:Int} (qc:0≤dy∧dy≤9999) (qd:1≤am∧am≤10000) (qe:0≤co∧co<b.aJ.length) (qg:¬(0≤cc∧cc<b.cs.length)):jq b dy am 2 co cc 6
 |l7 {kd co cc:Int} (qa:¬kd<0) (qb:¬2<kd) (qc:0≤dy∧dy≤9999) (qd:1≤am∧am≤10000) (qe:¬(0≤co∧co<b.aJ.length)):jq b dy am kd co cc 6
 |l8 {kd co cc:Int} (qa:¬kd<0) (qb:¬2<kd) (qc:0≤dy∧dy≤9999) (qd:¬(1≤am∧am≤10000)):jq b dy am kd co cc 1
 |l9 {kd co cc:Int} (qa:¬kd<0) (qb:¬2<kd) (qc:¬(0≤dy∧dy≤9999)):jq b dy am kd co cc 1
 |lA {kd co cc:Int} (qa:¬kd<0) (qb:2<kd):jq b dy am kd co cc 1
 |lB {kd co cc:Int} (qa:kd<0):jq b dy am kd co cc 1
theorem OY(b:aP)(kd dy co am cc:Int):jq b dy am kd co cc (b.gq ⟨kd,dy,co,am,cc⟩):=by
 unfold aP.gq;dsimp only;by_cases h1:(0≤kd∧kd≤2)∧(0≤dy∧dy≤9999)∧(1≤am∧am≤10000)
 ·rw[if_neg (not_not_intro h1)];obtain⟨⟨qa,qb⟩,qc,qd⟩:=h1;by_cases qe:0≤co∧co<b.aJ.length
  ·rw[if_neg (not_not_intro qe)];by_cases qf:kd=1
   ·subst qf;rw[if_pos rfl];by_cases qf:cc=0
    ·subst qf;exact .l2 qc qd qe
    ·rw[if_neg qf];exact .l3 qc qd qe qf
   ·rw[if_neg qf];by_cases qg:0≤cc∧cc<b.cs.length
    ·rw[if_neg (not_not_intro qg)];rcases(show kd=0∨kd=2 by omega)with rfl|rfl
     ·rw[if_neg (λq=>absurd q.1 (by decide))];exact .l0 qc qd qe qg
     ·obtain⟨c,rfl⟩:∃c:Nat,cc=c:=⟨cc.toNat,by omega⟩
      rw[Int.toNat_natCast];by_cases qh:co=(b.iw (b.aY c).tar.toNat).aN
      ·rw[if_neg (λq=>q.2 qh)];exact .l4 c qc qd qe qg qh.symm
      ·rw[if_pos ⟨rfl,qh⟩];exact .l5 c qc qd qe qg rfl qh
    ·rw[if_pos qg];rcases(show kd=0∨kd=2 by omega)with rfl|rfl
     ·exact .l1 qc qd qe qg
     ·exact .l6 qc qd qe qg
  ·rw[if_pos qe];exact .l7 (by omega) (by omega) qc qd qe
 ·rw[if_pos h1];by_cases qa:kd<0
  ·exact .lB qa
  ·by_cases qb:2<kd
   ·exact .lA qa qb
   ·by_cases qc:0≤dy∧dy≤9999
    ·exact .l8 qa qb qc λqd=>h1 ⟨by omega,qc,qd⟩
    ·exact .l9 qa qb qc
set_option maxRecDepth 1000000 in
set_option maxHeartbeats 16000000 in
theorem Jj{N:Nat}{l:Lay}{b:aP}{w:World}(hbk:bU N l b w)(hc:b.aJ.length<1000000)(hk:b.cs.length<1000000)(htar:∀c,c<b.cs.length→0≤(b.aY c).tar∧(b.aY c).tar<b.ts.length)(kd dy co am cc:Int) :
  CallsIn Fz 0 Tryz.prog 56 #[.agg (l.cu b),.agg #[.int .i64 kd,.int .i64 dy,.int .i64 co,.int .i64 am,.int .i64 cc]] w λe w'=>e=.returned (.int .i64 (b.gq ⟨kd,dy,co,am,cc⟩))∧Below w.heap.size w w':=by
 obtain⟨uj,xC,uo,uZ,um,uy,uq,uw⟩:=l;simp only[Lay.cu];have H:=OY b kd dy co am cc;generalize b.gq ⟨kd,dy,co,am,cc⟩=fl at H ⊢;have hb1:Below w.heap.size w (w.alloc (.cells #[.slice uj b.aJ.length um,.slice xC b.ts.length uy,.slice uo b.cs.length uq,.slice uZ b.ps.length uw] 27)):=(Below.refl _ w).alloc (ay _) _;have hb2:=(Below.refl (w.alloc (.cells #[.slice uj b.aJ.length um,.slice xC b.ts.length uy,.slice uo b.cs.length uq,.slice uZ b.ps.length uw] 27)).heap.size (w.alloc (.cells #[.slice uj b.aJ.length um,.slice xC b.ts.length uy,.slice uo b.cs.length uq,.slice uZ b.ps.length uw] 27))).alloc (ay _) (.cells #[.int .i64 kd,.int .i64 dy,.int .i64 co,.int .i64 am,.int .i64 cc] 56);have HB:=hb1.trans (hb2.mono hb1.size);have hA:=(Blk.new w #[.slice uj b.aJ.length um,.slice xC b.ts.length uy,.slice uo b.cs.length uq,.slice uZ b.ps.length uw] 27).below hb2;have hX:=Blk.new (w.alloc (.cells #[.slice uj b.aJ.length um,.slice xC b.ts.length uy,.slice uo b.cs.length uq,.slice uZ b.ps.length uw] 27)) #[.int .i64 kd,.int .i64 dy,.int .i64 co,.int .i64 am,.int .i64 cc] 56;rw[World.size_alloc]at hX;have hbkW:=hbk.below (HB.mono hbk.hN);clear hb1 hb2;rcases H with⟨qc,qd,qe,qg⟩|⟨qc,qd,qe,qg⟩|⟨qc,qd,qe⟩|⟨qc,qd,qe,qf⟩|⟨c,qc,qd,qe,qg,hkc⟩|⟨c,qc,qd,qe,qg,hkc,qh⟩|⟨qc,qd,qe,qg⟩|⟨qa,qb,qc,qd,qe⟩|⟨qa,qb,qc,qd⟩|⟨qa,qb,qc⟩|⟨qa,qb⟩|qa
 all_goals
  gi_enter Tryz.func56,Tryz.ntmps56
  gi_wp2_with (first
  |(gi_at_call 47;(first|with_reducible refine(tH dy _ qc).mono ?_|with_reducible refine(IG dy _ qc).mono ?_);rintro e w5 ⟨rfl,rfl⟩)
  |(gi_at_call 78;(first|with_reducible refine(kW am 1 10000 _ qd).mono ?_|with_reducible refine(wz am 1 10000 _ qd).mono ?_);rintro e w5 ⟨rfl,rfl⟩)
  |(gi_at_call 61;(first|with_reducible refine(Fq (l:=⟨uj,xC,uo,uZ,um,uy,uq,uw⟩) (b:=b) qe hc).mono ?_|with_reducible refine(Fp (l:=⟨uj,xC,uo,uZ,um,uy,uq,uw⟩) (b:=b) qe hc).mono ?_);rintro e w5 ⟨rfl,hb5⟩;have hX5:=hX.below hb5;have zG:=hA.below hb5;have x0:=hX5.cell 0;have x1:=hX5.cell 1;have x2:=hX5.cell 2;have x3:=hX5.cell 3;have x4:=hX5.cell 4;have a0:=zG.cell 0;have a1:=zG.cell 1;have a2:=zG.cell 2;have a3:=zG.cell 3;simp at x0 x1 x2 x3 x4 a0 a1 a2 a3;have ltX5:=hX5.lt;have ltA5:=zG.lt)
  |(gi_at_call 77;(first|with_reducible refine(Fj (l:=⟨uj,xC,uo,uZ,um,uy,uq,uw⟩) (b:=b) qg hk).mono ?_|with_reducible refine(Fh (l:=⟨uj,xC,uo,uZ,um,uy,uq,uw⟩) (b:=b) qg hk).mono ?_);rintro e w6 ⟨rfl,hb6⟩;have hX6:=hX5.below hb6;have Lp:=zG.below hb6;clear x0 x1 x2 x3 x4 a0 a1 a2 a3))
  first
  |go_ret
   exact⟨rfl,by first|exact HB.trans ((hb5.trans (hb6.mono hb5.size)).mono HB.size)|exact HB.trans (hb5.mono HB.size)|exact HB⟩
  |have hbk6:=hbkW.below ((hb5.trans (hb6.mono hb5.size)).mono hbkW.hN)
   refine cO (λw'=>Below w6.heap.size w6 w') rfl mixed (by kernel_rfl) (λd=>⟨rfl,rfl,rfl,ay _,λ_ _=>rfl⟩) ?_;simp only[aC,aB,aF,Nat.reduceAdd,Nat.zero_add,List.range,List.range.loop]
   iterate 12
    (first
    |(refine dD rfl rfl (by decide) (λw f hf=>by first|(simp[Oper.about]at hf;done)|(simp[Oper.about,resolve,Deferred.ofValue,Target.leads,Act.eval,go_sem]at hf;subst hf;rfl)) rfl ?_)
    |(refine aX rfl rfl (by kernel_rfl) (.inr rfl) ?_
      apply ah;refine⟨λw' hw' K Q hK=>?_,?_⟩
      ·have q:=hX6.below hw';have q0:=q.cell 0;have q2:=q.cell 2;have q4:=q.cell 4;have rB:=Lp.below hw';have r0:=rB.cell 0;have r1:=rB.cell 1;have r2:=rB.cell 2;have r3:=rB.cell 3;simp at q0 q2 q4 r0 r1 r2 r3
       gi_wp2_with (gi_at_call 62;have jC:=SN (hbk6.below (hw'.mono hbk6.hN)) (show c<b.cs.length by omega) (htar c (by omega));rw[hkc]at jC;refine jC.mono ?_;rintro e w'' ⟨rfl,hb⟩)
       first|exact hw'|exact hw'.trans (hb.mono hw'.size)
      apply ah;refine⟨rfl,?_⟩))
   intro w7 hw7;gi_wp2;go_ret;exact⟨rfl,(HB.trans ((hb5.trans (hb6.mono hb5.size)).mono HB.size)).trans (hw7.mono (Nat.le_trans HB.size (Nat.le_trans hb5.size hb6.size)))⟩
end
section
open Go Go.RowKit Lift
section
variable {b:aP}
theorem MP(hc:b.lW)(ht:b.rV)(hk:b.wu):b.iY=b.qC:=by unfold aP.iY;rw[if_pos (b.jR.2 hc),if_pos (b.ou.2 ht),if_pos (b.nC.2 hk)]
theorem flaw_k(hc:b.lW)(ht:b.rV)(hk:¬b.jB=0):b.iY=b.jB:=by unfold aP.iY;rw[if_pos (b.jR.2 hc),if_pos (b.ou.2 ht),if_neg hk]
theorem flaw_t(hc:b.lW)(ht:¬b.jm=0):b.iY=b.jm:=by unfold aP.iY;rw[if_pos (b.jR.2 hc),if_neg ht]
theorem flaw_c(hc:¬b.fV=0):b.iY=b.fV:=by unfold aP.iY;rw[if_neg hc]
theorem aP.pK(b:aP):b.iY=0↔b.Right:=by
 rw[aP.QS,← b.jR,← b.ou,← b.nC];have hp:b.qC=0↔b.LG:=by
  unfold aP.qC aP.LG;rw[oJ];exact and_congr Iff.rfl (forall_congr' λi=>imp_congr Iff.rfl (b.KG _))
 rw[← hp];unfold aP.iY;by_cases h1:b.fV=0
 ·rw[if_pos h1];by_cases h2:b.jm=0
  ·rw[if_pos h2];by_cases h3:b.jB=0
   ·rw[if_pos h3];exact⟨λq=>⟨h1,h2,h3,q⟩,λq=>q.2.2.2⟩
   ·rw[if_neg h3];exact⟨λq=>absurd q h3,λq=>absurd q.2.2.1 h3⟩
  ·rw[if_neg h2];exact⟨λq=>absurd q h2,λq=>absurd q.2.1 h2⟩
 ·rw[if_neg h1];exact⟨λq=>absurd q h1,λq=>absurd q.1 h1⟩
end
end
