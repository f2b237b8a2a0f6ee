/- The specification's check of a payment, inside the fence. PRINTED BY A PROGRAM (m7.py). -/
import Derived.Test.YtccjdkghgbbliaaGreatDoorA11
set_option linter.all false
namespace Go.Proofs.YtccjdkghgbbliaaGreatDoor
section
set_option maxHeartbeats 1000000
set_option maxRecDepth 10000
open Go Go.RowKit Lift
theorem aO.JI(b:aO)(p:dI):b.fB p=0↔b.QY p:=by
 unfold aO.fB aO.QY
 repeat' split
 all_goals omega
inductive iI (b:aO) (dy am:Int):Int→Int→Int→Int→Prop
 |l0 {co cc:Int} (qc:0≤dy∧dy≤9999) (qd:1≤am∧am≤10000) (qe:0≤co∧co<b.aK.length) (qg:0≤cc∧cc<b.cs.length):iI b dy am 0 co cc 0
 |l1 {co cc:Int} (qc:0≤dy∧dy≤9999) (qd:1≤am∧am≤10000) (qe:0≤co∧co<b.aK.length) (qg:¬(0≤cc∧cc<b.cs.length)):iI b dy am 0 co cc 6
 |l2 {co:Int} (qc:0≤dy∧dy≤9999) (qd:1≤am∧am≤10000) (qe:0≤co∧co<b.aK.length):iI b dy am 1 co 0 0
 |l3 {co cc:Int} (qc:0≤dy∧dy≤9999) (qd:1≤am∧am≤10000) (qe:0≤co∧co<b.aK.length) (qf:¬cc=0):iI b dy am 1 co cc 1
 |l4 (c:Nat) {kc:Int} (qc:0≤dy∧dy≤9999) (qd:1≤am∧am≤10000) (qe:0≤kc∧kc<b.aK.length) (qg:0≤(c:Int)∧(c:Int)<b.cs.length) (hkc:(b.gy (b.aY c).tar.toNat).bg=kc):iI b dy am 2 kc c 0
 |l5 (c:Nat) {co kc:Int} (qc:0≤dy∧dy≤9999) (qd:1≤am∧am≤10000) (qe:0≤co∧co<b.aK.length) (qg:0≤(c:Int)∧(c:Int)<b.cs.length) (hkc:(b.gy (b.aY c).tar.toNat).bg=kc) (qh:¬co=kc):iI b dy am 2 co c 10
 |l6 {co cc:Int} (qc:0≤dy∧dy≤9999) (qd:1≤am∧am≤10000) (qe:0≤co∧co<b.aK.length) (qg:¬(0≤cc∧cc<b.cs.length)):iI b dy am 2 co cc 6
 |l7 {kd co cc:Int} (qa:¬kd<0) (qb:¬2<kd) (qc:0≤dy∧dy≤9999) (qd:1≤am∧am≤10000) (qe:¬(0≤co∧co<b.aK.length)):iI b dy am kd co cc 6
 |l8 {kd co cc:Int} (qa:¬kd<0) (qb:¬2<kd) (qc:0≤dy∧dy≤9999) (qd:¬(1≤am∧am≤10000)):iI b dy am kd co cc 1
 |l9 {kd co cc:Int} (qa:¬kd<0) (qb:¬2<kd) (qc:¬(0≤dy∧dy≤9999)):iI b dy am kd co cc 1
 |lA {kd co cc:Int} (qa:¬kd<0) (qb:2<kd):iI b dy am kd co cc 1
 |lB {kd co cc:Int} (qa:kd<0):iI b dy am kd co cc 1
theorem Oh(b:aO)(kd dy co am cc:Int):iI b dy am kd co cc (b.fB ⟨kd,dy,co,am,cc⟩):=by
 unfold aO.fB;dsimp only;by_cases h1:(0≤kd∧kd≤2)∧(0≤dy∧dy≤9999)∧(1≤am∧am≤10000)
 ·rw[if_neg (not_not_intro h1)];obtain⟨⟨qa,qb⟩,qc,qd⟩:=h1;by_cases qe:0≤co∧co<b.aK.length
  ·rw[if_neg (not_not_intro qe)];by_cases qf:kd=1
   ·subst qf;rw[if_pos rfl];by_cases qf:cc=0
    ·subst qf;exact .l2 qc qd qe
    ·rw[if_neg qf];exact .l3 qc qd qe qf
   ·rw[if_neg qf];by_cases qg:0≤cc∧cc<b.cs.length
    ·rw[if_neg (not_not_intro qg)];rcases(show kd=0∨kd=2 by omega)with rfl|rfl
     ·rw[if_neg (λq=>absurd q.1 (by decide))];exact .l0 qc qd qe qg
     ·obtain⟨c,rfl⟩:∃c:Nat,cc=c:=⟨cc.toNat,by omega⟩
      rw[Int.toNat_natCast];by_cases qh:co=(b.gy (b.aY c).tar.toNat).bg
      ·rw[if_neg (λq=>q.2 qh)];exact .l4 c qc qd qe qg qh.symm
      ·rw[if_pos ⟨rfl,qh⟩];exact .l5 c qc qd qe qg rfl qh
    ·rw[if_pos qg];rcases(show kd=0∨kd=2 by omega)with rfl|rfl
     ·exact .l1 qc qd qe qg
     ·exact .l6 qc qd qe qg
  ·rw[if_pos qe];exact .l7 (by omega) (by omega) qc qd qe
 ·rw[if_pos h1];by_cases qa:kd<0
  ·exact .lB qa
  ·by_cases qb:2<kd
   ·exact .lA qa qb
   ·by_cases qc:0≤dy∧dy≤9999
    ·exact .l8 qa qb qc λqd=>h1 ⟨by omega,qc,qd⟩
    ·exact .l9 qa qb qc
set_option maxRecDepth 1000000 in
set_option maxHeartbeats 64000000 in
theorem Ir{N:Nat}{l:Lay}{b:aO}{w:World}(hbk:bQ N l b w)(hc:b.aK.length<1000000)(hk:b.cs.length<1000000)(htar:∀c,c<b.cs.length→0≤(b.aY c).tar∧(b.aY c).tar<b.ts.length)(kd dy co am cc:Int) :
  CallsIn Fz 0 Tryz.prog 72 #[.agg (l.bn b),.agg #[.int .i64 kd,.int .i64 dy,.int .i64 co,.int .i64 am,.int .i64 cc]] w λe w'=>e=.returned (.int .i64 (b.fB ⟨kd,dy,co,am,cc⟩))∧Below w.heap.size w w':=by
 obtain⟨rH,vS,rM,sW,rJ,rQ,rO,rP⟩:=l;simp only[Lay.bn];have H:=Oh b kd dy co am cc;generalize b.fB ⟨kd,dy,co,am,cc⟩=fl at H ⊢;have hb1:Below w.heap.size w (w.alloc (.cells #[.slice rH b.aK.length rJ,.slice vS b.ts.length rQ,.slice rM b.cs.length rO,.slice sW b.ps.length rP] 27)):=(Below.refl _ w).alloc (ak _) _;have hb2:=(Below.refl (w.alloc (.cells #[.slice rH b.aK.length rJ,.slice vS b.ts.length rQ,.slice rM b.cs.length rO,.slice sW b.ps.length rP] 27)).heap.size (w.alloc (.cells #[.slice rH b.aK.length rJ,.slice vS b.ts.length rQ,.slice rM b.cs.length rO,.slice sW b.ps.length rP] 27))).alloc (ak _) (.cells #[.int .i64 kd,.int .i64 dy,.int .i64 co,.int .i64 am,.int .i64 cc] 93);have HB:=hb1.trans (hb2.mono hb1.size);have hA:=(Blk.new w #[.slice rH b.aK.length rJ,.slice vS b.ts.length rQ,.slice rM b.cs.length rO,.slice sW b.ps.length rP] 27).below hb2;have hX:=Blk.new (w.alloc (.cells #[.slice rH b.aK.length rJ,.slice vS b.ts.length rQ,.slice rM b.cs.length rO,.slice sW b.ps.length rP] 27)) #[.int .i64 kd,.int .i64 dy,.int .i64 co,.int .i64 am,.int .i64 cc] 93;rw[World.size_alloc]at hX;have hbkW:=hbk.below (HB.mono hbk.hN);clear hb1 hb2;rcases H with⟨qc,qd,qe,qg⟩|⟨qc,qd,qe,qg⟩|⟨qc,qd,qe⟩|⟨qc,qd,qe,qf⟩|⟨c,qc,qd,qe,qg,hkc⟩|⟨c,qc,qd,qe,qg,hkc,qh⟩|⟨qc,qd,qe,qg⟩|⟨qa,qb,qc,qd,qe⟩|⟨qa,qb,qc,qd⟩|⟨qa,qb,qc⟩|⟨qa,qb⟩|qa
 all_goals
  gi_enter Tryz.func72,Tryz.ntmps72
  gi_wp2_with (first
  |(gi_at_call 134;(first|with_reducible refine(GY dy _ qc).mono ?_|with_reducible refine(Uk dy _ qc).mono ?_);rintro e w5 ⟨rfl,rfl⟩)
  |(gi_at_call 76;(first|with_reducible refine(jM am 1 10000 _ qd).mono ?_|with_reducible refine(uH am 1 10000 _ qd).mono ?_);rintro e w5 ⟨rfl,rfl⟩)
  |(gi_at_call 133;(first|with_reducible refine(Ez (l:=⟨rH,vS,rM,sW,rJ,rQ,rO,rP⟩) (b:=b) qe hc).mono ?_|with_reducible refine(Ey (l:=⟨rH,vS,rM,sW,rJ,rQ,rO,rP⟩) (b:=b) qe hc).mono ?_);rintro e w5 ⟨rfl,hb5⟩;have hX5:=hX.below hb5;have Dl:=hA.below hb5;have x0:=hX5.cell 0;have x1:=hX5.cell 1;have x2:=hX5.cell 2;have x3:=hX5.cell 3;have x4:=hX5.cell 4;have a0:=Dl.cell 0;have a1:=Dl.cell 1;have a2:=Dl.cell 2;have a3:=Dl.cell 3;simp at x0 x1 x2 x3 x4 a0 a1 a2 a3;have ltX5:=hX5.lt;have ltA5:=Dl.lt)
  |(gi_at_call 135;(first|with_reducible refine(PD (l:=⟨rH,vS,rM,sW,rJ,rQ,rO,rP⟩) (b:=b) qg hk).mono ?_|with_reducible refine(Pz (l:=⟨rH,vS,rM,sW,rJ,rQ,rO,rP⟩) (b:=b) qg hk).mono ?_);rintro e w6 ⟨rfl,hb6⟩;have hX6:=hX5.below hb6;have hA6:=Dl.below hb6;clear x0 x1 x2 x3 x4 a0 a1 a2 a3))
  first
  |go_ret
   exact⟨rfl,by first|exact HB.trans ((hb5.trans (hb6.mono hb5.size)).mono HB.size)|exact HB.trans (hb5.mono HB.size)|exact HB⟩
  |have hbk6:=hbkW.below ((hb5.trans (hb6.mono hb5.size)).mono hbkW.hN)
   refine bJ (λw'=>Below w6.heap.size w6 w') rfl mixed (by kernel_rfl) (λd=>⟨rfl,rfl,rfl,ak _,λ_ _=>rfl⟩) ?_;simp only[aG,aC,aF,Nat.reduceAdd,Nat.zero_add,List.range,List.range.loop]
   iterate 12
    (first
    |(refine cZ rfl rfl (by decide) (λw f hf=>by first|(simp[Oper.about]at hf;done)|(simp[Oper.about,resolve,Deferred.ofValue,Target.leads,Act.eval,go_sem]at hf;subst hf;rfl)) rfl ?_)
    |(refine aS rfl rfl (by kernel_rfl) (.inr rfl) ?_
      apply ah;refine⟨λw' hw' K Q hK=>?_,?_⟩
      ·have q:=hX6.below hw';have q0:=q.cell 0;have q2:=q.cell 2;have q4:=q.cell 4;have rB:=hA6.below hw';have r0:=rB.cell 0;have r1:=rB.cell 1;have r2:=rB.cell 2;have r3:=rB.cell 3;simp at q0 q2 q4 r0 r1 r2 r3
       gi_wp2_with (gi_at_call 136;have Es:=RG (hbk6.below (hw'.mono hbk6.hN)) (show c<b.cs.length by omega) (htar c (by omega));rw[hkc]at Es;refine Es.mono ?_;rintro e w'' ⟨rfl,hb⟩)
       first|exact hw'|exact hw'.trans (hb.mono hw'.size)
      apply ah;refine⟨rfl,?_⟩))
   intro w7 hw7;gi_wp2;go_ret;exact⟨rfl,(HB.trans ((hb5.trans (hb6.mono hb5.size)).mono HB.size)).trans (hw7.mono (Nat.le_trans HB.size (Nat.le_trans hb5.size hb6.size)))⟩
end
section
set_option maxHeartbeats 1000000
set_option maxRecDepth 10000
open Go Go.RowKit Lift
section
variable {b:aO}
theorem Lh(hc:b.kD)(ht:b.qy)(hk:b.uG):b.mV=b.oL:=by unfold aO.mV;rw[if_pos (b.jo.2 hc),if_pos (b.mF.2 ht),if_pos (b.kX.2 hk)]
theorem flaw_k(hc:b.kD)(ht:b.qy)(hk:¬b.iV=0):b.mV=b.iV:=by unfold aO.mV;rw[if_pos (b.jo.2 hc),if_pos (b.mF.2 ht),if_neg hk]
theorem flaw_t(hc:b.kD)(ht:¬b.iG=0):b.mV=b.iG:=by unfold aO.mV;rw[if_pos (b.jo.2 hc),if_neg ht]
theorem flaw_c(hc:¬b.fA=0):b.mV=b.fA:=by unfold aO.mV;rw[if_neg hc]
theorem aO.Em(b:aO):b.mV=0↔b.Right:=by
 rw[aO.Qn,← b.jo,← b.mF,← b.kX];have hp:b.oL=0↔b.KA:=by
  unfold aO.oL aO.KA;rw[ng];exact and_congr Iff.rfl (forall_congr' λi=>imp_congr Iff.rfl (b.JI _))
 rw[← hp];unfold aO.mV;by_cases h1:b.fA=0
 ·rw[if_pos h1];by_cases h2:b.iG=0
  ·rw[if_pos h2];by_cases h3:b.iV=0
   ·rw[if_pos h3];exact⟨λq=>⟨h1,h2,h3,q⟩,λq=>q.2.2.2⟩
   ·rw[if_neg h3];exact⟨λq=>absurd q h3,λq=>absurd q.2.2.1 h3⟩
  ·rw[if_neg h2];exact⟨λq=>absurd q h2,λq=>absurd q.2.1 h2⟩
 ·rw[if_neg h1];exact⟨λq=>absurd q h1,λq=>absurd q.1 h1⟩
end
end
