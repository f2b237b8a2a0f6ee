/- The specification's check of a payment, inside the fence. PRINTED BY A PROGRAM (m7.py). -/
import Derived.Test.YtnkejaohnhpbpaaGreatDoorA05
import Derived.Test.YtnkejaohnhpbpaaGreatDoorA11
set_option linter.all false
section
namespace Go.Proofs.YtnkejaohnhpbpaaGreatDoor
open Go Go.RowKit Lift
theorem aN.FW(b:aN)(p:dS):b.dn p=0↔b.MH p:=by
 unfold aN.dn aN.MH;by_cases h1:(0≤p.kind∧p.kind≤2)∧(0≤p.day∧p.day≤9999)∧(1≤p.amount∧p.amount≤10000)
 ·rw[if_neg (not_not_intro h1)];by_cases h2:0≤p.aS∧p.aS<b.coins.length
  ·rw[if_neg (not_not_intro h2)];by_cases h3:p.kind=1
   ·rw[if_pos h3];by_cases h4:p.cas=0
    ·rw[if_pos h4];exact⟨λ_=>⟨h1.1,h1.2.1,h1.2.2,h2,λ_=>h4,λq=>absurd h3 q,λq=>by omega⟩,λ_=>rfl⟩
    ·rw[if_neg h4];exact⟨λq=>by omega,λq=>absurd (q.2.2.2.2.1 h3) h4⟩
   ·rw[if_neg h3];by_cases h4:0≤p.cas∧p.cas<b.cs.length
    ·rw[if_neg (not_not_intro h4)];by_cases h5:p.kind=2∧p.aS≠(b.fQ (b.aV p.cas.toNat).tar.toNat).aS
     ·rw[if_pos h5];exact⟨λq=>by omega,λq=>absurd (q.2.2.2.2.2.2 h5.1) h5.2⟩
     ·rw[if_neg h5];exact⟨λ_=>⟨h1.1,h1.2.1,h1.2.2,h2,λq=>absurd q h3,λ_=>h4,λq=>Classical.byContradiction λk=>h5 ⟨q,k⟩⟩,λ_=>rfl⟩
    ·rw[if_pos h4];exact⟨λq=>by omega,λq=>absurd (q.2.2.2.2.2.1 h3) h4⟩
  ·rw[if_pos h2];exact⟨λq=>by omega,λq=>absurd q.2.2.2.1 h2⟩
 ·rw[if_pos h1];exact⟨λq=>by omega,λq=>absurd ⟨q.1,q.2.1,q.2.2.1⟩ h1⟩
section
variable {b:aN} {p:dS}
theorem pf1(h:¬((0≤p.kind∧p.kind≤2)∧(0≤p.day∧p.day≤9999)∧(1≤p.amount∧p.amount≤10000))):b.dn p=1:=by unfold aN.dn;rw[if_pos h]
theorem pf2(h1:(0≤p.kind∧p.kind≤2)∧(0≤p.day∧p.day≤9999)∧(1≤p.amount∧p.amount≤10000))(h:¬(0≤p.aS∧p.aS<b.coins.length)):b.dn p=6:=by unfold aN.dn;rw[if_neg (not_not_intro h1),if_pos h]
theorem pf3(h1:(0≤p.kind∧p.kind≤2)∧(0≤p.day∧p.day≤9999)∧(1≤p.amount∧p.amount≤10000))(h2:0≤p.aS∧p.aS<b.coins.length)(h3:p.kind=1)(h4:p.cas=0):b.dn p=0:=by
 unfold aN.dn;rw[if_neg (not_not_intro h1),if_neg (not_not_intro h2),if_pos h3,if_pos h4]
theorem pf4(h1:(0≤p.kind∧p.kind≤2)∧(0≤p.day∧p.day≤9999)∧(1≤p.amount∧p.amount≤10000))(h2:0≤p.aS∧p.aS<b.coins.length)(h3:p.kind=1)(h4:¬p.cas=0):b.dn p=1:=by
 unfold aN.dn;rw[if_neg (not_not_intro h1),if_neg (not_not_intro h2),if_pos h3,if_neg h4]
theorem pf5(h1:(0≤p.kind∧p.kind≤2)∧(0≤p.day∧p.day≤9999)∧(1≤p.amount∧p.amount≤10000))(h2:0≤p.aS∧p.aS<b.coins.length)(h3:¬p.kind=1)(h4:¬(0≤p.cas∧p.cas<b.cs.length)):b.dn p=6:=by
 unfold aN.dn;rw[if_neg (not_not_intro h1),if_neg (not_not_intro h2),if_neg h3,if_pos h4]
theorem pf6(h1:(0≤p.kind∧p.kind≤2)∧(0≤p.day∧p.day≤9999)∧(1≤p.amount∧p.amount≤10000))(h2:0≤p.aS∧p.aS<b.coins.length)(h3:¬p.kind=1)(h4:0≤p.cas∧p.cas<b.cs.length)(h5:p.kind=2∧p.aS≠(b.fQ (b.aV p.cas.toNat).tar.toNat).aS):b.dn p=10:=by
 unfold aN.dn;rw[if_neg (not_not_intro h1),if_neg (not_not_intro h2),if_neg h3,if_neg (not_not_intro h4),if_pos h5]
theorem pf7(h1:(0≤p.kind∧p.kind≤2)∧(0≤p.day∧p.day≤9999)∧(1≤p.amount∧p.amount≤10000))(h2:0≤p.aS∧p.aS<b.coins.length)(h3:¬p.kind=1)(h4:0≤p.cas∧p.cas<b.cs.length)(h5:¬(p.kind=2∧p.aS≠(b.fQ (b.aV p.cas.toNat).tar.toNat).aS)):b.dn p=0:=by
 unfold aN.dn;rw[if_neg (not_not_intro h1),if_neg (not_not_intro h2),if_neg h3,if_neg (not_not_intro h4),if_neg h5]
end
set_option maxRecDepth 1000000 in
set_option maxHeartbeats 16000000 in
theorem Ez{N:Nat}{l:Lay}{b:aN}{w:World}(hbk:bV N l b w)(hc:b.coins.length<1000000)(hk:b.cs.length<1000000)(htar:∀c,c<b.cs.length→0≤(b.aV c).tar∧(b.aV c).tar<b.ts.length)(kd dy co am cc:Int) :
  CallsIn Fz 0 Tryz.prog 56 #[.agg (l.bY b),.agg #[.int .i64 kd,.int .i64 dy,.int .i64 co,.int .i64 am,.int .i64 cc]] w λe w'=>e=.returned (.int .i64 (b.dn ⟨kd,dy,co,am,cc⟩))∧Below w.heap.size w w':=by
 obtain⟨xcb,xtb,xkb,xpb,xcc,xtc,xkc,xpc⟩:=l;simp only[Lay.bY];by_cases qa:0≤kd
 ·have ra:¬(kd<0):=by omega
  by_cases qb:kd≤2
  ·have rb:¬(2<kd):=by omega
   by_cases qc:0≤dy∧dy≤9999
   ·by_cases qd:1≤am∧am≤10000
    ·by_cases qe:0≤co∧co<b.coins.length
     ·rcases(show kd=0∨kd=1∨kd=2 by omega)with rfl|rfl|rfl
      ·by_cases qg:0≤cc∧cc<b.cs.length
       ·have hb1:Below w.heap.size w (w.alloc (.cells #[.slice xcb b.coins.length xcc,.slice xtb b.ts.length xtc,.slice xkb b.cs.length xkc,.slice xpb b.ps.length xpc] 27)):=(Below.refl _ w).alloc (ay _) _;have hb2:Below (w.alloc (.cells #[.slice xcb b.coins.length xcc,.slice xtb b.ts.length xtc,.slice xkb b.cs.length xkc,.slice xpb b.ps.length xpc] 27)).heap.size (w.alloc (.cells #[.slice xcb b.coins.length xcc,.slice xtb b.ts.length xtc,.slice xkb b.cs.length xkc,.slice xpb b.ps.length xpc] 27)) ((w.alloc (.cells #[.slice xcb b.coins.length xcc,.slice xtb b.ts.length xtc,.slice xkb b.cs.length xkc,.slice xpb b.ps.length xpc] 27)).alloc (.cells #[.int .i64 0,.int .i64 dy,.int .i64 co,.int .i64 am,.int .i64 cc] 56)):=(Below.refl _ _).alloc (ay _) _;have HB:=hb1.trans (hb2.mono hb1.size);have hA:=(Blk.new w #[.slice xcb b.coins.length xcc,.slice xtb b.ts.length xtc,.slice xkb b.cs.length xkc,.slice xpb b.ps.length xpc] 27).below hb2;have hX:=Blk.new (w.alloc (.cells #[.slice xcb b.coins.length xcc,.slice xtb b.ts.length xtc,.slice xkb b.cs.length xkc,.slice xpb b.ps.length xpc] 27)) #[.int .i64 0,.int .i64 dy,.int .i64 co,.int .i64 am,.int .i64 cc] 56;rw[World.size_alloc]at hX;have hbkW:=hbk.below (HB.mono hbk.hN);clear hb1 hb2;gi_enter Tryz.func56,Tryz.ntmps56
        gi_wp2_with (first|(gi_at_call 47;with_reducible refine(jU dy _ qc).mono ?_;rintro e w5 ⟨rfl,rfl⟩)|(gi_at_call 78;with_reducible refine(jg am 1 10000 _ qd).mono ?_;rintro e w5 ⟨rfl,rfl⟩)|(gi_at_call 61;with_reducible refine(iG (l:=⟨xcb,xtb,xkb,xpb,xcc,xtc,xkc,xpc⟩) (b:=b) qe hc).mono ?_;rintro e w5 ⟨rfl,hb5⟩;have hX5:=hX.below hb5;have hA5:=hA.below hb5;have x0:=hX5.cell 0;have x1:=hX5.cell 1;have x2:=hX5.cell 2;have x3:=hX5.cell 3;have x4:=hX5.cell 4;have a0:=hA5.cell 0;have a1:=hA5.cell 1;have a2:=hA5.cell 2;have a3:=hA5.cell 3;simp at x0 x1 x2 x3 x4 a0 a1 a2 a3;have ltX5:=hX5.lt;have ltA5:=hA5.lt)|(gi_at_call 77;with_reducible refine(wC (l:=⟨xcb,xtb,xkb,xpb,xcc,xtc,xkc,xpc⟩) (b:=b) qg hk).mono ?_;rintro e w6 ⟨rfl,hb6⟩;have hX6:=hX5.below hb6;have hA6:=hA5.below hb6;clear x0 x1 x2 x3 x4 a0 a1 a2 a3))
        refine bG (λw'=>Below w6.heap.size w6 w') rfl mixed (by kernel_rfl) (λd=>⟨rfl,rfl,rfl,ay _,λ_ _=>rfl⟩) ?_;simp only[aF,aC,aH,Nat.reduceAdd,Nat.zero_add,List.range,List.range.loop];refine aI rfl rfl (by decide) ?_;apply ah;refine⟨λT w' hw' K Q hK=>?_,?_⟩
        ·gi_wp2;exact hw'
        apply ah;refine⟨rfl,?_⟩;refine aT rfl rfl (by kernel_rfl) (.inr rfl) ?_;apply ah;refine⟨λw' hw' K Q hK=>?_,?_⟩
        ·have q:=hX6.below hw';have q0:=q.cell 0;have q2:=q.cell 2;have q4:=q.cell 4;have rB:=hA6.below hw';have r0:=rB.cell 0;have r1:=rB.cell 1;have r2:=rB.cell 2;have r3:=rB.cell 3;simp at q0 q2 q4 r0 r1 r2 r3;gi_wp2;exact hw'
        iterate 2
         apply ah;refine⟨rfl,?_⟩;refine aI rfl rfl (by decide) ?_;apply ah;refine⟨λT w' hw' K Q hK=>?_,?_⟩
         ·gi_wp2;exact hw'
        apply ah;refine⟨rfl,?_⟩
        iterate 5
         refine bn rfl rfl (by decide) (λw f hf=>by simp[Oper.about]at hf) rfl ?_
        refine bn rfl rfl (by decide) (λw f hf=>by
         simp[Oper.about,resolve,Deferred.ofValue,Target.leads,Act.eval,go_sem]at hf;subst hf;rfl) rfl ?_
        refine bn rfl rfl (by decide) (λw f hf=>by simp[Oper.about]at hf) rfl ?_;refine aI rfl rfl (by decide) ?_;apply ah;refine⟨λT w' hw' K Q hK=>?_,?_⟩
        ·gi_wp2;exact hw'
        apply ah;refine⟨rfl,?_⟩;intro w7 hw7;gi_wp2;go_ret;exact⟨by rw[pf7 ⟨⟨qa,qb⟩,qc,qd⟩ qe (show¬(0:Int)=1 by decide) qg (λq=>absurd q.1 (show¬(0:Int)=2 by decide))];rfl,(HB.trans ((hb5.trans (hb6.mono hb5.size)).mono HB.size)).trans (hw7.mono (Nat.le_trans HB.size (Nat.le_trans hb5.size hb6.size)))⟩
       ·have hb1:Below w.heap.size w (w.alloc (.cells #[.slice xcb b.coins.length xcc,.slice xtb b.ts.length xtc,.slice xkb b.cs.length xkc,.slice xpb b.ps.length xpc] 27)):=(Below.refl _ w).alloc (ay _) _;have hb2:Below (w.alloc (.cells #[.slice xcb b.coins.length xcc,.slice xtb b.ts.length xtc,.slice xkb b.cs.length xkc,.slice xpb b.ps.length xpc] 27)).heap.size (w.alloc (.cells #[.slice xcb b.coins.length xcc,.slice xtb b.ts.length xtc,.slice xkb b.cs.length xkc,.slice xpb b.ps.length xpc] 27)) ((w.alloc (.cells #[.slice xcb b.coins.length xcc,.slice xtb b.ts.length xtc,.slice xkb b.cs.length xkc,.slice xpb b.ps.length xpc] 27)).alloc (.cells #[.int .i64 0,.int .i64 dy,.int .i64 co,.int .i64 am,.int .i64 cc] 56)):=(Below.refl _ _).alloc (ay _) _;have HB:=hb1.trans (hb2.mono hb1.size);have hA:=(Blk.new w #[.slice xcb b.coins.length xcc,.slice xtb b.ts.length xtc,.slice xkb b.cs.length xkc,.slice xpb b.ps.length xpc] 27).below hb2;have hX:=Blk.new (w.alloc (.cells #[.slice xcb b.coins.length xcc,.slice xtb b.ts.length xtc,.slice xkb b.cs.length xkc,.slice xpb b.ps.length xpc] 27)) #[.int .i64 0,.int .i64 dy,.int .i64 co,.int .i64 am,.int .i64 cc] 56;rw[World.size_alloc]at hX;have hbkW:=hbk.below (HB.mono hbk.hN);clear hb1 hb2;gi_enter Tryz.func56,Tryz.ntmps56
        gi_wp2_with (first|(gi_at_call 47;with_reducible refine(jU dy _ qc).mono ?_;rintro e w5 ⟨rfl,rfl⟩)|(gi_at_call 78;with_reducible refine(jg am 1 10000 _ qd).mono ?_;rintro e w5 ⟨rfl,rfl⟩)|(gi_at_call 61;with_reducible refine(iG (l:=⟨xcb,xtb,xkb,xpb,xcc,xtc,xkc,xpc⟩) (b:=b) qe hc).mono ?_;rintro e w5 ⟨rfl,hb5⟩;have hX5:=hX.below hb5;have hA5:=hA.below hb5;have x0:=hX5.cell 0;have x1:=hX5.cell 1;have x2:=hX5.cell 2;have x3:=hX5.cell 3;have x4:=hX5.cell 4;have a0:=hA5.cell 0;have a1:=hA5.cell 1;have a2:=hA5.cell 2;have a3:=hA5.cell 3;simp at x0 x1 x2 x3 x4 a0 a1 a2 a3;have ltX5:=hX5.lt;have ltA5:=hA5.lt)|(gi_at_call 77;with_reducible refine(BJ (l:=⟨xcb,xtb,xkb,xpb,xcc,xtc,xkc,xpc⟩) (b:=b) qg hk).mono ?_;rintro e w6 ⟨rfl,hb6⟩))
        go_ret;exact⟨by rw[pf5 ⟨⟨qa,qb⟩,qc,qd⟩ qe (show¬(0:Int)=1 by decide) qg];rfl,HB.trans ((hb5.trans (hb6.mono hb5.size)).mono HB.size)⟩
      ·by_cases qf:cc=0
       ·subst qf;have hb1:Below w.heap.size w (w.alloc (.cells #[.slice xcb b.coins.length xcc,.slice xtb b.ts.length xtc,.slice xkb b.cs.length xkc,.slice xpb b.ps.length xpc] 27)):=(Below.refl _ w).alloc (ay _) _;have hb2:Below (w.alloc (.cells #[.slice xcb b.coins.length xcc,.slice xtb b.ts.length xtc,.slice xkb b.cs.length xkc,.slice xpb b.ps.length xpc] 27)).heap.size (w.alloc (.cells #[.slice xcb b.coins.length xcc,.slice xtb b.ts.length xtc,.slice xkb b.cs.length xkc,.slice xpb b.ps.length xpc] 27)) ((w.alloc (.cells #[.slice xcb b.coins.length xcc,.slice xtb b.ts.length xtc,.slice xkb b.cs.length xkc,.slice xpb b.ps.length xpc] 27)).alloc (.cells #[.int .i64 1,.int .i64 dy,.int .i64 co,.int .i64 am,.int .i64 0] 56)):=(Below.refl _ _).alloc (ay _) _;have HB:=hb1.trans (hb2.mono hb1.size);have hA:=(Blk.new w #[.slice xcb b.coins.length xcc,.slice xtb b.ts.length xtc,.slice xkb b.cs.length xkc,.slice xpb b.ps.length xpc] 27).below hb2;have hX:=Blk.new (w.alloc (.cells #[.slice xcb b.coins.length xcc,.slice xtb b.ts.length xtc,.slice xkb b.cs.length xkc,.slice xpb b.ps.length xpc] 27)) #[.int .i64 1,.int .i64 dy,.int .i64 co,.int .i64 am,.int .i64 0] 56;rw[World.size_alloc]at hX;have hbkW:=hbk.below (HB.mono hbk.hN);clear hb1 hb2;gi_enter Tryz.func56,Tryz.ntmps56
        gi_wp2_with (first|(gi_at_call 47;with_reducible refine(jU dy _ qc).mono ?_;rintro e w5 ⟨rfl,rfl⟩)|(gi_at_call 78;with_reducible refine(jg am 1 10000 _ qd).mono ?_;rintro e w5 ⟨rfl,rfl⟩)|(gi_at_call 61;with_reducible refine(iG (l:=⟨xcb,xtb,xkb,xpb,xcc,xtc,xkc,xpc⟩) (b:=b) qe hc).mono ?_;rintro e w5 ⟨rfl,hb5⟩;have hX5:=hX.below hb5;have hA5:=hA.below hb5;have x0:=hX5.cell 0;have x1:=hX5.cell 1;have x2:=hX5.cell 2;have x3:=hX5.cell 3;have x4:=hX5.cell 4;have a0:=hA5.cell 0;have a1:=hA5.cell 1;have a2:=hA5.cell 2;have a3:=hA5.cell 3;simp at x0 x1 x2 x3 x4 a0 a1 a2 a3;have ltX5:=hX5.lt;have ltA5:=hA5.lt))
        go_ret;exact⟨by rw[pf3 ⟨⟨qa,qb⟩,qc,qd⟩ qe rfl rfl];rfl,HB.trans (hb5.mono HB.size)⟩
       ·have hb1:Below w.heap.size w (w.alloc (.cells #[.slice xcb b.coins.length xcc,.slice xtb b.ts.length xtc,.slice xkb b.cs.length xkc,.slice xpb b.ps.length xpc] 27)):=(Below.refl _ w).alloc (ay _) _;have hb2:Below (w.alloc (.cells #[.slice xcb b.coins.length xcc,.slice xtb b.ts.length xtc,.slice xkb b.cs.length xkc,.slice xpb b.ps.length xpc] 27)).heap.size (w.alloc (.cells #[.slice xcb b.coins.length xcc,.slice xtb b.ts.length xtc,.slice xkb b.cs.length xkc,.slice xpb b.ps.length xpc] 27)) ((w.alloc (.cells #[.slice xcb b.coins.length xcc,.slice xtb b.ts.length xtc,.slice xkb b.cs.length xkc,.slice xpb b.ps.length xpc] 27)).alloc (.cells #[.int .i64 1,.int .i64 dy,.int .i64 co,.int .i64 am,.int .i64 cc] 56)):=(Below.refl _ _).alloc (ay _) _;have HB:=hb1.trans (hb2.mono hb1.size);have hA:=(Blk.new w #[.slice xcb b.coins.length xcc,.slice xtb b.ts.length xtc,.slice xkb b.cs.length xkc,.slice xpb b.ps.length xpc] 27).below hb2;have hX:=Blk.new (w.alloc (.cells #[.slice xcb b.coins.length xcc,.slice xtb b.ts.length xtc,.slice xkb b.cs.length xkc,.slice xpb b.ps.length xpc] 27)) #[.int .i64 1,.int .i64 dy,.int .i64 co,.int .i64 am,.int .i64 cc] 56;rw[World.size_alloc]at hX;have hbkW:=hbk.below (HB.mono hbk.hN);clear hb1 hb2;gi_enter Tryz.func56,Tryz.ntmps56
        gi_wp2_with (first|(gi_at_call 47;with_reducible refine(jU dy _ qc).mono ?_;rintro e w5 ⟨rfl,rfl⟩)|(gi_at_call 78;with_reducible refine(jg am 1 10000 _ qd).mono ?_;rintro e w5 ⟨rfl,rfl⟩)|(gi_at_call 61;with_reducible refine(iG (l:=⟨xcb,xtb,xkb,xpb,xcc,xtc,xkc,xpc⟩) (b:=b) qe hc).mono ?_;rintro e w5 ⟨rfl,hb5⟩;have hX5:=hX.below hb5;have hA5:=hA.below hb5;have x0:=hX5.cell 0;have x1:=hX5.cell 1;have x2:=hX5.cell 2;have x3:=hX5.cell 3;have x4:=hX5.cell 4;have a0:=hA5.cell 0;have a1:=hA5.cell 1;have a2:=hA5.cell 2;have a3:=hA5.cell 3;simp at x0 x1 x2 x3 x4 a0 a1 a2 a3;have ltX5:=hX5.lt;have ltA5:=hA5.lt))
        go_ret;exact⟨by rw[pf4 ⟨⟨qa,qb⟩,qc,qd⟩ qe rfl qf];rfl,HB.trans (hb5.mono HB.size)⟩
      ·by_cases qg:0≤cc∧cc<b.cs.length
       ·obtain⟨c,rfl⟩:∃c:Nat,cc=c:=⟨cc.toNat,by omega⟩
        have hcc:c<b.cs.length:=by omega
        obtain⟨kc,hkc⟩:∃kc,(b.fQ (b.aV c).tar.toNat).aS=kc:=⟨_,rfl⟩
        by_cases qh:co=kc
        ·subst qh;have hb1:Below w.heap.size w (w.alloc (.cells #[.slice xcb b.coins.length xcc,.slice xtb b.ts.length xtc,.slice xkb b.cs.length xkc,.slice xpb b.ps.length xpc] 27)):=(Below.refl _ w).alloc (ay _) _;have hb2:Below (w.alloc (.cells #[.slice xcb b.coins.length xcc,.slice xtb b.ts.length xtc,.slice xkb b.cs.length xkc,.slice xpb b.ps.length xpc] 27)).heap.size (w.alloc (.cells #[.slice xcb b.coins.length xcc,.slice xtb b.ts.length xtc,.slice xkb b.cs.length xkc,.slice xpb b.ps.length xpc] 27)) ((w.alloc (.cells #[.slice xcb b.coins.length xcc,.slice xtb b.ts.length xtc,.slice xkb b.cs.length xkc,.slice xpb b.ps.length xpc] 27)).alloc (.cells #[.int .i64 2,.int .i64 dy,.int .i64 co,.int .i64 am,.int .i64 c] 56)):=(Below.refl _ _).alloc (ay _) _;have HB:=hb1.trans (hb2.mono hb1.size);have hA:=(Blk.new w #[.slice xcb b.coins.length xcc,.slice xtb b.ts.length xtc,.slice xkb b.cs.length xkc,.slice xpb b.ps.length xpc] 27).below hb2;have hX:=Blk.new (w.alloc (.cells #[.slice xcb b.coins.length xcc,.slice xtb b.ts.length xtc,.slice xkb b.cs.length xkc,.slice xpb b.ps.length xpc] 27)) #[.int .i64 2,.int .i64 dy,.int .i64 co,.int .i64 am,.int .i64 c] 56;rw[World.size_alloc]at hX;have hbkW:=hbk.below (HB.mono hbk.hN);clear hb1 hb2;gi_enter Tryz.func56,Tryz.ntmps56
         gi_wp2_with (first|(gi_at_call 47;with_reducible refine(jU dy _ qc).mono ?_;rintro e w5 ⟨rfl,rfl⟩)|(gi_at_call 78;with_reducible refine(jg am 1 10000 _ qd).mono ?_;rintro e w5 ⟨rfl,rfl⟩)|(gi_at_call 61;with_reducible refine(iG (l:=⟨xcb,xtb,xkb,xpb,xcc,xtc,xkc,xpc⟩) (b:=b) qe hc).mono ?_;rintro e w5 ⟨rfl,hb5⟩;have hX5:=hX.below hb5;have hA5:=hA.below hb5;have x0:=hX5.cell 0;have x1:=hX5.cell 1;have x2:=hX5.cell 2;have x3:=hX5.cell 3;have x4:=hX5.cell 4;have a0:=hA5.cell 0;have a1:=hA5.cell 1;have a2:=hA5.cell 2;have a3:=hA5.cell 3;simp at x0 x1 x2 x3 x4 a0 a1 a2 a3;have ltX5:=hX5.lt;have ltA5:=hA5.lt)|(gi_at_call 77;with_reducible refine(wC (l:=⟨xcb,xtb,xkb,xpb,xcc,xtc,xkc,xpc⟩) (b:=b) qg hk).mono ?_;rintro e w6 ⟨rfl,hb6⟩;have hX6:=hX5.below hb6;have hA6:=hA5.below hb6;clear x0 x1 x2 x3 x4 a0 a1 a2 a3))
         have hbk6:=hbkW.below (((hb5.trans (hb6.mono hb5.size))).mono hbkW.hN);have hcoin:∀w',Below w6.heap.size w6 w'→_:=λw' hw'=>EG (hbk6.below (hw'.mono hbk6.hN)) hcc (htar _ hcc);rw[hkc]at hcoin;refine bG (λw'=>Below w6.heap.size w6 w') rfl mixed (by kernel_rfl) (λd=>⟨rfl,rfl,rfl,ay _,λ_ _=>rfl⟩) ?_;simp only[aF,aC,aH,Nat.reduceAdd,Nat.zero_add,List.range,List.range.loop];refine aI rfl rfl (by decide) ?_;apply ah;refine⟨λT w' hw' K Q hK=>?_,?_⟩
         ·gi_wp2;exact hw'
         apply ah;refine⟨rfl,?_⟩;refine aT rfl rfl (by kernel_rfl) (.inr rfl) ?_;apply ah;refine⟨λw' hw' K Q hK=>?_,?_⟩
         ·have q:=hX6.below hw';have q0:=q.cell 0;have q2:=q.cell 2;have q4:=q.cell 4;have rB:=hA6.below hw';have r0:=rB.cell 0;have r1:=rB.cell 1;have r2:=rB.cell 2;have r3:=rB.cell 3;simp at q0 q2 q4 r0 r1 r2 r3;gi_wp2;exact hw'
         iterate 3
          apply ah;refine⟨rfl,?_⟩;refine aI rfl rfl (by decide) ?_;apply ah;refine⟨λT w' hw' K Q hK=>?_,?_⟩
          ·gi_wp2;exact hw'
         iterate 2
          apply ah;refine⟨rfl,?_⟩;refine aT rfl rfl (by kernel_rfl) (.inr rfl) ?_;apply ah;refine⟨λw' hw' K Q hK=>?_,?_⟩
          ·have q:=hX6.below hw';have q0:=q.cell 0;have q2:=q.cell 2;have q4:=q.cell 4;have rB:=hA6.below hw';have r0:=rB.cell 0;have r1:=rB.cell 1;have r2:=rB.cell 2;have r3:=rB.cell 3;simp at q0 q2 q4 r0 r1 r2 r3;gi_wp2;exact hw'
         apply ah;refine⟨rfl,?_⟩;refine aI rfl rfl (by decide) ?_;apply ah;refine⟨λT w' hw' K Q hK=>?_,?_⟩
         ·gi_wp2;exact hw'
         apply ah;refine⟨rfl,?_⟩;refine aT rfl rfl (by kernel_rfl) (.inr rfl) ?_;apply ah;refine⟨λw' hw' K Q hK=>?_,?_⟩
         ·have q:=hX6.below hw';have q0:=q.cell 0;have q2:=q.cell 2;have q4:=q.cell 4;have rB:=hA6.below hw';have r0:=rB.cell 0;have r1:=rB.cell 1;have r2:=rB.cell 2;have r3:=rB.cell 3;simp at q0 q2 q4 r0 r1 r2 r3;gi_wp2;exact hw'
         apply ah;refine⟨rfl,?_⟩;refine aT rfl rfl (by kernel_rfl) (.inr rfl) ?_;apply ah;refine⟨λw' hw' K Q hK=>?_,?_⟩
         ·have q:=hX6.below hw';have q0:=q.cell 0;have q2:=q.cell 2;have q4:=q.cell 4;have rB:=hA6.below hw';have r0:=rB.cell 0;have r1:=rB.cell 1;have r2:=rB.cell 2;have r3:=rB.cell 3;simp at q0 q2 q4 r0 r1 r2 r3
          gi_wp2_with (gi_at_call 62;refine(hcoin _ hw').mono ?_;rintro e w'' ⟨rfl,hb⟩)
          exact hw'.trans (hb.mono hw'.size)
         iterate 2
          apply ah;refine⟨rfl,?_⟩;refine aI rfl rfl (by decide) ?_;apply ah;refine⟨λT w' hw' K Q hK=>?_,?_⟩
          ·gi_wp2;exact hw'
         apply ah;refine⟨rfl,?_⟩;intro w7 hw7;gi_wp2;go_ret;exact⟨by rw[pf7 ⟨⟨qa,qb⟩,qc,qd⟩ qe (show¬(2:Int)=1 by decide) qg (λq=>q.2 hkc.symm)];rfl,(HB.trans ((hb5.trans (hb6.mono hb5.size)).mono HB.size)).trans (hw7.mono (Nat.le_trans HB.size (Nat.le_trans hb5.size hb6.size)))⟩
        ·have hb1:Below w.heap.size w (w.alloc (.cells #[.slice xcb b.coins.length xcc,.slice xtb b.ts.length xtc,.slice xkb b.cs.length xkc,.slice xpb b.ps.length xpc] 27)):=(Below.refl _ w).alloc (ay _) _;have hb2:Below (w.alloc (.cells #[.slice xcb b.coins.length xcc,.slice xtb b.ts.length xtc,.slice xkb b.cs.length xkc,.slice xpb b.ps.length xpc] 27)).heap.size (w.alloc (.cells #[.slice xcb b.coins.length xcc,.slice xtb b.ts.length xtc,.slice xkb b.cs.length xkc,.slice xpb b.ps.length xpc] 27)) ((w.alloc (.cells #[.slice xcb b.coins.length xcc,.slice xtb b.ts.length xtc,.slice xkb b.cs.length xkc,.slice xpb b.ps.length xpc] 27)).alloc (.cells #[.int .i64 2,.int .i64 dy,.int .i64 co,.int .i64 am,.int .i64 c] 56)):=(Below.refl _ _).alloc (ay _) _;have HB:=hb1.trans (hb2.mono hb1.size);have hA:=(Blk.new w #[.slice xcb b.coins.length xcc,.slice xtb b.ts.length xtc,.slice xkb b.cs.length xkc,.slice xpb b.ps.length xpc] 27).below hb2;have hX:=Blk.new (w.alloc (.cells #[.slice xcb b.coins.length xcc,.slice xtb b.ts.length xtc,.slice xkb b.cs.length xkc,.slice xpb b.ps.length xpc] 27)) #[.int .i64 2,.int .i64 dy,.int .i64 co,.int .i64 am,.int .i64 c] 56;rw[World.size_alloc]at hX;have hbkW:=hbk.below (HB.mono hbk.hN);clear hb1 hb2;gi_enter Tryz.func56,Tryz.ntmps56
         gi_wp2_with (first|(gi_at_call 47;with_reducible refine(jU dy _ qc).mono ?_;rintro e w5 ⟨rfl,rfl⟩)|(gi_at_call 78;with_reducible refine(jg am 1 10000 _ qd).mono ?_;rintro e w5 ⟨rfl,rfl⟩)|(gi_at_call 61;with_reducible refine(iG (l:=⟨xcb,xtb,xkb,xpb,xcc,xtc,xkc,xpc⟩) (b:=b) qe hc).mono ?_;rintro e w5 ⟨rfl,hb5⟩;have hX5:=hX.below hb5;have hA5:=hA.below hb5;have x0:=hX5.cell 0;have x1:=hX5.cell 1;have x2:=hX5.cell 2;have x3:=hX5.cell 3;have x4:=hX5.cell 4;have a0:=hA5.cell 0;have a1:=hA5.cell 1;have a2:=hA5.cell 2;have a3:=hA5.cell 3;simp at x0 x1 x2 x3 x4 a0 a1 a2 a3;have ltX5:=hX5.lt;have ltA5:=hA5.lt)|(gi_at_call 77;with_reducible refine(wC (l:=⟨xcb,xtb,xkb,xpb,xcc,xtc,xkc,xpc⟩) (b:=b) qg hk).mono ?_;rintro e w6 ⟨rfl,hb6⟩;have hX6:=hX5.below hb6;have hA6:=hA5.below hb6;clear x0 x1 x2 x3 x4 a0 a1 a2 a3))
         have hbk6:=hbkW.below (((hb5.trans (hb6.mono hb5.size))).mono hbkW.hN);have hcoin:∀w',Below w6.heap.size w6 w'→_:=λw' hw'=>EG (hbk6.below (hw'.mono hbk6.hN)) hcc (htar _ hcc);rw[hkc]at hcoin;refine bG (λw'=>Below w6.heap.size w6 w') rfl mixed (by kernel_rfl) (λd=>⟨rfl,rfl,rfl,ay _,λ_ _=>rfl⟩) ?_;simp only[aF,aC,aH,Nat.reduceAdd,Nat.zero_add,List.range,List.range.loop];refine aI rfl rfl (by decide) ?_;apply ah;refine⟨λT w' hw' K Q hK=>?_,?_⟩
         ·gi_wp2;exact hw'
         apply ah;refine⟨rfl,?_⟩;refine aT rfl rfl (by kernel_rfl) (.inr rfl) ?_;apply ah;refine⟨λw' hw' K Q hK=>?_,?_⟩
         ·have q:=hX6.below hw';have q0:=q.cell 0;have q2:=q.cell 2;have q4:=q.cell 4;have rB:=hA6.below hw';have r0:=rB.cell 0;have r1:=rB.cell 1;have r2:=rB.cell 2;have r3:=rB.cell 3;simp at q0 q2 q4 r0 r1 r2 r3;gi_wp2;exact hw'
         iterate 3
          apply ah;refine⟨rfl,?_⟩;refine aI rfl rfl (by decide) ?_;apply ah;refine⟨λT w' hw' K Q hK=>?_,?_⟩
          ·gi_wp2;exact hw'
         iterate 2
          apply ah;refine⟨rfl,?_⟩;refine aT rfl rfl (by kernel_rfl) (.inr rfl) ?_;apply ah;refine⟨λw' hw' K Q hK=>?_,?_⟩
          ·have q:=hX6.below hw';have q0:=q.cell 0;have q2:=q.cell 2;have q4:=q.cell 4;have rB:=hA6.below hw';have r0:=rB.cell 0;have r1:=rB.cell 1;have r2:=rB.cell 2;have r3:=rB.cell 3;simp at q0 q2 q4 r0 r1 r2 r3;gi_wp2;exact hw'
         apply ah;refine⟨rfl,?_⟩;refine aI rfl rfl (by decide) ?_;apply ah;refine⟨λT w' hw' K Q hK=>?_,?_⟩
         ·gi_wp2;exact hw'
         apply ah;refine⟨rfl,?_⟩;refine aT rfl rfl (by kernel_rfl) (.inr rfl) ?_;apply ah;refine⟨λw' hw' K Q hK=>?_,?_⟩
         ·have q:=hX6.below hw';have q0:=q.cell 0;have q2:=q.cell 2;have q4:=q.cell 4;have rB:=hA6.below hw';have r0:=rB.cell 0;have r1:=rB.cell 1;have r2:=rB.cell 2;have r3:=rB.cell 3;simp at q0 q2 q4 r0 r1 r2 r3;gi_wp2;exact hw'
         apply ah;refine⟨rfl,?_⟩;refine aT rfl rfl (by kernel_rfl) (.inr rfl) ?_;apply ah;refine⟨λw' hw' K Q hK=>?_,?_⟩
         ·have q:=hX6.below hw';have q0:=q.cell 0;have q2:=q.cell 2;have q4:=q.cell 4;have rB:=hA6.below hw';have r0:=rB.cell 0;have r1:=rB.cell 1;have r2:=rB.cell 2;have r3:=rB.cell 3;simp at q0 q2 q4 r0 r1 r2 r3
          gi_wp2_with (gi_at_call 62;refine(hcoin _ hw').mono ?_;rintro e w'' ⟨rfl,hb⟩)
          exact hw'.trans (hb.mono hw'.size)
         iterate 2
          apply ah;refine⟨rfl,?_⟩;refine aI rfl rfl (by decide) ?_;apply ah;refine⟨λT w' hw' K Q hK=>?_,?_⟩
          ·gi_wp2;exact hw'
         apply ah;refine⟨rfl,?_⟩;intro w7 hw7;gi_wp2;go_ret;exact⟨by rw[pf6 ⟨⟨qa,qb⟩,qc,qd⟩ qe (show¬(2:Int)=1 by decide) qg ⟨rfl,λq=>qh (q.trans hkc)⟩];rfl,(HB.trans ((hb5.trans (hb6.mono hb5.size)).mono HB.size)).trans (hw7.mono (Nat.le_trans HB.size (Nat.le_trans hb5.size hb6.size)))⟩
       ·have hb1:Below w.heap.size w (w.alloc (.cells #[.slice xcb b.coins.length xcc,.slice xtb b.ts.length xtc,.slice xkb b.cs.length xkc,.slice xpb b.ps.length xpc] 27)):=(Below.refl _ w).alloc (ay _) _;have hb2:Below (w.alloc (.cells #[.slice xcb b.coins.length xcc,.slice xtb b.ts.length xtc,.slice xkb b.cs.length xkc,.slice xpb b.ps.length xpc] 27)).heap.size (w.alloc (.cells #[.slice xcb b.coins.length xcc,.slice xtb b.ts.length xtc,.slice xkb b.cs.length xkc,.slice xpb b.ps.length xpc] 27)) ((w.alloc (.cells #[.slice xcb b.coins.length xcc,.slice xtb b.ts.length xtc,.slice xkb b.cs.length xkc,.slice xpb b.ps.length xpc] 27)).alloc (.cells #[.int .i64 2,.int .i64 dy,.int .i64 co,.int .i64 am,.int .i64 cc] 56)):=(Below.refl _ _).alloc (ay _) _;have HB:=hb1.trans (hb2.mono hb1.size);have hA:=(Blk.new w #[.slice xcb b.coins.length xcc,.slice xtb b.ts.length xtc,.slice xkb b.cs.length xkc,.slice xpb b.ps.length xpc] 27).below hb2;have hX:=Blk.new (w.alloc (.cells #[.slice xcb b.coins.length xcc,.slice xtb b.ts.length xtc,.slice xkb b.cs.length xkc,.slice xpb b.ps.length xpc] 27)) #[.int .i64 2,.int .i64 dy,.int .i64 co,.int .i64 am,.int .i64 cc] 56;rw[World.size_alloc]at hX;have hbkW:=hbk.below (HB.mono hbk.hN);clear hb1 hb2;gi_enter Tryz.func56,Tryz.ntmps56
        gi_wp2_with (first|(gi_at_call 47;with_reducible refine(jU dy _ qc).mono ?_;rintro e w5 ⟨rfl,rfl⟩)|(gi_at_call 78;with_reducible refine(jg am 1 10000 _ qd).mono ?_;rintro e w5 ⟨rfl,rfl⟩)|(gi_at_call 61;with_reducible refine(iG (l:=⟨xcb,xtb,xkb,xpb,xcc,xtc,xkc,xpc⟩) (b:=b) qe hc).mono ?_;rintro e w5 ⟨rfl,hb5⟩;have hX5:=hX.below hb5;have hA5:=hA.below hb5;have x0:=hX5.cell 0;have x1:=hX5.cell 1;have x2:=hX5.cell 2;have x3:=hX5.cell 3;have x4:=hX5.cell 4;have a0:=hA5.cell 0;have a1:=hA5.cell 1;have a2:=hA5.cell 2;have a3:=hA5.cell 3;simp at x0 x1 x2 x3 x4 a0 a1 a2 a3;have ltX5:=hX5.lt;have ltA5:=hA5.lt)|(gi_at_call 77;with_reducible refine(BJ (l:=⟨xcb,xtb,xkb,xpb,xcc,xtc,xkc,xpc⟩) (b:=b) qg hk).mono ?_;rintro e w6 ⟨rfl,hb6⟩))
        go_ret;exact⟨by rw[pf5 ⟨⟨qa,qb⟩,qc,qd⟩ qe (show¬(2:Int)=1 by decide) qg];rfl,HB.trans ((hb5.trans (hb6.mono hb5.size)).mono HB.size)⟩
     ·have hb1:Below w.heap.size w (w.alloc (.cells #[.slice xcb b.coins.length xcc,.slice xtb b.ts.length xtc,.slice xkb b.cs.length xkc,.slice xpb b.ps.length xpc] 27)):=(Below.refl _ w).alloc (ay _) _;have hb2:Below (w.alloc (.cells #[.slice xcb b.coins.length xcc,.slice xtb b.ts.length xtc,.slice xkb b.cs.length xkc,.slice xpb b.ps.length xpc] 27)).heap.size (w.alloc (.cells #[.slice xcb b.coins.length xcc,.slice xtb b.ts.length xtc,.slice xkb b.cs.length xkc,.slice xpb b.ps.length xpc] 27)) ((w.alloc (.cells #[.slice xcb b.coins.length xcc,.slice xtb b.ts.length xtc,.slice xkb b.cs.length xkc,.slice xpb b.ps.length xpc] 27)).alloc (.cells #[.int .i64 kd,.int .i64 dy,.int .i64 co,.int .i64 am,.int .i64 cc] 56)):=(Below.refl _ _).alloc (ay _) _;have HB:=hb1.trans (hb2.mono hb1.size);have hA:=(Blk.new w #[.slice xcb b.coins.length xcc,.slice xtb b.ts.length xtc,.slice xkb b.cs.length xkc,.slice xpb b.ps.length xpc] 27).below hb2;have hX:=Blk.new (w.alloc (.cells #[.slice xcb b.coins.length xcc,.slice xtb b.ts.length xtc,.slice xkb b.cs.length xkc,.slice xpb b.ps.length xpc] 27)) #[.int .i64 kd,.int .i64 dy,.int .i64 co,.int .i64 am,.int .i64 cc] 56;rw[World.size_alloc]at hX;have hbkW:=hbk.below (HB.mono hbk.hN);clear hb1 hb2;gi_enter Tryz.func56,Tryz.ntmps56
      gi_wp2_with (first|(gi_at_call 47;with_reducible refine(jU dy _ qc).mono ?_;rintro e w5 ⟨rfl,rfl⟩)|(gi_at_call 78;with_reducible refine(jg am 1 10000 _ qd).mono ?_;rintro e w5 ⟨rfl,rfl⟩)|(gi_at_call 61;with_reducible refine(wE (l:=⟨xcb,xtb,xkb,xpb,xcc,xtc,xkc,xpc⟩) (b:=b) qe hc).mono ?_;rintro e w5 ⟨rfl,hb5⟩))
      go_ret;exact⟨by rw[pf2 ⟨⟨qa,qb⟩,qc,qd⟩ qe];rfl,HB.trans (hb5.mono HB.size)⟩
    ·have hb1:Below w.heap.size w (w.alloc (.cells #[.slice xcb b.coins.length xcc,.slice xtb b.ts.length xtc,.slice xkb b.cs.length xkc,.slice xpb b.ps.length xpc] 27)):=(Below.refl _ w).alloc (ay _) _;have hb2:Below (w.alloc (.cells #[.slice xcb b.coins.length xcc,.slice xtb b.ts.length xtc,.slice xkb b.cs.length xkc,.slice xpb b.ps.length xpc] 27)).heap.size (w.alloc (.cells #[.slice xcb b.coins.length xcc,.slice xtb b.ts.length xtc,.slice xkb b.cs.length xkc,.slice xpb b.ps.length xpc] 27)) ((w.alloc (.cells #[.slice xcb b.coins.length xcc,.slice xtb b.ts.length xtc,.slice xkb b.cs.length xkc,.slice xpb b.ps.length xpc] 27)).alloc (.cells #[.int .i64 kd,.int .i64 dy,.int .i64 co,.int .i64 am,.int .i64 cc] 56)):=(Below.refl _ _).alloc (ay _) _;have HB:=hb1.trans (hb2.mono hb1.size);have hA:=(Blk.new w #[.slice xcb b.coins.length xcc,.slice xtb b.ts.length xtc,.slice xkb b.cs.length xkc,.slice xpb b.ps.length xpc] 27).below hb2;have hX:=Blk.new (w.alloc (.cells #[.slice xcb b.coins.length xcc,.slice xtb b.ts.length xtc,.slice xkb b.cs.length xkc,.slice xpb b.ps.length xpc] 27)) #[.int .i64 kd,.int .i64 dy,.int .i64 co,.int .i64 am,.int .i64 cc] 56;rw[World.size_alloc]at hX;have hbkW:=hbk.below (HB.mono hbk.hN);clear hb1 hb2;gi_enter Tryz.func56,Tryz.ntmps56
     gi_wp2_with (first|(gi_at_call 47;with_reducible refine(jU dy _ qc).mono ?_;rintro e w5 ⟨rfl,rfl⟩)|(gi_at_call 78;with_reducible refine(sW am 1 10000 _ qd).mono ?_;rintro e w5 ⟨rfl,rfl⟩))
     go_ret;exact⟨by rw[pf1 (λq=>qd q.2.2)];rfl,HB⟩
   ·have hb1:Below w.heap.size w (w.alloc (.cells #[.slice xcb b.coins.length xcc,.slice xtb b.ts.length xtc,.slice xkb b.cs.length xkc,.slice xpb b.ps.length xpc] 27)):=(Below.refl _ w).alloc (ay _) _;have hb2:Below (w.alloc (.cells #[.slice xcb b.coins.length xcc,.slice xtb b.ts.length xtc,.slice xkb b.cs.length xkc,.slice xpb b.ps.length xpc] 27)).heap.size (w.alloc (.cells #[.slice xcb b.coins.length xcc,.slice xtb b.ts.length xtc,.slice xkb b.cs.length xkc,.slice xpb b.ps.length xpc] 27)) ((w.alloc (.cells #[.slice xcb b.coins.length xcc,.slice xtb b.ts.length xtc,.slice xkb b.cs.length xkc,.slice xpb b.ps.length xpc] 27)).alloc (.cells #[.int .i64 kd,.int .i64 dy,.int .i64 co,.int .i64 am,.int .i64 cc] 56)):=(Below.refl _ _).alloc (ay _) _;have HB:=hb1.trans (hb2.mono hb1.size);have hA:=(Blk.new w #[.slice xcb b.coins.length xcc,.slice xtb b.ts.length xtc,.slice xkb b.cs.length xkc,.slice xpb b.ps.length xpc] 27).below hb2;have hX:=Blk.new (w.alloc (.cells #[.slice xcb b.coins.length xcc,.slice xtb b.ts.length xtc,.slice xkb b.cs.length xkc,.slice xpb b.ps.length xpc] 27)) #[.int .i64 kd,.int .i64 dy,.int .i64 co,.int .i64 am,.int .i64 cc] 56;rw[World.size_alloc]at hX;have hbkW:=hbk.below (HB.mono hbk.hN);clear hb1 hb2;gi_enter Tryz.func56,Tryz.ntmps56
    gi_wp2_with (first|(gi_at_call 47;with_reducible refine(I8 dy _ qc).mono ?_;rintro e w5 ⟨rfl,rfl⟩))
    go_ret;exact⟨by rw[pf1 (λq=>qc q.2.1)];rfl,HB⟩
  ·have rb:2<kd:=by omega
   have hb1:Below w.heap.size w (w.alloc (.cells #[.slice xcb b.coins.length xcc,.slice xtb b.ts.length xtc,.slice xkb b.cs.length xkc,.slice xpb b.ps.length xpc] 27)):=(Below.refl _ w).alloc (ay _) _;have hb2:Below (w.alloc (.cells #[.slice xcb b.coins.length xcc,.slice xtb b.ts.length xtc,.slice xkb b.cs.length xkc,.slice xpb b.ps.length xpc] 27)).heap.size (w.alloc (.cells #[.slice xcb b.coins.length xcc,.slice xtb b.ts.length xtc,.slice xkb b.cs.length xkc,.slice xpb b.ps.length xpc] 27)) ((w.alloc (.cells #[.slice xcb b.coins.length xcc,.slice xtb b.ts.length xtc,.slice xkb b.cs.length xkc,.slice xpb b.ps.length xpc] 27)).alloc (.cells #[.int .i64 kd,.int .i64 dy,.int .i64 co,.int .i64 am,.int .i64 cc] 56)):=(Below.refl _ _).alloc (ay _) _;have HB:=hb1.trans (hb2.mono hb1.size);clear hb1 hb2;gi_enter Tryz.func56,Tryz.ntmps56
   gi_wp2;go_ret;exact⟨by rw[pf1 (λq=>by have:=q.1.2;simp only at this;omega)];rfl,HB⟩
 ·have ra:kd<0:=by omega
  have hb1:Below w.heap.size w (w.alloc (.cells #[.slice xcb b.coins.length xcc,.slice xtb b.ts.length xtc,.slice xkb b.cs.length xkc,.slice xpb b.ps.length xpc] 27)):=(Below.refl _ w).alloc (ay _) _;have hb2:Below (w.alloc (.cells #[.slice xcb b.coins.length xcc,.slice xtb b.ts.length xtc,.slice xkb b.cs.length xkc,.slice xpb b.ps.length xpc] 27)).heap.size (w.alloc (.cells #[.slice xcb b.coins.length xcc,.slice xtb b.ts.length xtc,.slice xkb b.cs.length xkc,.slice xpb b.ps.length xpc] 27)) ((w.alloc (.cells #[.slice xcb b.coins.length xcc,.slice xtb b.ts.length xtc,.slice xkb b.cs.length xkc,.slice xpb b.ps.length xpc] 27)).alloc (.cells #[.int .i64 kd,.int .i64 dy,.int .i64 co,.int .i64 am,.int .i64 cc] 56)):=(Below.refl _ _).alloc (ay _) _;have HB:=hb1.trans (hb2.mono hb1.size);clear hb1 hb2;gi_enter Tryz.func56,Tryz.ntmps56
  gi_wp2;go_ret;exact⟨by rw[pf1 (λq=>by have:=q.1.1;simp only at this;omega)];rfl,HB⟩
end Go.Proofs.YtnkejaohnhpbpaaGreatDoor
end
section
namespace Go.Proofs.YtnkejaohnhpbpaaGreatDoor
open Go Go.RowKit Lift
section
variable {b:aN}
theorem Ij(hc:b.kN)(ht:b.pX)(hk:b.sU):b.eX=b.oh:=by unfold aN.eX;rw[if_pos (b.jA.2 hc),if_pos (b.mD.2 ht),if_pos (b.lD.2 hk)]
theorem flaw_k(hc:b.kN)(ht:b.pX)(hk:¬b.je=0):b.eX=b.je:=by unfold aN.eX;rw[if_pos (b.jA.2 hc),if_pos (b.mD.2 ht),if_neg hk]
theorem flaw_t(hc:b.kN)(ht:¬b.iP=0):b.eX=b.iP:=by unfold aN.eX;rw[if_pos (b.jA.2 hc),if_neg ht]
theorem flaw_c(hc:¬b.fH=0):b.eX=b.fH:=by unfold aN.eX;rw[if_neg hc]
theorem aN.nP(b:aN):b.eX=0↔b.Right:=by
 rw[aN.LJ,← b.jA,← b.mD,← b.lD];have hp:b.oh=0↔b.GI:=by
  unfold aN.oh aN.GI;rw[mQ];exact and_congr Iff.rfl (forall_congr' λi=>imp_congr Iff.rfl (b.FW _))
 rw[← hp];unfold aN.eX;by_cases h1:b.fH=0
 ·rw[if_pos h1];by_cases h2:b.iP=0
  ·rw[if_pos h2];by_cases h3:b.je=0
   ·rw[if_pos h3];exact⟨λq=>⟨h1,h2,h3,q⟩,λq=>q.2.2.2⟩
   ·rw[if_neg h3];exact⟨λq=>absurd q h3,λq=>absurd q.2.2.1 h3⟩
  ·rw[if_neg h2];exact⟨λq=>absurd q h2,λq=>absurd q.2.1 h2⟩
 ·rw[if_neg h1];exact⟨λq=>absurd q h1,λq=>absurd q.1 h1⟩
end
end Go.Proofs.YtnkejaohnhpbpaaGreatDoor
end
