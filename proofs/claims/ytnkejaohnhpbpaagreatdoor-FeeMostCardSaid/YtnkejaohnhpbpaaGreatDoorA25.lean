/- Whether cases are a plan, with a proof: inside the fence. -/
import Derived.Test.YtnkejaohnhpbpaaGreatDoorA24
set_option linter.all false
namespace Go.Proofs.YtnkejaohnhpbpaaGreatDoor
open Go Go.RowKit Lift
section
variable {F:Fence} {n:Nat} {P:Program} {Q:Exit → Act → World → Prop} {a:Act} {w:World} {b:Frame} {k:List Item} {cs:List Frame}
theorem stepR_scope {c:Code}:step P (lone (b.atR a (.code (.scope c) :: k)) cs w) = .next (lone (b.atR a (.code c :: .inScope c :: k)) cs w):=step_lone_go (by simp [stepG,stepG.exec,Frame.atR])
theorem stepR_inScope {c:Code}:step P (lone (b.atR a (.inScope c :: k)) cs w) = .next (lone (b.atR a k) cs w):=step_lone_go (by simp [stepG,stepG.exec,Frame.atR])
theorem wpIn_scope {c:Code} (hg:∀ l a w,¬ Q (.goto l) a w) (h:c.wpIn F n P Q a w):(Code.scope c).wpIn F n P Q a w:=by
 intro b k cs hro hb hr;have h0:(lone (b.atR a (.code (.scope c) :: k)) cs w).fenced P F:=fenced_calm hb hr rfl;obtain ⟨e,a₁,w₁,hq,harr⟩:=h b (.inScope c :: k) cs hro hb hr;cases e with
 | normal => exact ⟨.normal,a₁,w₁,hq,.head h0 stepR_scope (StepsIn.trans harr (.one (fenced_calm hb hr rfl) stepR_inScope))⟩
 | exit id =>
  have hx:exitTo id (.inScope c :: k) = exitTo id k:=by simp [exitTo]
  exact ⟨.exit id,a₁,w₁,hq,fun k' hk => .head h0 stepR_scope (harr.1 k' (by rw [hx];exact hk)),fun hr' hk => let ⟨k₁,h1,h2⟩:=harr.2 hr' (by rw [hx];exact hk);⟨k₁,h1,.head h0 stepR_scope h2⟩⟩
 | goto l => exact absurd hq (hg l a₁ w₁)
 | ret => exact ⟨_,a₁,w₁,hq,.of_steps (.one h0 stepR_scope) harr⟩
 | panic ch => exact ⟨_,a₁,w₁,hq,.of_steps (.one h0 stepR_scope) harr⟩
 | outgrown => exact ⟨_,a₁,w₁,hq,.of_steps (.one h0 stepR_scope) harr⟩
end
theorem owns_slice_n {w:World} {N:Nat} {e:TypeId} {k n:Nat} {v:Value} {xs:List Value} (h:w.ownsRow N e k v n xs):∃ a c,v = .slice a n c:=by
 rcases h.2 with ⟨rfl,rfl⟩ | ⟨g,cap,cur,rfl,_⟩
 ·exact ⟨_,_,rfl⟩
 ·exact ⟨_,_,rfl⟩
theorem all_succ (f:Nat → Bool) (c:Nat):((List.range (c + 1)).all f) = ((List.range c).all f && f c):=by
 rw [List.range_succ,List.all_append];simp
theorem all_false {f:Nat → Bool} {c n:Nat} (hc:c < n) (h:f c = false):(List.range n).all f = false:=by
 cases e:(List.range n).all f with
 | false => rfl
 | true => rw [List.all_eq_true] at e;have:=e c (List.mem_range.2 hc);rw [h] at this;cases this
set_option maxHeartbeats 16000000 in
set_option maxRecDepth 100000 in
theorem Proves_in {N:Nat} {l:Lay} {b:Book} {w:World} (hbk:BkAt N l b w) (hf:Full b) (hkd:KindsAt w) {day:Int} (h0:0 ≤ day) (h1:day ≤ 9999) {vc vp:Value} {cases proof:List Int} (hvc:SeqAt w vc cases) (hvp:SeqAt w vp proof) (hnc:cases.length < 1000000) (hnp:proof.length < 1000000) :
  CallsIn Fz 0 Tryz.prog 33 #[l.val b,.int .i64 day,vc,vp] w fun e w' => e = .returned (.tuple #[.bool (b.proves (b.after day) day cases proof),.int .i64 0]) ∧ Below w.heap.size w w':=by
 have hw0:=hkd.lt;have hncc:=hf.v.nc;have hnk:=hf.v.nk;have hb1:Below w.heap.size w (w.alloc (.cells (l.arr b) 27)):=(Below.refl _ w).alloc (Nat.le_refl _) _;have hA1:=Blk.new w (l.arr b) 27;have hb2:=hb1.alloc (by simp) (.cells #[vp] 44);have hA2:=hA1.below ((Below.refl _ _).alloc (Nat.le_refl _) (.cells #[vp] 44));have hP2:=Blk.new (w.alloc (.cells (l.arr b) 27)) #[vp] 44;have hafter:=fun w' (h:Below w.heap.size w w') => anyRoom (m:=0) (after_in (hbk.top.below h) hf.v (hkd.below h hw0) day);have hasked:=fun w' (h:Below w.heap.size w w') => asked_in (hbk.top.below h) hf h0 h1;have hvc1:=hvc;have hvp1:=hvp;obtain ⟨bp,op,cpp,rfl,_⟩:=hvp1;simp only [World.size_alloc] at hA2 hP2;unfold Lay.val at *;have a0:=hA2.cell 0;have a1:=hA2.cell 1;have a2:=hA2.cell 2;have a3:=hA2.cell 3;simp at a0 a1 a2 a3;by_cases ok1:b.okList (b.after day) cases cases.length = true
 ·by_cases ok2:b.okList (b.after day) proof proof.length = true
  ·have OK:=Lib.hid (show b.proves (b.after day) day cases proof = (List.range b.coins.length).all fun c => pvCoin cases proof (b.short (b.after day) day c) ((b.after day).acc c) by unfold Book.proves;rw [ok1,ok2];rfl);gi_enter Tryz.func33,Tryz.ntmps33
   gi_wp2;refine wpIn_scope (fun _ _ _ h => h) ?_
   gi_wp2_with (first
    | (gi_at_call 43;refine (hasked _ hb2).mono ?_;rintro e w2 ⟨rfl,hbA⟩;have HB2:=hb2.trans (hbA.mono hb2.size);have HB:=HB2.alloc HB2.size (.cells (l.arr b) 77);have hA4:=(hA2.below hbA).below ((Below.refl _ _).alloc (Nat.le_refl _) (.cells (l.arr b) 77));have hP4:=(hP2.below hbA).below ((Below.refl _ _).alloc (Nat.le_refl _) (.cells (l.arr b) 77)))
    | (gi_at_call 57;refine (hafter _ HB).mono ?_;rintro e w3 ⟨T,Sb,rfl,H,hbB⟩;have HB3:=HB.trans (hbB.mono HB.size);have hA5:=hA4.below hbB;have hP5:=hP4.below hbB;have e0:=hA5.cell 0;have e1:=hA5.cell 1;have e2:=hA5.cell 2;have e3:=hA5.cell 3;have eL:=hA5.lt;have p0:=hP5.cell 0;have pL:=hP5.lt;simp at e0 e1 e2 e3 p0;have t0:=H.c5;have t1:=H.c6;have t2:=H.c7;have tL:=H.ltT;have hc3:=hvc.below HB3;have hp3:=hvp.below HB3;simp only [Tl.bare] at t0 t1 t2 tL)
    | (gi_at_call 69;refine (lists_in H hf.v (by first | exact hc3 | exact hp3) (by first | exact hnc | exact hnp)).mono ?_;rintro e w4 ⟨rfl,rfl⟩))
   refine wpIn_label ?_;gi_wp2;have hP0:PrAt w4 w4.heap.size (w4.heap.size + 1) (b.after day).acc (fun _ => 0) ((w4.alloc (.cells #[.int .i64 ((b.after day).acc 0),.int .i64 ((b.after day).acc 1),.int .i64 ((b.after day).acc 2)] 94)).alloc (.cells #[.int .i64 0,.int .i64 0,.int .i64 0] 94)):=by
    refine ⟨((Below.refl _ w4).alloc (Nat.le_refl _) _).alloc (by simp) _,(Blk.new w4 _ 94).below ((Below.refl _ _).alloc (Nat.le_refl _) _),?_,Nat.le_refl _,Nat.le_succ _,by omega⟩;have:=Blk.new (w4.alloc (.cells #[.int .i64 ((b.after day).acc 0),.int .i64 ((b.after day).acc 1),.int .i64 ((b.after day).acc 2)] 94)) #[.int .i64 0,.int .i64 0,.int .i64 0] 94;simpa using this
   gi_loopw [51] (fun i wr => ∃ c:Nat,c ≤ b.coins.length ∧ i = .int .i64 c ∧ ((List.range c).all fun c => pvCoin cases proof (b.short (b.after day) day c) ((b.after day).acc c)) = true ∧ ∃ lf hf:Nat → Int,(∀ j,c ≤ j → j < 3 → lf j = (b.after day).acc j ∧ hf j = 0) ∧ PrAt w4 w4.heap.size (w4.heap.size + 1) lf hf wr) (fun i _ => b.coins.length - (intOf i).toNat)
   case atStart => exact ⟨0,Nat.zero_le _,rfl,rfl,_,_,fun j _ _ => ⟨rfl,rfl⟩,hP0⟩
   case round =>
    obtain ⟨c,hc,rfl,hall,lf,hfx,hlf,HP⟩:=hrel;by_cases hlt:c < b.coins.length
    ·have Ht:=H.same HP.hb
     gi_wp2_with (gi_at_call 66;refine (open_in Ht hf.v day).mono ?_;rintro e w5 ⟨v5,rfl,ho5,hb5⟩;obtain ⟨a5,c5,rfl⟩:=owns_slice_n ho5)
     have hLl:(b.short (b.after day) day c).length = (b.lacks (b.after day) c day b.cs.length).length:=sortL_length _;have hLs:=short_length b (b.after day) day c;have HR:w5.ownsRow wr.heap.size 111 2 (.slice a5 (b.lacks (b.after day) c day b.cs.length).length c5) (b.short (b.after day) day c).length ((b.short (b.after day) day c).flatMap lackRow):=by rw [hLl];exact ho5
     have HP5:=HP.same hb5;have hcs:=hlf c (Nat.le_refl _) (by omega);have hRest:∀ j,c + 1 ≤ j → j < 3 → lf j = (b.after day).acc j ∧ hfx j = 0:=fun j h1 h2 => hlf j (by omega) h2;have ACC:=Lib.hid hall;clear hall hlf ho5;rw [← hLl] at HR ⊢;have HLL:=Lib.hid hLl;clear hLl;have DEFL:∃ L,b.short (b.after day) day c = L:=⟨_,rfl⟩
     obtain ⟨L,hL⟩:=DEFL;rw [hL] at HR hLs ⊢;have HLd:=Lib.hid hL;clear hL;gi_loopw [17,18,60] (fun kv sv i wr => ∃ (j k s:Nat) (lf hf:Nat → Int),j ≤ L.length ∧ i = .int .i64 j ∧ kv = .int .i64 k ∧ sv = .int .i64 s ∧ pv cases proof L ((b.after day).acc c) j = some (k,s,lf c,hf c) ∧ (∀ j,c + 1 ≤ j → j < 3 → lf j = (b.after day).acc j ∧ hf j = 0) ∧ PrAt w4 w4.heap.size (w4.heap.size + 1) lf hf wr ∧ wr.ownsRow w4.heap.size 111 2 (.slice a5 L.length c5) L.length (L.flatMap lackRow)) (fun _ _ i _ => L.length - (intOf i).toNat)
     case atStart => exact ⟨0,0,0,lf,hfx,Nat.zero_le _,rfl,rfl,rfl,by rw [hcs.1,hcs.2];rfl,hRest,HP5,owns_low HR HP.hb.size⟩
     case round =>
      obtain ⟨j,k,s,lf,hfx,hj,rfl,rfl,rfl,hpv,hRest,HPr,HRr⟩:=hrel;by_cases hjl:j < L.length
      ·obtain ⟨g,rfl,hcap⟩:∃ g,a5 = some ⟨g,0,none⟩ ∧ L.length ≤ c5:=by
        rcases HRr.2 with ⟨e,e0⟩ | ⟨g,cap,cur,e,_,_,e3,_⟩
        ·omega
        ·cases e;exact ⟨g,rfl,e3⟩
       have hjc:j ≤ c5:=by omega
       have hjc':(j:Int) ≤ (c5:Int):=by omega
       have c0:=(owns_pair HRr hjl).1;have c1:=(owns_pair HRr hjl).2;have gl:=(HRr.lt g rfl).2;obtain ⟨⟨x1,x2⟩,hx⟩:∃ x,L.getD j (0,0) = x:=⟨_,rfl⟩
       have hps:=pv_succ hpv hx;have hle:=pv_le hpv;rw [hx] at c0 c1;simp only at c0 c1;have HX:=Lib.hid hx;clear hx hpv;have hb0:Below wr.heap.size wr (wr.alloc (.cells #[.int .i64 x1,.int .i64 x2] 111)):=(Below.refl _ _).alloc (Nat.le_refl _) _;have HI0:InAt w4 w4.heap.size (w4.heap.size + 1) lf hfx wr.heap.size x1 x2 w4.heap.size L.length g c5 L (wr.alloc (.cells #[.int .i64 x1,.int .i64 x2] 111)):=⟨HPr.same hb0,Blk.new wr _ 111,HRr.alloc _⟩
       have hcA:=hc3.below HI0.pr.hb;have hpA:=hp3.below HI0.pr.hb;have q0:=(hP5.below HPr.hb).cell 0;have ql:=(hP5.below HPr.hb).lt;have cL:=HPr.cL (show c < 3 by omega);have cS:=HPr.cS (show c < 3 by omega);have lL:=HPr.hL.lt;have lS:=HPr.hS.lt;have fL:=HPr.hL.frozen c;have fS:=HPr.hS.frozen c;have hc3':(c:Int) < 3:=by omega
       have hk1:IntKind.i64.wrap ((k:Int) + 1) = k + 1:=by rw [IntKind.wrap_i64];omega
       have hs1:IntKind.i64.wrap ((s:Int) + 1) = s + 1:=by rw [IntKind.wrap_i64];omega
       simp at q0;have PS:=Lib.hid hps;clear hps;have hpB:=hpA;by_cases hC:x1 ∈ cases
       ·by_cases hP:x1 ∈ proof
        ·gi_wp2_with (gi_at_call 70;refine (hasInt_in _ _ _ _ (by first | exact hcA | exact hpA | exact hpB) (by first | exact hnc | exact hnp)).mono ?_;rintro e w6 ⟨rfl,rfl⟩)
         gi_big_region
         all_goals generalize hw:World.drew _ = w7
         have HI7:InAt w4 w4.heap.size (w4.heap.size + 1) (upd lf c (wrap64 (lf c - x2))) hfx wr.heap.size x1 x2 w4.heap.size L.length g c5 L w7:=by rw [← hw];exact InAt.madeL HPr HRr (show c < 3 by omega) _
         have hpB:=hp3.below HI7.pr.hb;have r0:=(hP5.below HI7.pr.hb).cell 0;have rl:=(hP5.below HI7.pr.hb).lt;have X0:=HI7.hX.cell 0;have X1:=HI7.hX.cell 1;have Xl:=HI7.hX.lt;have sS:=HI7.pr.cS (show c < 3 by omega);have gS:=HI7.pr.hS.frozen c;have gSl:=HI7.pr.hS.lt;simp at r0 X0 X1;clear c0 c1 cL cS q0 fL fS hw
         gi_wp2_with (gi_at_call 70;refine (hasInt_in _ _ _ _ (by first | exact hcA | exact hpA | exact hpB) (by first | exact hnc | exact hnp)).mono ?_;rintro e w6 ⟨rfl,rfl⟩)
         gi_big_region
         all_goals generalize hw:World.drew _ = w8
         have HI8:InAt w4 w4.heap.size (w4.heap.size + 1) (upd lf c (wrap64 (lf c - x2))) (upd hfx c (wrap64 (hfx c + x2))) wr.heap.size x1 x2 w4.heap.size L.length g c5 L w8:=by rw [← hw];exact (HI7.setS (show c < 3 by omega) _).drew
         clear hw r0 X0 X1 sS;have z0:=(hP5.below HI8.pr.hb).cell 0;have zl:=(hP5.below HI8.pr.hb).lt;simp at z0;cases hany:(L.take j).any (lessHid x2 proof) with
         | true =>
          have hca:=contF_in HI8.hX (hP5.below HI8.pr.hb) (hp3.below HI8.pr.hb) hnp HI8.row (show j ≤ L.length by omega) (by omega);rw [hany] at hca;have PF:Hid (pvCoin cases proof (b.short (b.after day) day c) ((b.after day).acc c) = false):=by
           show _ = _
           rw [HLd.out,pvCoin,pv_none (by rw [PS.out];simp [hP,hany]) L.length (by omega)]
          clear hany
          gi_wp2_with (gi_at_call 71;refine hca.mono ?_;rintro e w9 ⟨rfl,hb9⟩)
          (try simp only [Exit.inBlock,Exit.then])
          refine bodyPost_ret (results_tmp2 rfl _ _ _) rfl ?_;exact ⟨by rw [OK.out,all_false hlt PF.out];rfl,HB3.trans ((HI8.same hb9).pr.hb.mono HB3.size)⟩
         | false =>
          have hca:=contF_in HI8.hX (hP5.below HI8.pr.hb) (hp3.below HI8.pr.hb) hnp HI8.row (show j ≤ L.length by omega) (by omega);rw [hany] at hca;have NX:Hid (pv cases proof L ((b.after day).acc c) (j + 1) = some (k + 1,s + 1,(upd lf c (wrap64 (lf c - x2))) c,(upd hfx c (wrap64 (hfx c + x2))) c)):=by
           show _ = _
           rw [PS.out];simp [hC,hP,hany]
          clear hany
          gi_wp2_with (gi_at_call 71;refine hca.mono ?_;rintro e w9 ⟨rfl,hb9⟩)
          go_roundw
          case rel => exact ⟨j + 1,k + 1,s + 1,(upd lf c (wrap64 (lf c - x2))),(upd hfx c (wrap64 (hfx c + x2))),by omega,by go_num,by go_num,by go_num,NX.out,fun i h1 h2 => by have:=hRest i h1 h2;simpa [upd,show i ≠ c by omega] using this,(HI8.same hb9).pr,(HI8.same hb9).row⟩
          case measure => simp [intOf];omega
        ·gi_wp2_with (gi_at_call 70;refine (hasInt_in _ _ _ _ (by first | exact hcA | exact hpA | exact hpB) (by first | exact hnc | exact hnp)).mono ?_;rintro e w6 ⟨rfl,rfl⟩)
         gi_big_region
         all_goals generalize hw:World.drew _ = w7
         have HI7:InAt w4 w4.heap.size (w4.heap.size + 1) (upd lf c (wrap64 (lf c - x2))) hfx wr.heap.size x1 x2 w4.heap.size L.length g c5 L w7:=by rw [← hw];exact InAt.madeL HPr HRr (show c < 3 by omega) _
         have hpB:=hp3.below HI7.pr.hb;have r0:=(hP5.below HI7.pr.hb).cell 0;have rl:=(hP5.below HI7.pr.hb).lt;have X0:=HI7.hX.cell 0;have X1:=HI7.hX.cell 1;have Xl:=HI7.hX.lt;have sS:=HI7.pr.cS (show c < 3 by omega);have gS:=HI7.pr.hS.frozen c;have gSl:=HI7.pr.hS.lt;simp at r0 X0 X1;clear c0 c1 cL cS q0 fL fS hw
         gi_wp2_with (gi_at_call 70;refine (hasInt_in _ _ _ _ (by first | exact hcA | exact hpA | exact hpB) (by first | exact hnc | exact hnp)).mono ?_;rintro e w6 ⟨rfl,rfl⟩)
         go_roundw
         case rel =>
          refine ⟨j + 1,k + 1,s,(upd lf c (wrap64 (lf c - x2))),hfx,by omega,by go_num,by go_num,by go_num,?_,fun i h1 h2 => by have:=hRest i h1 h2;simpa [upd,show i ≠ c by omega] using this,HI7.pr,HI7.row⟩;rw [PS.out];simp [hC,hP]
         case measure => simp [intOf];omega
       ·by_cases hP:x1 ∈ proof
        ·gi_wp2_with (gi_at_call 70;refine (hasInt_in _ _ _ _ (by first | exact hcA | exact hpA | exact hpB) (by first | exact hnc | exact hnp)).mono ?_;rintro e w6 ⟨rfl,rfl⟩)
         gi_big_region
         all_goals generalize hw:World.drew _ = w8
         have HI8:InAt w4 w4.heap.size (w4.heap.size + 1) lf (upd hfx c (wrap64 (hfx c + x2))) wr.heap.size x1 x2 w4.heap.size L.length g c5 L w8:=by rw [← hw];exact InAt.madeS HPr HRr (show c < 3 by omega) _
         clear hw c0 c1 cL cS q0 fL fS;have z0:=(hP5.below HI8.pr.hb).cell 0;have zl:=(hP5.below HI8.pr.hb).lt;simp at z0;cases hany:(L.take j).any (lessHid x2 proof) with
         | true =>
          have hca:=contF_in HI8.hX (hP5.below HI8.pr.hb) (hp3.below HI8.pr.hb) hnp HI8.row (show j ≤ L.length by omega) (by omega);rw [hany] at hca;have PF:Hid (pvCoin cases proof (b.short (b.after day) day c) ((b.after day).acc c) = false):=by
           show _ = _
           rw [HLd.out,pvCoin,pv_none (by rw [PS.out];simp [hP,hany]) L.length (by omega)]
          clear hany
          gi_wp2_with (gi_at_call 71;refine hca.mono ?_;rintro e w9 ⟨rfl,hb9⟩)
          (try simp only [Exit.inBlock,Exit.then])
          refine bodyPost_ret (results_tmp2 rfl _ _ _) rfl ?_;exact ⟨by rw [OK.out,all_false hlt PF.out];rfl,HB3.trans ((HI8.same hb9).pr.hb.mono HB3.size)⟩
         | false =>
          have hca:=contF_in HI8.hX (hP5.below HI8.pr.hb) (hp3.below HI8.pr.hb) hnp HI8.row (show j ≤ L.length by omega) (by omega);rw [hany] at hca;have NX:Hid (pv cases proof L ((b.after day).acc c) (j + 1) = some (k,s + 1,lf c,(upd hfx c (wrap64 (hfx c + x2))) c)):=by
           show _ = _
           rw [PS.out];simp [hC,hP,hany]
          clear hany
          gi_wp2_with (gi_at_call 71;refine hca.mono ?_;rintro e w9 ⟨rfl,hb9⟩)
          go_roundw
          case rel => exact ⟨j + 1,k,s + 1,lf,(upd hfx c (wrap64 (hfx c + x2))),by omega,by go_num,by go_num,by go_num,NX.out,fun i h1 h2 => by have:=hRest i h1 h2;simpa [upd,show i ≠ c by omega] using this,(HI8.same hb9).pr,(HI8.same hb9).row⟩
          case measure => simp [intOf];omega
        ·gi_wp2_with (gi_at_call 70;refine (hasInt_in _ _ _ _ (by first | exact hcA | exact hpA) (by first | exact hnc | exact hnp)).mono ?_;rintro e w6 ⟨rfl,rfl⟩)
         go_roundw
         case rel =>
          refine ⟨j + 1,k,s,lf,hfx,by omega,by go_num,rfl,rfl,?_,hRest,HI0.pr,HI0.row⟩;rw [PS.out];simp [hC,hP]
         case measure => simp [intOf];omega
      ·obtain rfl:j = L.length:=by omega
       have Ht2:=H.same HPr.hb;have cL:=HPr.cL (show c < 3 by omega);have cS:=HPr.cS (show c < 3 by omega);have lL:=HPr.hL.lt;have lS:=HPr.hS.lt;have tA:=Ht2.cAcc (show c < 3 by omega);have tL2:=Ht2.ltT;have hc3':(c:Int) < 3:=by omega
       simp only [Tl.bare] at tA tL2;have HPV:=Lib.hid hpv;have hle:=pv_le hpv;clear hpv;obtain ⟨lv,hlv⟩:∃ x,lf c = x:=⟨_,rfl⟩
       obtain ⟨sv,hsv⟩:∃ x,hfx c = x:=⟨_,rfl⟩
       rw [hlv] at cL HPV;rw [hsv] at cS HPV;have LV:=Lib.hid hlv;have SV:=Lib.hid hsv;clear hlv hsv;by_cases q1:lv < 0
       ·have PF:Hid (pvCoin cases proof (b.short (b.after day) day c) ((b.after day).acc c) = false):=by
         show _ = _
         rw [HLd.out,pvCoin,HPV.out];simp [q1]
        gi_wp2
        (try simp only [Exit.inBlock,Exit.then])
        refine bodyPost_ret (results_tmp2 rfl _ _ _) rfl ?_;exact ⟨by rw [OK.out,all_false hlt PF.out];rfl,HB3.trans (HPr.hb.mono HB3.size)⟩
       ·by_cases q2:k = L.length
        ·by_cases q3:s = 0
         ·have PF:Hid (pvCoin cases proof (b.short (b.after day) day c) ((b.after day).acc c) = true):=by
           show _ = _
           rw [HLd.out,pvCoin,HPV.out];simp [q2,q3];omega
          subst q2 q3;rw [show ((0:Nat):Int) = 0 from rfl];gi_wp2;go_roundw
          case rel => exact ⟨c + 1,by omega,by go_num,by rw [all_succ,ACC.out,PF.out];rfl,lf,hfx,hRest,HPr⟩
          case measure => simp [intOf];omega
         ·have PF:Hid (pvCoin cases proof (b.short (b.after day) day c) ((b.after day).acc c) = false):=by
           show _ = _
           rw [HLd.out,pvCoin,HPV.out];simp [q2,q3]
          have q3':¬ ((s:Int) = 0):=by omega
          subst q2
          gi_wp2_with fail
          refine wpIn_region_reads (fun w' => Below wr.heap.size wr w') rfl mixed (by kernel_rfl) (fun d => ⟨rfl,rfl,rfl,Nat.le_refl _,fun _ _ => rfl⟩) ?_;simp only [List.size_toArray,List.length_cons,List.length_nil,Nat.reduceAdd,Nat.zero_add,List.range,List.range.loop]
          iterate 5
           refine det_pure rfl rfl (by decide) ?_;apply Exists.intro;refine ⟨fun T w' hw' K Q hK => ?_,?_⟩
           ·gi_wp2
            try exact hw'
           apply Exists.intro;refine ⟨rfl,?_⟩
          refine det_skipD (d:=118) rfl rfl rfl (by decide) (fun w f hf => by cases hf) ?_;simp only [Act.put,List.setIfInBounds_toArray,List.set_cons_zero,List.set_cons_succ];refine det_skipD (d:=119) rfl rfl rfl (by decide) (fun w f hf => by cases hf) ?_;simp only [Act.put,List.setIfInBounds_toArray,List.set_cons_zero,List.set_cons_succ];refine det_skipD (d:=120) rfl rfl rfl (by decide) (fun w f hf => by cases hf) ?_;simp only [Act.put,List.setIfInBounds_toArray,List.set_cons_zero,List.set_cons_succ];refine det_skipD (d:=121) rfl rfl rfl (by decide) (fun w f hf => by cases hf) ?_;simp only [Act.put,List.setIfInBounds_toArray,List.set_cons_zero,List.set_cons_succ]
          iterate 2
           refine det_pure rfl rfl (by decide) ?_;apply Exists.intro;refine ⟨fun T w' hw' K Q hK => ?_,?_⟩
           ·gi_wp2
            try exact hw'
           apply Exists.intro;refine ⟨rfl,?_⟩
          refine det_skipD (d:=124) rfl rfl rfl (by decide) (fun w f hf => by cases hf) ?_;simp only [Act.put,List.setIfInBounds_toArray,List.set_cons_zero,List.set_cons_succ];refine det_skipD (d:=125) rfl rfl rfl (by decide) (fun w f hf => by cases hf) ?_;simp only [Act.put,List.setIfInBounds_toArray,List.set_cons_zero,List.set_cons_succ];refine det_skipD (d:=126) rfl rfl rfl (by decide) (fun w f hf => by cases hf) ?_;simp only [Act.put,List.setIfInBounds_toArray,List.set_cons_zero,List.set_cons_succ];refine det_skipD (d:=127) rfl rfl rfl (by decide) (fun w f hf => by cases hf) ?_;simp only [Act.put,List.setIfInBounds_toArray,List.set_cons_zero,List.set_cons_succ];refine det_skipD (d:=128) rfl rfl rfl (by decide) (fun w f hf => by cases hf) ?_;simp only [Act.put,List.setIfInBounds_toArray,List.set_cons_zero,List.set_cons_succ];refine det_skipD (d:=129) rfl rfl rfl (by decide) (fun w f hf => by cases hf) ?_;simp only [Act.put,List.setIfInBounds_toArray,List.set_cons_zero,List.set_cons_succ];refine det_skipD (d:=130) rfl rfl rfl (by decide) (fun w f hf => by cases hf) ?_;simp only [Act.put,List.setIfInBounds_toArray,List.set_cons_zero,List.set_cons_succ];refine det_skipD (d:=131) rfl rfl rfl (by decide) (fun w f hf => by cases hf) ?_;simp only [Act.put,List.setIfInBounds_toArray,List.set_cons_zero,List.set_cons_succ];refine det_skipD (d:=132) rfl rfl rfl (by decide) (fun w f hf => by cases hf) ?_;simp only [Act.put,List.setIfInBounds_toArray,List.set_cons_zero,List.set_cons_succ];refine det_skipD (d:=133) rfl rfl rfl (by decide) (fun w f hf => by cases hf) ?_;simp only [Act.put,List.setIfInBounds_toArray,List.set_cons_zero,List.set_cons_succ]
          iterate 2
           refine det_pure rfl rfl (by decide) ?_;apply Exists.intro;refine ⟨fun T w' hw' K Q hK => ?_,?_⟩
           ·gi_wp2
            try exact hw'
           apply Exists.intro;refine ⟨rfl,?_⟩
          intro w6 hb6;gi_wp2
          (try simp only [Exit.inBlock,Exit.then])
          refine bodyPost_ret (results_tmp2 rfl _ _ _) rfl ?_;exact ⟨by rw [OK.out,all_false hlt PF.out];rfl,HB3.trans ((HPr.same hb6).hb.mono HB3.size)⟩
        ·have q2':¬ ((k:Int) = (L.length:Int)):=by omega
         have q4':IntKind.i64.wrap ((k:Int) + 1) = k + 1:=by rw [IntKind.wrap_i64];omega
         have d1:decide ((k:Int) = (L.length:Int)) = false:=decide_eq_false q2';have d2:((k:Int) == (L.length:Int)) = false:=beq_eq_false_iff_ne.2 q2';have d3:decide (k = L.length) = false:=decide_eq_false q2;have d4:(k == L.length) = false:=by simpa using q2
         by_cases q4:s = k + 1
         ·by_cases q5:sv ≤ (b.after day).acc c
          ·have PF:Hid (pvCoin cases proof (b.short (b.after day) day c) ((b.after day).acc c) = false):=by
            show _ = _
            rw [HLd.out,pvCoin,HPV.out];simp [q2,q4,q5]
           subst q4
           gi_wp2_with fail
           refine wpIn_region_reads (fun w' => Below wr.heap.size wr w') rfl mixed (by kernel_rfl) (fun d => ⟨rfl,rfl,rfl,Nat.le_refl _,fun _ _ => rfl⟩) ?_;simp only [List.size_toArray,List.length_cons,List.length_nil,Nat.reduceAdd,Nat.zero_add,List.range,List.range.loop]
           iterate 13
            refine det_pure rfl rfl (by decide) ?_;apply Exists.intro;refine ⟨fun T w' hw' K Q hK => ?_,?_⟩
            ·gi_wp2
             try exact hw'
            apply Exists.intro;refine ⟨rfl,?_⟩
           refine det_pre rfl rfl (by kernel_rfl) (.inr rfl) ?_;apply Exists.intro;refine ⟨fun w' hw' K Q hK => ?_,?_⟩
           ·have G:=HPr.same hw';have cS:=G.cS (show c < 3 by omega);rw [SV.out] at cS;have lS:=G.hS.lt;have Gt:=H.same G.hb;have tA:=Gt.cAcc (show c < 3 by omega);have tL2:=Gt.ltT;simp only [Tl.bare] at tA tL2;gi_wp2
            try exact hw'
           iterate 5
            apply Exists.intro;refine ⟨rfl,?_⟩;refine det_pure rfl rfl (by decide) ?_;apply Exists.intro;refine ⟨fun T w' hw' K Q hK => ?_,?_⟩
            ·gi_wp2
             try exact hw'
           apply Exists.intro;refine ⟨rfl,?_⟩;refine det_pre rfl rfl (by kernel_rfl) (.inr rfl) ?_;apply Exists.intro;refine ⟨fun w' hw' K Q hK => ?_,?_⟩
           ·have G:=HPr.same hw';have cS:=G.cS (show c < 3 by omega);rw [SV.out] at cS;have lS:=G.hS.lt;have Gt:=H.same G.hb;have tA:=Gt.cAcc (show c < 3 by omega);have tL2:=Gt.ltT;simp only [Tl.bare] at tA tL2;gi_wp2
            try exact hw'
           iterate 3
            apply Exists.intro;refine ⟨rfl,?_⟩;refine det_pure rfl rfl (by decide) ?_;apply Exists.intro;refine ⟨fun T w' hw' K Q hK => ?_,?_⟩
            ·gi_wp2
             try exact hw'
           apply Exists.intro;refine ⟨rfl,?_⟩;intro w6 hb6;gi_wp2
           (try simp only [Exit.inBlock,Exit.then])
           refine bodyPost_ret (results_tmp2 rfl _ _ _) rfl ?_;exact ⟨by rw [OK.out,all_false hlt PF.out];rfl,HB3.trans ((HPr.same hb6).hb.mono HB3.size)⟩
          ·have PF:Hid (pvCoin cases proof (b.short (b.after day) day c) ((b.after day).acc c) = true):=by
            show _ = _
            rw [HLd.out,pvCoin,HPV.out];simp [q2,q4,q5,q1]
           subst q4
           gi_wp2_with fail
           refine wpIn_region_reads (fun w' => Below wr.heap.size wr w') rfl mixed (by kernel_rfl) (fun d => ⟨rfl,rfl,rfl,Nat.le_refl _,fun _ _ => rfl⟩) ?_;simp only [List.size_toArray,List.length_cons,List.length_nil,Nat.reduceAdd,Nat.zero_add,List.range,List.range.loop]
           iterate 13
            refine det_pure rfl rfl (by decide) ?_;apply Exists.intro;refine ⟨fun T w' hw' K Q hK => ?_,?_⟩
            ·gi_wp2
             try exact hw'
            apply Exists.intro;refine ⟨rfl,?_⟩
           refine det_pre rfl rfl (by kernel_rfl) (.inr rfl) ?_;apply Exists.intro;refine ⟨fun w' hw' K Q hK => ?_,?_⟩
           ·have G:=HPr.same hw';have cS:=G.cS (show c < 3 by omega);rw [SV.out] at cS;have lS:=G.hS.lt;have Gt:=H.same G.hb;have tA:=Gt.cAcc (show c < 3 by omega);have tL2:=Gt.ltT;simp only [Tl.bare] at tA tL2;gi_wp2
            try exact hw'
           iterate 5
            apply Exists.intro;refine ⟨rfl,?_⟩;refine det_pure rfl rfl (by decide) ?_;apply Exists.intro;refine ⟨fun T w' hw' K Q hK => ?_,?_⟩
            ·gi_wp2
             try exact hw'
           apply Exists.intro;refine ⟨rfl,?_⟩;refine det_pre rfl rfl (by kernel_rfl) (.inr rfl) ?_;apply Exists.intro;refine ⟨fun w' hw' K Q hK => ?_,?_⟩
           ·have G:=HPr.same hw';have cS:=G.cS (show c < 3 by omega);rw [SV.out] at cS;have lS:=G.hS.lt;have Gt:=H.same G.hb;have tA:=Gt.cAcc (show c < 3 by omega);have tL2:=Gt.ltT;simp only [Tl.bare] at tA tL2;gi_wp2
            try exact hw'
           iterate 3
            apply Exists.intro;refine ⟨rfl,?_⟩;refine det_pure rfl rfl (by decide) ?_;apply Exists.intro;refine ⟨fun T w' hw' K Q hK => ?_,?_⟩
            ·gi_wp2
             try exact hw'
           apply Exists.intro;refine ⟨rfl,?_⟩;intro w6 hb6;gi_wp2;go_roundw
           case rel => exact ⟨c + 1,by omega,by go_num,by rw [all_succ,ACC.out,PF.out];rfl,lf,hfx,hRest,HPr.same hb6⟩
           case measure => simp [intOf];omega
         ·have PF:Hid (pvCoin cases proof (b.short (b.after day) day c) ((b.after day).acc c) = false):=by
           show _ = _
           rw [HLd.out,pvCoin,HPV.out];simp [q2,q4]
          have q4'':¬ ((s:Int) = (k:Int) + 1):=by omega
          have d5:decide ((s:Int) = (k:Int) + 1) = false:=decide_eq_false q4'';have d6:((s:Int) == (k:Int) + 1) = false:=beq_eq_false_iff_ne.2 q4'';have d7:((s:Int) != (k:Int) + 1) = true:=by simp [bne,d6]
          have d8:decide (s = k + 1) = false:=decide_eq_false q4
          gi_wp2_with fail
          refine wpIn_region_reads (fun w' => Below wr.heap.size wr w') rfl mixed (by kernel_rfl) (fun d => ⟨rfl,rfl,rfl,Nat.le_refl _,fun _ _ => rfl⟩) ?_;simp only [List.size_toArray,List.length_cons,List.length_nil,Nat.reduceAdd,Nat.zero_add,List.range,List.range.loop]
          iterate 11
           refine det_pure rfl rfl (by decide) ?_;apply Exists.intro;refine ⟨fun T w' hw' K Q hK => ?_,?_⟩
           ·gi_wp2
            try exact hw'
           apply Exists.intro;refine ⟨rfl,?_⟩
          refine det_skipD (d:=124) rfl rfl rfl (by decide) (fun w f hf => by cases hf) ?_;simp only [Act.put,List.setIfInBounds_toArray,List.set_cons_zero,List.set_cons_succ];refine det_skipD (d:=125) rfl rfl rfl (by decide) (fun w f hf => by cases hf) ?_;simp only [Act.put,List.setIfInBounds_toArray,List.set_cons_zero,List.set_cons_succ];refine det_skipD (d:=126) rfl rfl rfl (by decide) (fun w f hf => by cases hf) ?_;simp only [Act.put,List.setIfInBounds_toArray,List.set_cons_zero,List.set_cons_succ];refine det_skipD (d:=127) rfl rfl rfl (by decide) (fun w f hf => by cases hf) ?_;simp only [Act.put,List.setIfInBounds_toArray,List.set_cons_zero,List.set_cons_succ];refine det_skipD (d:=128) rfl rfl rfl (by decide) (fun w f hf => by cases hf) ?_;simp only [Act.put,List.setIfInBounds_toArray,List.set_cons_zero,List.set_cons_succ];refine det_skipD (d:=129) rfl rfl rfl (by decide) (fun w f hf => by cases hf) ?_;simp only [Act.put,List.setIfInBounds_toArray,List.set_cons_zero,List.set_cons_succ];refine det_skipD (d:=130) rfl rfl rfl (by decide) (fun w f hf => by cases hf) ?_;simp only [Act.put,List.setIfInBounds_toArray,List.set_cons_zero,List.set_cons_succ];refine det_skipD (d:=131) rfl rfl rfl (by decide) (fun w f hf => by cases hf) ?_;simp only [Act.put,List.setIfInBounds_toArray,List.set_cons_zero,List.set_cons_succ];refine det_skipD (d:=132) rfl rfl rfl (by decide) (fun w f hf => by cases hf) ?_;simp only [Act.put,List.setIfInBounds_toArray,List.set_cons_zero,List.set_cons_succ];refine det_skipD (d:=133) rfl rfl rfl (by decide) (fun w f hf => by cases hf) ?_;simp only [Act.put,List.setIfInBounds_toArray,List.set_cons_zero,List.set_cons_succ]
          iterate 2
           refine det_pure rfl rfl (by decide) ?_;apply Exists.intro;refine ⟨fun T w' hw' K Q hK => ?_,?_⟩
           ·gi_wp2
            try exact hw'
           apply Exists.intro;refine ⟨rfl,?_⟩
          intro w6 hb6;gi_wp2
          (try simp only [Exit.inBlock,Exit.then])
          refine bodyPost_ret (results_tmp2 rfl _ _ _) rfl ?_;exact ⟨by rw [OK.out,all_false hlt PF.out];rfl,HB3.trans ((HPr.same hb6).hb.mono HB3.size)⟩
    ·obtain rfl:c = b.coins.length:=by omega
     have HA:=Lib.hid hall;clear hall;gi_wp2
     (try simp only [Exit.inBlock,Exit.then])
     refine bodyPost_ret (results_tmp2 rfl _ _ _) rfl ?_;exact ⟨by rw [OK.out,HA.out];rfl,HB3.trans (HP.hb.mono HB3.size)⟩
  ·have ok2':b.okList (b.after day) proof proof.length = false:=by simpa using ok2
   have OKF:=Lib.hid (show b.proves (b.after day) day cases proof = false by unfold Book.proves;rw [ok1,ok2'];rfl);gi_enter Tryz.func33,Tryz.ntmps33
   gi_wp2;refine wpIn_scope (fun _ _ _ h => h) ?_
   gi_wp2_with (first
    | (gi_at_call 43;refine (hasked _ hb2).mono ?_;rintro e w2 ⟨rfl,hbA⟩;have HB2:=hb2.trans (hbA.mono hb2.size);have HB:=HB2.alloc HB2.size (.cells (l.arr b) 77);have hA4:=(hA2.below hbA).below ((Below.refl _ _).alloc (Nat.le_refl _) (.cells (l.arr b) 77));have hP4:=(hP2.below hbA).below ((Below.refl _ _).alloc (Nat.le_refl _) (.cells (l.arr b) 77)))
    | (gi_at_call 57;refine (hafter _ HB).mono ?_;rintro e w3 ⟨T,Sb,rfl,H,hbB⟩;have HB3:=HB.trans (hbB.mono HB.size);have hA5:=hA4.below hbB;have hP5:=hP4.below hbB;have e0:=hA5.cell 0;have e1:=hA5.cell 1;have e2:=hA5.cell 2;have e3:=hA5.cell 3;have eL:=hA5.lt;have p0:=hP5.cell 0;have pL:=hP5.lt;simp at e0 e1 e2 e3 p0;have t0:=H.c5;have t1:=H.c6;have t2:=H.c7;have tL:=H.ltT;have hc3:=hvc.below HB3;have hp3:=hvp.below HB3;simp only [Tl.bare] at t0 t1 t2 tL)
    | (gi_at_call 69;refine (lists_in H hf.v (by first | exact hc3 | exact hp3) (by first | exact hnc | exact hnp)).mono ?_;rintro e w4 ⟨rfl,rfl⟩))
   (try simp only [Exit.inBlock,Exit.then])
   refine bodyPost_ret (results_tmp2 rfl _ _ _) rfl ?_;exact ⟨by rw [OKF.out];rfl,HB3⟩
 ·have ok1':b.okList (b.after day) cases cases.length = false:=by simpa using ok1
  have OKF:=Lib.hid (show b.proves (b.after day) day cases proof = false by unfold Book.proves;rw [ok1'];rfl);gi_enter Tryz.func33,Tryz.ntmps33
  gi_wp2;refine wpIn_scope (fun _ _ _ h => h) ?_
  gi_wp2_with (first
   | (gi_at_call 43;refine (hasked _ hb2).mono ?_;rintro e w2 ⟨rfl,hbA⟩;have HB2:=hb2.trans (hbA.mono hb2.size);have HB:=HB2.alloc HB2.size (.cells (l.arr b) 77);have hA4:=(hA2.below hbA).below ((Below.refl _ _).alloc (Nat.le_refl _) (.cells (l.arr b) 77));have hP4:=(hP2.below hbA).below ((Below.refl _ _).alloc (Nat.le_refl _) (.cells (l.arr b) 77)))
   | (gi_at_call 57;refine (hafter _ HB).mono ?_;rintro e w3 ⟨T,Sb,rfl,H,hbB⟩;have HB3:=HB.trans (hbB.mono HB.size);have hA5:=hA4.below hbB;have hP5:=hP4.below hbB;have e0:=hA5.cell 0;have e1:=hA5.cell 1;have e2:=hA5.cell 2;have e3:=hA5.cell 3;have eL:=hA5.lt;have p0:=hP5.cell 0;have pL:=hP5.lt;simp at e0 e1 e2 e3 p0;have t0:=H.c5;have t1:=H.c6;have t2:=H.c7;have tL:=H.ltT;have hc3:=hvc.below HB3;have hp3:=hvp.below HB3;simp only [Tl.bare] at t0 t1 t2 tL)
   | (gi_at_call 69;refine (lists_in H hf.v (by first | exact hc3 | exact hp3) (by first | exact hnc | exact hnp)).mono ?_;rintro e w4 ⟨rfl,rfl⟩))
  (try simp only [Exit.inBlock,Exit.then])
  refine bodyPost_ret (results_tmp2 rfl _ _ _) rfl ?_;exact ⟨by rw [OKF.out];rfl,HB3⟩
end Go.Proofs.YtnkejaohnhpbpaaGreatDoor
