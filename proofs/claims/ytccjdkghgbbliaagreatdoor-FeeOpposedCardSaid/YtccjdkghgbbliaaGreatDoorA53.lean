/- rival.runs: the function over which is ranged goes through all orders, by depth: inside the fence. -/
import Derived.Test.YtccjdkghgbbliaaGreatDoorA52
set_option linter.all false
namespace Go.Proofs.YtccjdkghgbbliaaGreatDoor
section
set_option maxHeartbeats 1000000
set_option maxRecDepth 10000
set_option maxHeartbeats 64000000
set_option maxRecDepth 100000
open Go Go.RowKit Lift
theorem SH:∀(m:Fin 32) (n:Fin 6),pop m.val<n.val→∃i:Fin 5,i.val<n.val∧m.val / 2 ^ i.val % 2=0:=by decide +kernel
theorem SG{m n:Nat}(hm:m<32)(hn:n≤5)(h:pop m<n):∃i,i<n∧m / 2 ^ i % 2=0:=by
 obtain⟨i,h1,h2⟩:=SH ⟨m,hm⟩ ⟨n,by omega⟩ h;exact⟨i.val,h1,h2⟩
theorem and_fin:∀(m:Fin 32) (i:Fin 5),bits BinOp.and .i64 (((m.val:Nat):Int) / 2 ^ i.val) 1=((m.val / 2 ^ i.val % 2:Nat):Int):=by decide +kernel
theorem Rh{m i:Nat}(hm:m<32)(hi:i<5):bits BinOp.and .i64 ((m:Int) / 2 ^ i) 1=((m / 2 ^ i % 2:Nat):Int):=and_fin ⟨m,hm⟩ ⟨i,hi⟩
def sliceOf:Value→Value
 |.slice a n c=>.slice a n c
 |_=>.slice none 0 0
def Ij(v:Value)(j:Nat):Value:=match v with
 |.agg a=>a.getD j undef
 |_=>undef
def encR(z:Bool)(m:Nat)(o:Value):Array Value:=#[.agg (pW (sliceOf (Ij o 0)) z m (intOf (Ij o 1)))]
theorem Rn{G:Nat}{w:World}{v:Value}{xs:List Nat}(h:iy G w v xs)(hx:xs.length≤5)(h5:∀x∈xs,x<5):CallsIn Fz 0 Tryz.prog 250 #[v] w λe w'=>(∃m:Nat,m<32∧pop m≤xs.length∧e=.returned (.int .i64 m))∧w'=w:=by
 rcases h with⟨rfl,rfl⟩|⟨B,cap,rfl,h2,h3,h4⟩
 ·exact(uJ w).mono λe w' ⟨h1,h2⟩=>⟨⟨0,by omega,by decide,h1⟩,h2⟩
 ·exact Rl hx h2.2 (λj=>xs.getD j 0) (λj hj=>by
   rw[List.getD_eq_getElem?_getD,List.getElem?_eq_getElem hj];exact h5 _ (List.getElem_mem hj)) h4
def W8(G m:Nat)(xs:List Nat)(A:World)(fin:World→Prop):Wm:=λD x w'=>(D 5=true→D 4=true)∧(D 5=false→Below A.heap.size A w')∧(D 5=false→D 4=true→∃(v':Value) (zu:Nat),zu<32∧x 49=.agg (pW v' false m (zu:Nat))∧iy G w' v' xs)∧(D 5=true→fin w')
section
variable {G m i j:Nat} {xs:List Nat} {A w w':World} {fin:World→Prop} {D:Nat→Bool} {x:Tmp→Value} {u:Value}
theorem dS(h:i≠j):aX D i j=D j:=by simp[aX,Ne.symm h]
theorem W8.step(h:W8 G m xs A fin D x w)(h4:i≠4)(h5:i≠5):W8 G m xs A fin (aX D i) x w:=by
 have e4:=dS (D:=D) h4;have e5:=dS (D:=D) h5;exact⟨by rw[e5,e4];exact h.1,by rw[e5];exact h.2.1,by rw[e5,e4];exact h.2.2.1,by rw[e5];exact h.2.2.2⟩
theorem W8.no5(h:W8 G m xs A fin D x w)(h4:D 4=false):D 5=false:=by
 cases q:D 5
 ·rfl
 ·rw[h.1 q]at h4;cases h4
theorem W8.four(h:W8 G m xs A fin D x w)(h4:D 4=false)(hb:Below w.heap.size w w')(hu:∃(v':Value) (zu:Nat),zu<32∧u=.agg (pW v' false m (zu:Nat))∧iy G w' v' xs):W8 G m xs A fin (aX D 4) (iq x 49 u) w':=by
 have e5:=dS (D:=D) (show 4≠5 by decide);have d5:=h.no5 h4;have hb0:=h.2.1 d5;refine⟨λ_=>by simp[aX],λ_=>hb0.trans (hb.mono hb0.size),λ_ _=>by simpa[iq]using hu,λq=>?_⟩;rw[e5,d5]at q;cases q
theorem W8.five(h:W8 G m xs A fin D x w)(h4:D 4=true)(hf:fin w'):W8 G m xs A fin (aX D 5) x w':=by
 refine⟨λ_=>by rw[dS (by decide)];exact h4,λq=>?_,λq=>?_,λ_=>hf⟩<;>simp[aX]at q
end
end
section
set_option maxHeartbeats 1000000
set_option maxRecDepth 10000
set_option maxHeartbeats 64000000
set_option maxRecDepth 100000
open Go Go.RowKit Lift
theorem encR_mk(z:Bool)(m:Nat)(a:Option Addr)(n c:Nat)(won:Int):encR z m (.agg #[.slice a n c,.int .i64 won])=#[.agg #[.slice a n c,.bool (z&&decide (0<m)),.bool (decide (1<m)),.bool (decide (2<m)),.bool (decide (3<m)),.bool (decide (4<m)),.bool (decide (5<m)),.int .i64 won]]:=rfl
structure FD (N G X Y Nx lp:Nat) (b:RV) (J:Nat→World→Prop) (most:Nat):Prop where
 hO:b.Ok
 hNG:N≤G
 hXG:X<G
 hY:G≤Y
 hN:G≤Nx
 below:∀k A B,J k A→Below G A B→J k B
 at_:∀k A,J k A→nP N b A∧Blk A X 252 b.arr
 yl:∀k o A,k<most→J k A→G≤A.heap.size→YieldAt Fz (0-1) Tryz.prog lp (encR b.cs.isEmpty b.rights.length o) A λe B=>e=.returned (.bool true)∧J (k+1) B∧aT G A B
def Fv(G X Y Nx lp:Nat)(b:RV)(J:Nat→World→Prop)(most d:Nat):Prop:=
 ∀(xs:List Nat) (v:Value) (won k:Nat) (W:World),xs.length+d=b.cs.length→(∀x∈xs,x<5)→iy G W v xs→won<32→J k W→G≤W.heap.size→
  Blk W Y 372 #[.func (.yield lp) #[] #[]]→Blk W Nx 372 #[.func (.func 249) #[] #[.pointer (some ⟨X,0,none⟩),.pointer (some ⟨Y,0,none⟩),.pointer (some ⟨Nx,0,none⟩)]]→k+6 ^ d≤most→
  CallsIn Fz 0 Tryz.prog 249 #[.agg (pW v xs.isEmpty b.rights.length (won:Nat)),.pointer (some ⟨X,0,none⟩),.pointer (some ⟨Y,0,none⟩),.pointer (some ⟨Nx,0,none⟩)] W λe B=>
   e=.returned (.bool true)∧∃k',k<k'∧k'≤k+6 ^ d∧J k' B∧aT G W B
section
variable {N G X Y Nx lp:Nat} {b:RV} {J:Nat→World→Prop} {most:Nat}
theorem PX(C:FD N G X Y Nx lp b J most):Fv G X Y Nx lp b J most 0:=by
 intro xs v won k W hl h5 hv hw hJ hG hbY hbN hm;obtain⟨ao,cap,rfl,hcap⟩:=hv.slice;have hl':xs.length=b.cs.length:=by omega
 have hz:xs.isEmpty=b.cs.isEmpty:=by
  rw[Bool.eq_iff_iff,List.isEmpty_iff_length_eq_zero,List.isEmpty_iff_length_eq_zero,hl']
 have hb2:=C.hO.c5;obtain⟨hrv,hbX⟩:=C.at_ k W hJ;rw[hz,hl'];have IY:=(Below.refl _ W).alloc (ak _) (.cells (pW (.slice ao b.cs.length cap) b.cs.isEmpty b.rights.length (won:Nat)) 324);have hA:=Blk.new W (pW (.slice ao b.cs.length cap) b.cs.isEmpty b.rights.length (won:Nat)) 324;obtain⟨fn,tmps,assign,body,hy,hR⟩:=C.yl k (.agg #[.slice ao b.cs.length cap,.int .i64 (won:Nat)]) (W.alloc (.cells (pW (.slice ao b.cs.length cap) b.cs.isEmpty b.rights.length (won:Nat)) 324)) (by omega) (C.below _ _ _ hJ (IY.mono hG)) (by simp;omega);rw[encR_mk]at hy;have hX1:=hbX.below IY;have NU:=hbY.below IY;have x1:=hX1.cell 1;have y0:=NU.cell 0;have a0:=hA.cell 0;have a1:=hA.cell 1;have a2:=hA.cell 2;have a3:=hA.cell 3;have a4:=hA.cell 4;have a5:=hA.cell 5;have a6:=hA.cell 6;have a7:=hA.cell 7;simp at x1 y0 a0 a1 a2 a3 a4 a5 a6 a7;have lX:=hX1.lt;have lY:=NU.lt;simp at lX lY;clear hl hl' hz;gi_enter Tryz.func249,Tryz.ntmps249
 gi_wp2;refine vP (λ_ _ _ h=>h) ?_;gi_wp2;refine hR.mono ?_;rintro e W4 ⟨rfl,hJ4,hK4⟩;gi_wp2;go_ret;exact⟨rfl,k+1,by omega,by simp,hJ4,(aT.alloc G W _).trans hK4⟩
theorem PW(C:FD N G X Y Nx lp b J most){d:Nat}(ih:Fv G X Y Nx lp b J most d):Fv G X Y Nx lp b J most (d+1):=by
 intro xs v won k W hl h5 hv hw hJ hG hbY hbN hm;have c5:=C.hO.c5;have hxl:xs.length<b.cs.length:=by omega
 have hm6:=hm;have hne:¬((xs.length:Int)=b.cs.length):=by omega
 obtain⟨hrv,hbX⟩:=C.at_ k W hJ;obtain⟨ao,cap,hvs,hcap⟩:=hv.slice;have IY:=(Below.refl _ W).alloc (ak _) (.cells (pW v xs.isEmpty b.rights.length (won:Nat)) 324);have hA:=Blk.new W (pW v xs.isEmpty b.rights.length (won:Nat)) 324;have hKA:aT G W _:=aT.alloc G W (.cells (pW v xs.isEmpty b.rights.length (won:Nat)) 324);have hJA:=C.below _ _ _ hJ (IY.mono hG);have hX1:=hbX.below IY;have hbits:=Rn (hv.below IY) (by omega) h5;subst hvs;have x1:=hX1.cell 1;have a0:=hA.cell 0;simp at x1 a0;have lX:=hX1.lt;have lA:=hA.lt;simp at lX lA;gi_enter Tryz.func249,Tryz.ntmps249
 gi_wp2;refine vP (λ_ _ _ h=>h) ?_
 gi_wp2_with (gi_at_call 250;refine hbits.mono ?_;rintro e w2 ⟨⟨m,hm32,hpop,rfl⟩,rfl⟩)
 refine wpIn_label ?_;gi_wp2;gi_loopw [27] (λv wr=>∃i k':Nat,i≤b.cs.length∧v=.int .i64 i∧J k' wr∧aT G W wr∧Blk wr W.heap.size 324 (pW (.slice ao xs.length cap) xs.isEmpty b.rights.length (won:Nat))∧k≤k'∧k'≤k+i * 6 ^ d∧(k<k'∨∃j,i≤j∧j<b.cs.length∧m / 2 ^ j % 2=0)) (λv _=>b.cs.length-(intOf v).toNat)
 case atStart=>
  obtain⟨j,j1,j2⟩:=SG hm32 c5 (Nat.lt_of_le_of_lt hpop hxl);exact⟨0,k,Nat.zero_le _,rfl,hJA,hKA,hA,ak _,by omega,.inr ⟨j,Nat.zero_le _,j1,j2⟩⟩
 case round=>
  clear hJA hKA hX1 hA hbits x1 a0 lX lA hrv hbX IY hJ;obtain⟨i,k',hi,rfl,hJ,hK,hA,hk1,hk2,hk3⟩:=hrel;by_cases hil:i<b.cs.length
  ·have hil':(i:Int)<b.cs.length:=by omega
   obtain⟨hrv,hbX⟩:=C.at_ k' wr hJ;obtain⟨x,o,e1,e2,e3⟩:=hrv.cas hil;obtain⟨c0,c1,c2,c3⟩:=e3 i hil;have hszG:G≤wr.heap.size:=Nat.le_trans hG hK.size;have lt0:x<wr.heap.size:=aB e2 (Nat.le_trans C.hNG hszG);have hAv:iy G wr (.slice ao xs.length cap) xs:=hv.keeps hK;have hYw:Blk wr Y 372 #[.func (.yield lp) #[] #[]]:=(hK.same Y C.hY hbY.lt).trans hbY;have hNw:Blk wr Nx 372 #[.func (.func 249) #[] #[.pointer (some ⟨X,0,none⟩),.pointer (some ⟨Y,0,none⟩),.pointer (some ⟨Nx,0,none⟩)]]:=(hK.same Nx C.hN hbN.lt).trans hbN;rw[e1];clear e3;generalize (b.cAt i).nm=nm at *;generalize (b.cAt i).gb=gb at *;have hB7:=Blk.new wr #[.string nm,.int .i64 0,.slice (some ⟨gb,0,none⟩) 1 1,.slice none 0 0] 173;have z3:=hB7.cell 3;simp at z3;have l7:=hB7.lt;have hbit:=Rh hm32 (show i<5 by omega);by_cases h0:m / 2 ^ i % 2=0
   ·rw[h0]at hbit;have an:=yg hm32
    gi_wp2_with (gi_at_call 250;refine(uJ _).mono ?_;rintro e w2 ⟨rfl,rfl⟩)
    obtain⟨A,hA0⟩:∃A,A=wr.alloc (.cells #[.string nm,.int .i64 0,.slice (some ⟨gb,0,none⟩) 1 1,.slice none 0 0] 173):=⟨_,rfl⟩
    have Ep:=(Below.refl _ wr).alloc (ak _) (.cells #[.string nm,.int .i64 0,.slice (some ⟨gb,0,none⟩) 1 1,.slice none 0 0] 173);have hKB:=aT.alloc G wr (.cells #[.string nm,.int .i64 0,.slice (some ⟨gb,0,none⟩) 1 1,.slice none 0 0] 173);rw[← hA0]at Ep hKB ⊢;have Pg:=hbX.below Ep;have hYA:=hYw.below Ep;have hNA:=hNw.below Ep;have CW:=hA.below Ep;have hvA:=hAv.below Ep;have hJA:=C.below _ _ _ hJ (Ep.mono hszG);have hrA:=(C.at_ k' A hJA).1;have hGA:G≤A.heap.size:=Nat.le_trans hszG Ep.size;have hKA:=hK.trans hKB;clear Ep hKB hA0 hB7 z3 l7 e1 c0 c1 c2 c3 hbX hYw hNw hA hAv hbit an hrv hK hJ lt0;have hmm:k'+6 ^ d≤most:=by
     have hmul:(i+1) * 6 ^ d≤6 * 6 ^ d:=Nat.mul_le_mul_right _ (by omega);rw[Nat.add_mul,Nat.one_mul]at hmul;rw[Nat.pow_succ,Nat.mul_comm]at hm6;omega
    have hcall:=λw' (hb:Below A.heap.size A w')=>RJ C.hO (hrA.below (hb.mono hrA.hN)) hil (Nat.le_trans hGA hb.size) (hvA.below hb) (by omega) xs.isEmpty hw;have Ny:=Lib.hid hcall;clear hcall;refine dB rfl mixed (by kernel_rfl) (W8 G b.rights.length (xs++[i]) A λw'=>∃k'',k'<k''∧k''≤k'+6 ^ d∧J k'' w'∧aT G A w') [49] (x₀:=λ_=>u49) (λg hg=>by simp only[List.mem_cons,List.not_mem_nil,or_false]at hg;rcases hg with rfl;rfl) ⟨λq=>Bool.noConfusion q,λ_=>⟨rfl,rfl,rfl,ak _,λ_ _=>rfl⟩,λ_ q=>Bool.noConfusion q,λq=>Bool.noConfusion q⟩ ?_;simp only[aG,aC,aF,Nat.reduceAdd,Nat.zero_add,List.range,List.range.loop]
    iterate 1
     (refine bT (u0:=λ_=>u49) rfl (λ_=>rfl) (λg hg=>by simp only[List.mem_cons,List.not_mem_nil,or_false]at hg;rcases hg with rfl;decide) (λg hg=>by simp only[List.mem_cons,List.not_mem_nil,or_false]at hg;rcases hg with rfl;rfl) ?_
      apply ah;refine⟨λD x w' hm hW K Q hK=>?_,?_⟩
      ·simp only[Lift.Act.bF,Act.put,List.foldl_cons,List.foldl_nil,aj,ay,au];have hb:=hW.2.1 (hm.2.2 5 (by kernel_rfl));have q0:=(Pg.below hb).cell 0;have q1:=(Pg.below hb).cell 1;have q2:=(hNA.below hb).cell 0;have r0:=(CW.below hb).cell 0;have r1:=(CW.below hb).cell 1;have r2:=(CW.below hb).cell 2;have r3:=(CW.below hb).cell 3;have r4:=(CW.below hb).cell 4;have r5:=(CW.below hb).cell 5;have r6:=(CW.below hb).cell 6;have r7:=(CW.below hb).cell 7;simp at q0 q1 q2 r0 r1 r2 r3 r4 r5 r6 r7;have lq0:=(Pg.below hb).lt;have lq2:=(hNA.below hb).lt;have lr:=(CW.below hb).lt;clear hb;gi_wp2;exact hW.step (by decide) (by decide)
      apply ah;refine⟨λx=>?_,?_⟩
      ·simp only[Lift.Act.bF,Act.put,List.foldl_cons,List.foldl_nil,aj,ay,au];rfl)
    iterate 3
     (refine bT (u0:=λ_=>u49) rfl (λ_=>rfl) (λg hg=>by simp only[List.mem_cons,List.not_mem_nil,or_false]at hg;rcases hg with rfl;decide) (λg hg=>by simp only[List.mem_cons,List.not_mem_nil,or_false]at hg;rcases hg with rfl;rfl) ?_
      apply ah;refine⟨λD x w' hm hW K Q hK=>?_,?_⟩
      ·simp only[Lift.Act.bF,Act.put,List.foldl_cons,List.foldl_nil,aj,ay,au];have hb:=hW.2.1 (hW.no5 (hm.2.2 4 (by kernel_rfl)));have q0:=(Pg.below hb).cell 0;have q1:=(Pg.below hb).cell 1;have q2:=(hNA.below hb).cell 0;have r0:=(CW.below hb).cell 0;have r1:=(CW.below hb).cell 1;have r2:=(CW.below hb).cell 2;have r3:=(CW.below hb).cell 3;have r4:=(CW.below hb).cell 4;have r5:=(CW.below hb).cell 5;have r6:=(CW.below hb).cell 6;have r7:=(CW.below hb).cell 7;simp at q0 q1 q2 r0 r1 r2 r3 r4 r5 r6 r7;have lq0:=(Pg.below hb).lt;have lq2:=(hNA.below hb).lt;have lr:=(CW.below hb).lt;clear hb;gi_wp2;exact hW.step (by decide) (by decide)
      apply ah;refine⟨λx=>?_,?_⟩
      ·simp only[Lift.Act.bF,Act.put,List.foldl_cons,List.foldl_nil,aj,ay,au];rfl)
    refine iK (u0:=u49) 49 (by simp) rfl (λ_=>rfl) rfl rfl (λD x w' hm hW K Q hK=>?_) ?_
    ·simp only[Lift.Act.bF,Act.put,List.foldl_cons,List.foldl_nil,aj,ay,au]at hK ⊢;have hc:=Ny.out w' (hW.2.1 (hW.no5 hm.1))
     gi_wp2_with (gi_at_call 251;refine hc.mono ?_;rintro r w3 ⟨⟨v',zu,h1,rfl,h2⟩,hb⟩)
     exact hW.four hm.1 hb ⟨v',zu,h1,rfl,h2⟩
    iterate 1
     (refine bT (u0:=λ_=>u49) rfl (λ_=>rfl) (λg hg=>by simp only[List.mem_cons,List.not_mem_nil,or_false]at hg;rcases hg with rfl;decide) (λg hg=>by simp only[List.mem_cons,List.not_mem_nil,or_false]at hg;rcases hg with rfl;rfl) ?_
      apply ah;refine⟨λD x w' hm hW K Q hK=>?_,?_⟩
      ·simp only[Lift.Act.bF,Act.put,List.foldl_cons,List.foldl_nil,aj,ay,au];have d4:=hm.2.1 4 (by kernel_rfl);have hb:=hW.2.1 hm.1;obtain⟨v',zu,h1,hx,h2⟩:=hW.2.2.1 hm.1 d4;have hrec:=ih (xs++[i]) v' zu k' w' (by simp;omega) (λy hy=>by rcases List.mem_append.1 hy with h|h;exact h5 y h;rw[List.mem_singleton.1 h];omega) h2 h1 (C.below _ _ _ hJA (hb.mono hGA)) (Nat.le_trans hGA hb.size) (hYA.below hb) (hNA.below hb) hmm;rw[show(xs++[i]).isEmpty=false by simp,← hx]at hrec;clear hx h2
       gi_wp2_with (gi_at_call 249;refine hrec.mono ?_;rintro e w3 ⟨rfl,kk,f1,f2,f3,f4⟩)
       exact hW.five d4 ⟨kk,f1,f2,f3,aT.trans ⟨hb.size,λj _ hj=>hb.block j hj⟩ f4⟩
      apply ah;refine⟨λx=>?_,?_⟩
      ·simp only[Lift.Act.bF,Act.put,List.foldl_cons,List.foldl_nil,aj,ay,au];rfl)
    iterate 1
     (refine bT (u0:=λ_=>u49) rfl (λ_=>rfl) (λg hg=>by simp only[List.mem_cons,List.not_mem_nil,or_false]at hg;rcases hg with rfl;decide) (λg hg=>by simp only[List.mem_cons,List.not_mem_nil,or_false]at hg;rcases hg with rfl;rfl) ?_
      apply ah;refine⟨λD x w' hm hW K Q hK=>?_,?_⟩
      ·simp only[Lift.Act.bF,Act.put,List.foldl_cons,List.foldl_nil,aj,ay,au];skip;gi_wp2;exact hW.step (by decide) (by decide)
      apply ah;refine⟨λx=>?_,?_⟩
      ·simp only[Lift.Act.bF,Act.put,List.foldl_cons,List.foldl_nil,aj,ay,au];rfl)
    rintro x w5 hW;obtain⟨kk,f1,f2,f3,f4⟩:=hW.2.2.2 rfl;clear hW;simp only[Lift.Act.bF,Act.put,List.foldl_cons,List.foldl_nil,aj,ay,au];generalize x 49=y49;gi_wp2;go_roundw
    case rel=>
     refine⟨i+1,kk,by omega,by go_num,f3,hKA.trans f4,(f4.same _ hG CW.lt).trans CW,by omega,?_,.inl (by omega)⟩;rw[Nat.add_mul];omega
    case measure=>simp[intOf];omega
   ·rw[show m / 2 ^ i % 2=1 by omega]at hbit;gi_wp2;go_roundw
    case rel=>
     have hKB:=aT.alloc G wr (.cells #[.string nm,.int .i64 0,.slice (some ⟨gb,0,none⟩) 1 1,.slice none 0 0] 173);have Ep:=(Below.refl _ wr).alloc (ak _) (.cells #[.string nm,.int .i64 0,.slice (some ⟨gb,0,none⟩) 1 1,.slice none 0 0] 173);refine⟨i+1,k',by omega,by go_num,C.below _ _ _ hJ (Ep.mono hszG),hK.trans hKB,hA.below Ep,hk1,?_,?_⟩
     ·rw[Nat.add_mul];omega
     ·rcases hk3 with h|⟨j,j1,j2,j3⟩
      ·exact .inl h
      ·refine .inr ⟨j,?_,j2,j3⟩;rcases Nat.lt_or_eq_of_le j1 with q|q
       ·exact q
       ·subst q;exact absurd j3 h0
    case measure=>simp[intOf];omega
  ·obtain rfl:i=b.cs.length:=by omega
   gi_wp2;go_ret;refine⟨rfl,k',?_,?_,hJ,hK⟩
   ·rcases hk3 with h|⟨j,j1,j2,_⟩
    ·exact h
    ·omega
   ·have hmul:b.cs.length * 6 ^ d≤6 * 6 ^ d:=Nat.mul_le_mul_right _ (by omega);rw[Nat.pow_succ,Nat.mul_comm (6 ^ d)];omega
end
end
section
set_option maxHeartbeats 1000000
set_option maxRecDepth 10000
set_option maxHeartbeats 64000000
set_option maxRecDepth 100000
open Go Go.RowKit Lift
theorem Jo{N G X Y Nx lp:Nat}{b:RV}{J:Nat→World→Prop}{most:Nat}(C:FD N G X Y Nx lp b J most):∀d,Fv G X Y Nx lp b J most d
 |0=>PX C
 |d+1=>PW C (Jo C d)
def W3r(A:World)(fin:World→Prop):Wm:=λD _ w'=>(D 4=false→Below A.heap.size A w')∧(D 4=true→fin w')∧(D 2=true→D 1=true)∧(D 3=true→D 2=true)∧(D 4=true→D 3=true)
section
variable {i:Nat} {A w w':World} {fin:World→Prop} {D:Nat→Bool} {x:Tmp→Value}
theorem W3r.n4(h:W3r A fin D x w)(hi:D 1=false∨D 2=false∨D 3=false):D 4=false:=by
 obtain⟨_,_,h1,h2,h3⟩:=h;cases q:D 4
 ·rfl
 ·have q3:=h3 q;have q2:=h2 q3;have q1:=h1 q2;rw[q1,q2,q3]at hi;simp at hi
theorem W3r.grow(h:W3r A fin D x w)(hi:i≤3)(hd:2≤i→D (i-1)=true)(d4:D 4=false)(hb:Below w.heap.size w w'):W3r A fin (aX D i) x w':=by
 have e4:=dS (D:=D) (show i≠4 by omega);obtain⟨g1,g2,h1,h2,h3⟩:=h;refine⟨λ_=>(g1 d4).trans (hb.mono (g1 d4).size),λq=>(by rw[e4,d4]at q;cases q),λq=>?_,λq=>?_,λq=>(by rw[e4,d4]at q;cases q)⟩
 ·simp only[aX,Bool.or_eq_true,beq_iff_eq]at q ⊢;rcases q with q|q
  ·exact .inl (h1 q)
  ·subst q;exact .inl (hd (by omega))
 ·simp only[aX,Bool.or_eq_true,beq_iff_eq]at q ⊢;rcases q with q|q
  ·exact .inl (h2 q)
  ·subst q;exact .inl (hd (by omega))
theorem W3r.step(h:W3r A fin D x w)(hi:i≤3)(hd:2≤i→D (i-1)=true)(d4:D 4=false):W3r A fin (aX D i) x w:=h.grow hi hd d4 (Below.refl _ _)
theorem W3r.done(h:W3r A fin D x w)(d3:D 3=true)(hf:fin w'):W3r A fin (aX D 4) x w':=by
 obtain⟨g1,g2,h1,h2,h3⟩:=h;refine⟨λq=>by simp[aX]at q,λ_=>hf,λq=>?_,λq=>?_,λq=>?_⟩<;>simp only[aX,Bool.or_eq_true,beq_iff_eq]at q ⊢
 ·exact .inl (h1 (by rcases q with q|q;exact q;cases q))
 ·exact .inl (h2 (by rcases q with q|q;exact q;cases q))
 ·exact .inl d3
end
theorem Un{N X:Nat}{b:RV}(hO:b.Ok)(hNX:N≤X):NC Fz 0 Tryz.prog 248 #[.pointer (some ⟨X,0,none⟩)] (encR b.cs.isEmpty b.rights.length) (λW=>nP N b W∧Blk W X 252 b.arr) (6 ^ b.cs.length):=by
 intro l J W hR hJ hJR hY h0;have hlX:=hR.2.lt
 have C:FD N W.heap.size X W.heap.size (W.heap.size+1) l b J (6 ^ b.cs.length):=
  ⟨hO,Nat.le_trans hNX (Nat.le_of_lt hlX),hlX,ak _,Nat.le_succ _,hJ,hJR,hY⟩
 have hb1:Below W.heap.size W ((W.alloc (.cells #[.func (.yield l) #[] #[]] 372)).alloc (.cells #[.func (.func 249) #[] #[.pointer (some ⟨X,0,none⟩),.pointer (some ⟨W.heap.size,0,none⟩),.pointer (some ⟨W.heap.size+1,0,none⟩)]] 372)):=((Below.refl _ W).alloc (ak _) _).alloc (by simp) _;have hYb:Blk ((W.alloc (.cells #[.func (.yield l) #[] #[]] 372)).alloc (.cells #[.func (.func 249) #[] #[.pointer (some ⟨X,0,none⟩),.pointer (some ⟨W.heap.size,0,none⟩),.pointer (some ⟨W.heap.size+1,0,none⟩)]] 372)) W.heap.size 372 #[.func (.yield l) #[] #[]]:=(Blk.new W #[.func (.yield l) #[] #[]] 372).below ((Below.refl _ _).alloc (ak _) _);have hNb:Blk ((W.alloc (.cells #[.func (.yield l) #[] #[]] 372)).alloc (.cells #[.func (.func 249) #[] #[.pointer (some ⟨X,0,none⟩),.pointer (some ⟨W.heap.size,0,none⟩),.pointer (some ⟨W.heap.size+1,0,none⟩)]] 372)) (W.heap.size+1) 372 #[.func (.func 249) #[] #[.pointer (some ⟨X,0,none⟩),.pointer (some ⟨W.heap.size,0,none⟩),.pointer (some ⟨W.heap.size+1,0,none⟩)]]:=by
  have:=Blk.new (W.alloc (.cells #[.func (.yield l) #[] #[]] 372)) #[.func (.func 249) #[] #[.pointer (some ⟨X,0,none⟩),.pointer (some ⟨W.heap.size,0,none⟩),.pointer (some ⟨W.heap.size+1,0,none⟩)]] 372;simpa using this
 gi_enter Tryz.func248,Tryz.ntmps248
 gi_wp2;obtain⟨A,hA0⟩:∃A,A=((W.alloc (.cells #[.func (.yield l) #[] #[]] 372)).alloc (.cells #[.func (.func 249) #[] #[.pointer (some ⟨X,0,none⟩),.pointer (some ⟨W.heap.size,0,none⟩),.pointer (some ⟨W.heap.size+1,0,none⟩)]] 372)):=⟨_,rfl⟩
 rw[← hA0]at hb1 hYb hNb ⊢;have Pg:=hR.2.below hb1;have hrA:=hR.1.below (hb1.mono hR.1.hN);have hJA:=C.below _ _ _ h0 hb1;have hG:=hb1.size;clear hb1 hA0 hR h0 hJ hJR hY;refine dB rfl mixed (by kernel_rfl) (W3r A λw'=>∃k,1≤k∧k≤6 ^ b.cs.length∧J k w') [] (x₀:=λ_=>undef) (λg hg=>by cases hg) ⟨λ_=>⟨rfl,rfl,rfl,ak _,λ_ _=>rfl⟩,λq=>Bool.noConfusion q,λq=>Bool.noConfusion q,λq=>Bool.noConfusion q,λq=>Bool.noConfusion q⟩ ?_;simp only[aG,aC,aF,Nat.reduceAdd,Nat.zero_add,List.range,List.range.loop];refine bT (u0:=λ_=>undef) rfl (λ_=>rfl) (λg hg=>by cases hg) (λg hg=>by cases hg) ?_;apply ah;refine⟨λD x w' hm hW K Q hK=>?_,?_⟩
 ·simp only[Lift.Act.bF,Act.put,List.foldl_cons,List.foldl_nil,aj,ay,au];have hb:=hW.1 (hm.2.2 4 (by kernel_rfl));have q0:=(Pg.below hb).cell 0;have q1:=(Pg.below hb).cell 1;have q2:=(hNb.below hb).cell 0;simp at q0 q1 q2;have lq0:=(Pg.below hb).lt;have lq2:=(hNb.below hb).lt;clear hb;gi_wp2;exact hW.step (by decide) (λq=>absurd q (by decide)) (hm.2.2 4 (by kernel_rfl))
 apply ah;refine⟨λx=>?_,?_⟩
 ·simp only[Lift.Act.bF,Act.put,List.foldl_cons,List.foldl_nil,aj,ay,au];rfl
 refine bT (u0:=λ_=>undef) rfl (λ_=>rfl) (λg hg=>by cases hg) (λg hg=>by cases hg) ?_;apply ah;refine⟨λD x w' hm hW K Q hK=>?_,?_⟩
 ·simp only[Lift.Act.bF,Act.put,List.foldl_cons,List.foldl_nil,aj,ay,au];have hb:=hW.1 (hW.n4 (.inl hm.1));have q0:=(Pg.below hb).cell 0;have q1:=(Pg.below hb).cell 1;have q2:=(hNb.below hb).cell 0;simp at q0 q1 q2;have lq0:=(Pg.below hb).lt;have lq2:=(hNb.below hb).lt;clear hb;gi_wp2;exact hW.step (by decide) (λq=>absurd q (by decide)) (hW.n4 (.inl hm.1))
 apply ah;refine⟨λx=>?_,?_⟩
 ·simp only[Lift.Act.bF,Act.put,List.foldl_cons,List.foldl_nil,aj,ay,au];rfl
 refine bT (u0:=λ_=>undef) rfl (λ_=>rfl) (λg hg=>by cases hg) (λg hg=>by cases hg) ?_;apply ah;refine⟨λD x w' hm hW K Q hK=>?_,?_⟩
 ·simp only[Lift.Act.bF,Act.put,List.foldl_cons,List.foldl_nil,aj,ay,au];have d4:=hW.n4 (.inr (.inl hm.1));have hc:=all_in C.hO (hrA.below ((hW.1 d4).mono hrA.hN));simp only[jV]at hc
  gi_wp2_with (gi_at_call 252;refine hc.mono ?_;rintro r w3 ⟨rfl,hb⟩)
  exact hW.grow (by decide) (λ_=>hm.2.1 1 (by kernel_rfl)) d4 hb
 apply ah;refine⟨λx=>?_,?_⟩
 ·simp only[Lift.Act.bF,Act.put,List.foldl_cons,List.foldl_nil,aj,ay,au];rfl
 refine bT (u0:=λ_=>undef) rfl (λ_=>rfl) (λg hg=>by cases hg) (λg hg=>by cases hg) ?_;apply ah;refine⟨λD x w' hm hW K Q hK=>?_,?_⟩
 ·simp only[Lift.Act.bF,Act.put,List.foldl_cons,List.foldl_nil,aj,ay,au];skip;gi_wp2;exact hW.step (i:=3) (by decide) (λ_=>hm.2.1 2 (by kernel_rfl)) (hW.n4 (.inr (.inr hm.1)))
 apply ah;refine⟨λx=>?_,?_⟩
 ·simp only[Lift.Act.bF,Act.put,List.foldl_cons,List.foldl_nil,aj,ay,au];rfl
 refine bT (u0:=λ_=>undef) rfl (λ_=>rfl) (λg hg=>by cases hg) (λg hg=>by cases hg) ?_;apply ah;refine⟨λD x w' hm hW K Q hK=>?_,?_⟩
 ·simp only[Lift.Act.bF,Act.put,List.foldl_cons,List.foldl_nil,aj,ay,au];have hb:=hW.1 hm.1;have hn:=Jo C b.cs.length [] (.slice none 0 0) 0 0 w' (by simp) (λy hy=>by cases hy) (.inl ⟨rfl,rfl⟩) (by omega) (C.below _ _ _ hJA (hb.mono hG)) (Nat.le_trans hG hb.size) (hYb.below hb) (hNb.below hb) (by omega);simp only[List.isEmpty_nil,Bool.true_and,Int.natCast_zero,pW]at hn
  gi_wp2_with (gi_at_call 249;refine hn.mono ?_;rintro e w3 ⟨rfl,kk,f1,f2,f3,f4⟩)
  exact hW.done (hm.2.1 3 (by kernel_rfl)) ⟨kk,by omega,by omega,f3⟩
 apply ah;refine⟨λx=>?_,?_⟩
 ·simp only[Lift.Act.bF,Act.put,List.foldl_cons,List.foldl_nil,aj,ay,au];rfl
 rintro x w5 hW;have hfin:=hW.2.1 rfl;clear hW;simp only[Lift.Act.bF,List.foldl_nil];gi_wp2;go_end0;exact⟨⟨_,rfl⟩,hfin⟩
end
section
set_option maxHeartbeats 1000000
set_option maxRecDepth 10000
set_option maxHeartbeats 16000000
set_option maxRecDepth 100000
open Go Go.RowKit Lift Go.ChangeMaps Go.MapKept
theorem CJ:Tryz.prog.underlying 318=some (.map 322 3):=by kernel_rfl
theorem ou:Maps.Keyed Tryz.prog 322:=Maps.Keyed.of_law (deep_law (m:=2) (by decide) (by kernel_rfl) (by kernel_rfl) (by kernel_rfl))
abbrev six(a b c d e f:Bool):Array Value:=#[.bool a,.bool b,.bool c,.bool d,.bool e,.bool f]
theorem key_all:∀a b c d e f:Bool,(keyOf Tryz.prog 322 (.agg (six a b c d e f))).isSome=true:=by decide +kernel
theorem Gl(a b c d e f:Bool):∃l,keyOf Tryz.prog 322 (.agg (six a b c d e f))=some l:=Option.isSome_iff_exists.1 (key_all a b c d e f)
def ents(st:Array Value)(e:Bool)(v:Int):Array MapEntry:=if e then #[{ key:=.agg st,val:=.int .i64 v,born:=0 }]else #[]
structure dW (w:World) (M:Nat) (st:Array Value) (e:Bool) (v:Int):Prop where
 at_:w.heap[M]?=some (.map (ents st e v) (if e then 1 else 0))
 no:e=false→v=0
theorem dW.lt{w:World}{M:Nat}{st:Array Value}{e:Bool}{v:Int}(h:dW w M st e v):M<w.heap.size:=(Array.getElem?_eq_some_iff.1 h.at_).1
theorem dW.same{w w':World}{M:Nat}{st:Array Value}{e:Bool}{v:Int}(h:dW w M st e v)(hs:w'.heap[M]?=w.heap[M]?):dW w' M st e v:=⟨hs.trans h.at_,h.no⟩
theorem lF(w:World)(M:Nat)(o:Obj):w.grownBy (setBlock w M o) (some M):=⟨rfl,rfl,rfl,by simp[setBlock],λi hi hr=>by
 simp only[setBlock];rw[aA (λe=>hr (by rw[e]))]⟩
section
variable {w:World} {M:Nat} {st:Array Value} {e:Bool} {v:Int} {l:Lit}
theorem EG(hk:keyOf Tryz.prog 322 (.agg st)=some l)(e:Bool)(v:Int)(w:World):(Instr.findKey 322 (.agg st) (ents st e v).toList).run Tryz.prog w=.ok (if e then some (0,.int .i64 v)else none) w:=by
 cases e with
 |false=>
  rcases ou.find w hk (ents st false v).toList (λx hx=>by simp[ents]at hx)with⟨h,_⟩|⟨j,x,_,h2,_⟩
  ·exact h
  ·simp[ents]at h2
 |true=>
  rcases ou.find w hk (ents st true v).toList (λx hx=>by simp[ents]at hx;subst hx;exact⟨_,hk⟩)with⟨_,h⟩|⟨j,x,h1,h2,_⟩
  ·exact absurd rfl (h { key:=.agg st,val:=.int .i64 v,born:=0 } (by simp[ents]))
  ·have:j=0∧x={ key:=.agg st,val:=.int .i64 v,born:=0 }:=by
    cases j with
    |zero=>simpa[ents,eq_comm]using h2
    |succ j=>simp[ents]at h2
   obtain⟨rfl,rfl⟩:=this;exact h1
theorem Jk(h:dW w M st e v)(hk:keyOf Tryz.prog 322 (.agg st)=some l):(Instr.lookup 318 (.map (some M)) (.agg st) false).run Tryz.prog w=.ok (.int .i64 v) w:=by
 have hc:=λem=>ou.check w em hk;have hf:=EG hk e v w;have hz:=Tryz.zeroValue3 w;cases e with
 |true=>simp[Instr.lookup,run_underlying CJ,MapKept.run_getObj_map h.at_,hc,hf,Result.andThen]
 |false=>
  have:=h.no rfl;subst this;simp[Instr.lookup,run_underlying CJ,MapKept.run_getObj_map h.at_,hc,hf,hz,Result.andThen]
theorem LM(h:dW w M st e v)(hk:keyOf Tryz.prog 322 (.agg st)=some l):∃w',(Instr.mapEntry 318 (.map (some M)) (.agg st)).run Tryz.prog w=.ok (.tuple #[.int .i64 v,.int .i64 0]) w'∧dW w' M st true v∧w.grownBy w' (some M)∧w'.heap.size=w.heap.size:=by
 have hc:=λem=>ou.check w em hk;have hf:=EG hk e v w;have hz:=Tryz.zeroValue3 w;have hs:=ou.stays w hk;have hl:=h.lt;refine⟨setBlock w M (.map (ents st true v) 1),?_,⟨?_,λq=>by cases q⟩,?_,?_⟩
 ·cases e with
  |true=>
   have e0:(ents st true v)[0]?=some { key:=.agg st,val:=.int .i64 v,born:=0 }:=rfl;have hb:=h.at_;simp only[if_true]at hb;simp[Instr.mapEntry,run_underlying CJ,MapKept.run_getObj_map hb,hc,hf,hs,e0,MapKept.run_setObj_map _ hb,Result.andThen,goInt];simp[ents,setBlock]
  |false=>
   have:=h.no rfl;subst this;have hb:=h.at_;simp[Instr.mapEntry,run_underlying CJ,MapKept.run_getObj_map hb,hc,hf,hz,MapKept.run_setObj_map _ hb,Result.andThen,goInt];simp[ents,setBlock]
 ·exact(MapKept.heap_set h.at_).1
 ·exact lF w M _
 ·simp[setBlock]
theorem LQ(h:dW w M st true v)(v':Int):∃w',(Instr.entryStore 318 (.map (some M)) (.int .i64 0) (.int .i64 v')).run Tryz.prog w=.ok () w'∧dW w' M st true v'∧w.grownBy w' (some M)∧w'.heap.size=w.heap.size:=by
 have hb:=h.at_;simp only[if_true]at hb;refine⟨setBlock w M (.map (ents st true v') 1),?_,⟨(MapKept.heap_set h.at_).1,λq=>by cases q⟩,?_,?_⟩
 ·have hi:(ents st true v).findIdx? (λe=>(e.born:Int)==0)=some 0:=by simp[ents]
  simp[Instr.entryStore,MapKept.run_getObj_map hb,asInt,asIntOf,MapKept.run_setObj_map _ hb,Result.andThen,hi];simp[ents,setBlock]
 ·exact lF w M _
 ·simp[setBlock]
end
end
