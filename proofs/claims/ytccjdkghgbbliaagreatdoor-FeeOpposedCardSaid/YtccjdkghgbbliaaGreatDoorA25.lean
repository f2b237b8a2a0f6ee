/- Workers and their starter beside old leavers: every step of the starter's; from the first worker's start to the starter's last acquire, on whatever tape. Nothing of the program stands here. -/
import Derived.Test.YtccjdkghgbbliaaGreatDoorA24
set_option linter.all false
namespace Go.Proofs.YtccjdkghgbbliaaGreatDoor
section
namespace Crew
set_option maxHeartbeats 1000000
set_option maxRecDepth 10000
open Go Go.Conc Go.ConcN
open Go.ConcR (KK wgBlock WgAt stA smA rd wr mk Payload DC0 Bk again_blocked bk_of_mute ofEvent_loc_mark ofEvent_cell ofEvent_mk)
open Go.Proofs.YtccjdkghgbbliaaGreatDoor.Lift (blk Good Shn map_set_get map_set_at map_set_other ofEvents_by mute_quiet set_get set_at set_other)
variable [Payload]
structure Nw (X:Cf) (val:Nat→Value) (nw m0:Nat) (w0:World) (Fin:Goroutine→World→Own→Prop) (gs:Array Goroutine) (w:World) (t:Trace):Prop where
 size:gs.size=m0+nw
 fin:∃a O,gs[0]?=some a∧Fin a w O
 leavers:∃q,Leavers X.P t gs q
 past:Past (Shn λb=>X.S b∨b=X.Wg) w.heap.size t
 B:X.B≤w.heap.size
 pay:PayAt X.C X.n w
 good:Gd X.P w
 low:∀b,b<X.B→b≠X.C→b≠X.Wg→w.heap[b]?=w0.heap[b]?
 has:∀c,c<nw→Has X.C c (val c) w
 rest:∀i,nw≤i→w.cell? ⟨X.C,i,none⟩=X.ini i
 env:w.os=w0.os∧w.output=w0.output
 UG:WgAt X.ty X.Wg w 0 0
section
variable {X:Cf} {val:Nat→Value} {nw m0 T0 j f0 d0:Nat} {w0 w w':World} {Fin Anch:Goroutine→World→Own→Prop} {tag:CTag} {a:Goroutine} {gs:Array Goroutine} {t:Trace} {D:Nat→WD} {Ow:Nat→Own} {st sm:Int} {sl:Option (Nat×Nat)}
theorem GO.cases'{X:Cf}{main:Bool}{c n:Nat}{O:Own}{Stop:Goroutine→World→Own→Prop}{g:Goroutine}{w:World}(h:GO X main c Stop n g w O) :
  (∀w₁,dh X c O w w₁→Stop g w₁ O)∨∃m g' w' es O',n=m+1∧stepG X.P main g w=.go g' w' es∧DO X main c O w w' es∧(∀b,O' b→O b∨(w.heap.size≤b∧b<w'.heap.size))∧GO X main c Stop m g' w' O':=by
 cases n with
 |zero=>exact .inl h
 |succ n=>
  rcases h with h|⟨_,h⟩
  ·exact .inl h
  ·obtain⟨g',w',es,h1,h2,O',h3,h4⟩:=goes_elim (h w (dh.refl w));exact .inr ⟨n,g',w',es,O',rfl,h1,h2,h3,h4⟩
theorem idleC(hnw:nw≤X.n)(H:PA X val nw m0 T0 w0 Fin Anch tag j f0 d0 a gs w t D Ow st sm){a':Goroutine}{es:Array Event}{f':Nat}{O':Own}(hgo:stepG X.P true a w=.go a' w' es)(hD:DO X true X.n (Ow 0) w w' es)(hO:∀b,O' b→Ow 0 b∨(w.heap.size≤b∧b<w'.heap.size))
  (hcs':CS X val nw Fin Anch tag j f' d0 a' w' O') (hf:f'<f0):mY X val nw m0 T0 w0 Fin Anch (mu nw m0 tag j D f0) (runT X.P (crowd gs w sl) 0) t:=by
 have hWN:X.Wg<w.heap.size:=aB X.hW H.B;have hWg:WgAt X.ty X.Wg w' st sm:=H.UG.of_block (hD.other X.Wg hWN (λhx=>by have:=H.dom.low _ _ hx;have:=X.hW;omega) (Ne.symm X.ne));have hdf:deafBehind d0 es=d0:=deafBehind_idle (λe he=>⟨(hD.evs e he).dis,(hD.evs e he).ena⟩) d0;exact callerStep hnw H hgo (Turn.of_do hD) hO (λe he=>(hD.evs e he).low) (λe he=>(hD.evs e he).tch) (λe he=>(hD.evs e he).rel) (by rw[hdf];exact hcs') hWg H.mode (.inr ⟨rfl,hf⟩)
theorem bookC(hnw:nw≤X.n)(H:PA X val nw m0 T0 w0 Fin Anch tag j f0 d0 a gs w t D Ow st sm){a':Goroutine}{es:Array Event}{tag':CTag}{f':Nat}{st' sm':Int}(hgo:stepG X.P true a w=.go a' w' es)(hAs:Aside X.Wg w w')(hwg':WgAt X.ty X.Wg w' st' sm')(hbk:∀e∈es,Bk X.Wg e)
  (hcs':CS X val nw Fin Anch tag' j f' (deafBehind d0 es) a' w' (Ow 0)) (hmode':ConcN.Mode (m0+j-1) D tag' st' sm') (hlt:phi nw (Vc (m0+j-1) D) tag'<phi nw (Vc (m0+j-1) D) tag∨(phi nw (Vc (m0+j-1) D) tag'=phi nw (Vc (m0+j-1) D) tag∧f'<f0)) :
  mY X val nw m0 T0 w0 Fin Anch (mu nw m0 tag j D f0) (runT X.P (crowd gs w sl) 0) t:=
 callerStep hnw H hgo (Turn.of_wg hAs hwg') (λb hb=>.inl hb) (EF (by rw[hAs.size];exact aB X.hW H.B) hbk) (E8 hbk) (norel_of_Bk hbk) hcs' hwg' hmode' hlt
theorem w1Step(hnw:nw≤X.n)(hn:nw<2147483648)(H:PA X val nw m0 T0 w0 Fin Anch .w1 nw f0 1 a gs w t D Ow st sm)(h:GO X true X.n (AtW1 X Fin Anch) f0 a w (Ow 0)) :
  mY X val nw m0 T0 w0 Fin Anch (mu nw m0 .w1 nw D f0) (runT X.P (crowd gs w sl) 0) t:=by
 rcases GO.cases h with hstop|⟨m',a',w',es,O',rfl,hgo,hD,hO,hg'⟩
 ·obtain⟨_,hall⟩:=hstop;have hmode:=H.mode;have hwg:=H.UG;obtain⟨ho,rfl,rfl,_⟩:=hmode.open_inv trivial;have hV:=J6 (D:=D) H.m0p H.old nw;obtain⟨a',hgo,h0,hne⟩:=hall (Vc (m0+nw - 1) D) (by omega) (by simpa[pend]using hwg);by_cases hv:Vc (m0+nw - 1) D=0
  ·obtain⟨m₂,hk⟩:=h0 hv;refine bookC hnw H hgo (.refl X.Wg w) hwg bk_rd (tag':=.ke) (.ke hk) ?_ (.inl (by simp only[phi];omega));have e:((Vc (m0+nw-1) D+pend .w1:Nat):Int) * KK=0:=by rw[hv];simp[pend]
   rw[e];exact .fin trivial (allQuit_of ho hv)
  ·obtain⟨m₂,hk⟩:=hne hv;exact bookC hnw H hgo (.refl X.Wg w) hwg bk_rd (tag':=.w2 (Vc (m0+nw - 1) D)) (.w2 hk) (hmode.reopen trivial trivial rfl (λvs e=>by cases e;omega)) (.inl (by simp only[phi];omega))
 ·exact idleC hnw H hgo hD hO (.w1 hg') (by omega)
theorem QC{r:Nat}(hr:r<nw)(H:PA X val nw m0 T0 w0 Fin Anch (.sp r 2) (nw-(r+1)) f0 0 a gs w t D Ow st sm){a' child:Goroutine}{m₂:Nat}(hsp:stepG X.P true a w=.spawn a' child w #[])
  (hwk:GO X false (nw-(r+1)) (Ih X val (nw-(r+1))) m₂ child w (Ow 0)) (hnext:Spawns X val nw Anch r a' w Nobody) :
  mY X val nw m0 T0 w0 Fin Anch (mu nw m0 (.sp r 2) (nw-(r+1)) D f0) (runT X.P (crowd gs w sl) 0) t:=by
 have hm0:=H.m0p;have hmode:=H.mode;obtain⟨ho,rfl,rfl,_⟩:=hmode.open_inv trivial;obtain⟨J,hJ⟩:∃J,nw - (r+1)=J:=⟨_,rfl⟩
 have eJ:nw-r=J+1:=by omega
 rw[hJ]at H hwk;have hrun':=runT_crowd_spawn (P:=X.P) (sl:=sl) (i:=0) H.ha (by simpa using hsp);have hops:((MemOp.ofEvents 0 a.frame.fn a.frame.place #[]).push { g:=0,fn:=a.frame.fn,pos:=a.frame.place,act:=.go gs.size } |>.push { g:=gs.size,fn:=child.frame.fn,pos:=a.frame.place,act:=.start })=#[{ g:=0,fn:=a.frame.fn,pos:=a.frame.place,act:=.go (m0+J) },{ g:=m0+J,fn:=child.frame.fn,pos:=a.frame.place,act:=.start }]:=by
  rw[H.size];rfl
 rw[hops]at hrun';have hquiet:∀g,∀op∈(#[{ g:=0,fn:=a.frame.fn,pos:=a.frame.place,act:=.go (m0+J) },{ g:=m0+J,fn:=child.frame.fn,pos:=a.frame.place,act:=.start }]:Trace),∀d,deafStep g d op=d:=by
  intro g op hop d;simp only[List.mem_toArray,List.mem_cons,List.not_mem_nil,or_false]at hop;rcases hop with rfl|rfl<;>rfl
 have hlast:((gs.setIfInBounds 0 a').push child)[m0+J]?=some child:=by
  have:m0+J=(gs.setIfInBounds 0 a').size:=by rw[Array.size_setIfInBounds,H.size]
  rw[this];exact Array.getElem?_push_size
 have hget:∀x y,x≠m0+J→((gs.setIfInBounds 0 a').push child)[x]?=some y→(gs.setIfInBounds 0 a')[x]?=some y:=λx y hx hy=>by
  have hsz:(gs.setIfInBounds 0 a').size=m0+J:=by simp[H.size]
  have hlt:=(Array.getElem?_eq_some_iff.1 hy).1;rw[Array.size_push,hsz]at hlt;rw[Array.getElem?_push_lt (by rw[hsz];omega)]at hy;rw[Array.getElem?_eq_getElem (by rw[hsz];omega)];exact hy
 have hz:((gs.setIfInBounds 0 a').push child)[0]?=some a':=by
  have hsz:(gs.setIfInBounds 0 a').size=m0+J:=by simp[H.size]
  rw[Array.getElem?_push_lt (by rw[hsz];omega),← Array.getElem?_eq_getElem];exact set_at H.ha
 have hei:m0+J-1+1=m0+J:=by omega
 have eVs:∀φ:WD→Nat,sumTo (m0+J) (λx=>φ (upd D (m0+J-1) ⟨7,m₂,0⟩ x))=sumTo (m0+J-1) (λx=>φ (D x))+φ ⟨7,m₂,0⟩:=λφ=>by
  have e:=sumTo_upd_out D (⟨7,m₂,0⟩:WD) φ (ak (m0+J-1));have e2:∀f,sumTo (m0+J) f=sumTo (m0+J-1) f+f (m0+J-1):=λf=>by
   have:=congrArg (λk=>sumTo k f) hei;exact this.symm
  rw[e2,upd_same,e]
 have hOM:∀b,¬Ow (m0+J) b:=λb hb=>by
  rcases H.ow _ _ hb with h|h
  ·omega
  ·have:=h.2;omega
 have hdom:Dom X w.heap.size (upd (upd Ow 0 (λ_=>False)) (m0+J) (Ow 0)):=by
  rcases H.dom.fork (M:=m0+J)with h|h
  ·exact h
  ·exact absurd (funext λb=>propext ⟨λx=>hOM b x,False.elim⟩) h
 have ow0:upd (upd Ow 0 (λ_=>False)) (m0+J) (Ow 0) 0=λ_=>False:=by rw[upd_ne _ _ (by omega:(0:Nat)≠m0+J),upd_same]
 have hb:=H.cs.bound
 have build:∀(tag':CTag) (f':Nat),CS X val nw Fin Anch tag' (J+1) f' 0 a' w Nobody→ConcN.Mode (m0+(J+1)-1) (upd D (m0+J-1) ⟨7,m₂,0⟩) tag' (((Vc (m0+J-1) D+pend (.sp r 2):Nat):Int) * KK) 0→
   phi nw (Vc (m0+J-1) D+1) tag'+7<phi nw (Vc (m0+J-1) D) (.sp r 2)→mY X val nw m0 T0 w0 Fin Anch (mu nw m0 (.sp r 2) J D f0) (runT X.P (crowd gs w sl) 0) t:=by
  intro tag' f' hcs hmode' hphi
  refine⟨_,w,sl,_,tag',J+1,f',0,a',upd D (m0+J-1) ⟨7,m₂,0⟩,_,_,_,hrun',?_,⟨hm0,hz,by rw[ow0];exact hcs,by simp[H.size];omega,λx y hy=>?_,λx hx=>?_,λx hx=>?_,(Deaf_quiet (hquiet 0)).trans H.dd,
   λx hx=>(Deaf_quiet (hquiet x)).trans (H.above x (by omega)),λx hx hst=>?_,H.nr.app λop hop=>?_,by have:=H.len;simp;omega,hdom,λg b hgb=>?_,
   H.ti.fork hm0 (by omega) H.dd (H.above _ (ak _)) hOM _ _ _,H.B,H.pay,H.good,H.low,λx hx=>H.rest x (by omega),H.env,H.UG,hmode'⟩⟩
  ·simp only[mu,Vc,Ssum];have e1:=eVs cnt;have e2:=eVs WD.stage;have ex:m0+(J+1)-1=m0+J:=by omega
   rw[ex];refine Prod.Lex.left _ _ ?_;have c7:cnt (⟨7,m₂,0⟩:WD)=1:=rfl;rw[e1,e2,c7];simp only[Vc]at hphi
   show phi nw _ tag'+(_+7)<_
   omega
  ·by_cases e:x+1=m0+J
   ·have hy':y=child:=by rw[e,hlast]at hy;exact(Option.some.inj hy).symm
    subst hy';have ex:x=m0+J-1:=by omega
    have ec:x+1-m0=J:=by omega
    rw[ec,e,upd_same,ex,upd_same];exact .work hwk
   ·have hy':=hget _ _ e hy;rcases set_get hy' with⟨h,_⟩|⟨h,hy''⟩
    ·omega
    ·have hlt:=H.kQ hy'';rw[upd_ne _ _ e,upd_ne _ _ h,upd_ne D _ (by omega)];exact H.ws x y hy''
  ·rw[upd_ne D _ (by omega)];exact H.old x hx
  ·rw[Deaf_quiet (hquiet (x+1))];by_cases e:x=m0+J - 1
   ·rw[e,upd_same,hei];exact H.above _ (ak _)
   ·rw[upd_ne D _ e];exact H.dw x (by omega)
  ·by_cases e:x=m0+J - 1
   ·rw[e,upd_same]at hst;simp at hst
   ·rw[upd_ne D _ e]at hst;obtain⟨⟨q,h1,h2⟩,h3⟩:=H.rel x ⟨hx.1,by have:=hx.2;omega⟩ hst;refine⟨⟨q,h1,h2.appNot λop hop=>?_⟩,h3⟩;simp only[List.mem_toArray,List.mem_cons,List.not_mem_nil,or_false]at hop;rcases hop with rfl|rfl
    ·show(0:Nat)≠x+1;omega
    ·show m0+J≠x+1;omega
  ·simp only[List.mem_toArray,List.mem_cons,List.not_mem_nil,or_false]at hop;rcases hop with rfl|rfl<;>simp
  ·by_cases e:g=m0+J
   ·exact .inr ⟨by omega,by omega⟩
   ·rw[upd_ne _ _ e]at hgb;by_cases e0:g=0
    ·exact .inl e0
    ·rw[upd_ne _ _ e0]at hgb;exact(H.ow g b hgb).imp id λh=>⟨h.1,by have:=h.2;omega⟩
 have ho':OpenSt (m0+(J+1)-1) (upd D (m0+J-1) ⟨7,m₂,0⟩):=λx hx=>by
  by_cases e:x=m0+J - 1
  ·rw[e,upd_same];simp
  ·rw[upd_ne D _ e];rw[hJ]at ho;exact ho x (by omega)
 have est:∀tag',pend tag'=0→((Vc (m0+J-1) D+pend (.sp r 2):Nat):Int) * KK=((Vc (m0+(J+1)-1) (upd D (m0+J-1) ⟨7,m₂,0⟩)+pend tag':Nat):Int) * KK:=λtag' hp=>by
  have e1:=eVs cnt;have ex:m0+(J+1)-1=m0+J:=by omega
  have c7:cnt (⟨7,m₂,0⟩:WD)=1:=rfl;rw[hp,ex];simp only[Vc];rw[e1,c7];simp[pend]
 have hV:=J6 (D:=D) hm0 H.old J;rw[hJ];cases r with
 |zero=>
  obtain⟨m₃,hk⟩:=hnext;have en:nw=J+1:=by omega
  refine build .kd m₃ (by rw[← en];exact .kd hk) ?_ (by simp only[phi];omega);rw[est .kd rfl];exact .opn trivial ho' (by simp)
 |succ r'=>
  obtain⟨m₃,hk⟩:=hnext;have en:nw-(r'+1)=J+1:=by omega
  refine build (.sp r' 5) m₃ (by rw[← en];exact .skd (by omega) hk) ?_ (by simp only[phi];omega);rw[est (.sp r' 5) rfl];exact .opn trivial ho' (by simp)
theorem stepCaller(hnw:nw≤X.n)(hn:nw<2147483648)(hAn:∀g w O,Anch g w O→∃m,GO X true X.n (AtW1 X Fin Anch) m g w O)(H:PA X val nw m0 T0 w0 Fin Anch tag j f0 d0 a gs w t D Ow st sm)(hrun:a.status=.running) :
  mY X val nw m0 T0 w0 Fin Anch (mu nw m0 tag j D f0) (runT X.P (crowd gs w sl) 0) t∨
  ∃gs' w' ops,runT X.P (crowd gs w sl) 0=(.next (crowd gs' w' sl),ops)∧Nw X val nw m0 w0 Fin gs' w' (t++ops):=by
 have hm0:=H.m0p;have hcs:=H.cs;have hmode:=H.mode;have hwg:=H.UG;have hV:=J6 (D:=D) hm0 H.old j;have hbd:=hcs.bound;generalize QM:Ow 0=O at hcs;cases hcs with
 |skd hr h=>
  subst QM;rcases GO.cases h with hstop|⟨m',a',w',es,O',rfl,hgo,hD,hO,hg'⟩
  ·obtain⟨_,a',hgo,m₂,hk⟩:=hstop;exact .inl (bookC hnw H hgo (.refl X.Wg w) hwg bk_dis (.sa1 hr hk) (hmode.reopen trivial trivial rfl (by simp)) (.inl (by simp only[phi];omega)))
  ·exact .inl (idleC hnw H hgo hD hO (.skd hr hg') (by omega))
 |sa1 hr h=>
  subst QM;rename_i r;rcases GO.cases h with hstop|⟨m',a',w',es,O',rfl,hgo,hD,hO,hg'⟩
  ·obtain⟨_,hall⟩:=hstop;obtain⟨ho,rfl,rfl,_⟩:=hmode.open_inv trivial;obtain⟨a',hgo,m₂,hk⟩:=hall (Vc (m0+(nw - (r+1)) - 1) D) (by omega) (by simpa[pend]using hwg);refine .inl (bookC hnw H hgo (aside_setCell w (stA X.Wg) _) (hwg.setSt _) bk_rw (.ske hr hk) ?_ (.inl (by simp only[phi];omega)));have e:(((Vc (m0+(nw-(r+1))-1) D:Nat):Int)+1) * KK=((Vc (m0+(nw-(r+1))-1) D+pend (.sp r 3):Nat):Int) * KK:=by simp[pend]
   rw[e];exact .opn trivial ho (by simp)
  ·exact .inl (idleC hnw H hgo hD hO (.sa1 hr hg') (by omega))
 |ske hr h=>
  subst QM;rcases GO.cases h with hstop|⟨m',a',w',es,O',rfl,hgo,hD,hO,hg'⟩
  ·obtain⟨_,a',hgo,m₂,hk⟩:=hstop;exact .inl (bookC hnw H hgo (.refl X.Wg w) hwg bk_en (.sgo hr hk) (hmode.reopen trivial trivial rfl (by simp)) (.inl (by simp only[phi];omega)))
  ·exact .inl (idleC hnw H hgo hD hO (.ske hr hg') (by omega))
 |sgo hr h=>
  subst QM;rcases GO.cases h with hstop|⟨m',a',w',es,O',rfl,hgo,hD,hO,hg'⟩
  ·obtain⟨_,a',child,hsp,_,hwk,hnext⟩:=hstop;obtain⟨m₂,hwk⟩:=hwk (H.rest _ (ak _));exact .inl (QC hr H hsp hwk hnext)
  ·exact .inl (idleC hnw H hgo hD hO (.sgo hr hg') (by omega))
 |kd h=>
  subst QM;rcases GO.cases h with hstop|⟨m',a',w',es,O',rfl,hgo,hD,hO,hg'⟩
  ·obtain⟨_,a',hgo,m₂,hk⟩:=hstop;exact .inl (bookC hnw H hgo (.refl X.Wg w) hwg bk_dis (.anch hk) (hmode.reopen trivial trivial rfl (by simp)) (.inl (by simp only[phi];omega)))
  ·exact .inl (idleC hnw H hgo hD hO (.kd hg') (by omega))
 |anch h=>
  subst QM;rcases GO.cases h with hstop|⟨m',a',w',es,O',rfl,hgo,hD,hO,hg'⟩
  ·obtain⟨m₂,hk⟩:=hAn a w _ hstop;have H1:PA X val nw m0 T0 w0 Fin Anch .w1 nw m₂ 1 a gs w t D Ow st sm:={ H with cs:=.w1 hk,mode:=hmode.reopen trivial trivial rfl (by simp) }
   obtain⟨gs',w',sl',ops,tag',j',f',d',a',D',Ow',st',sm',k1,k2,k3⟩:=w1Step (sl:=sl) hnw hn H1 hk;exact .inl ⟨gs',w',sl',ops,tag',j',f',d',a',D',Ow',st',sm',k1,lt2_trans k2 (Prod.Lex.left _ _ (by simp only[phi];omega)),k3⟩
  ·exact .inl (idleC hnw H hgo hD hO (.anch hg') (by omega))
 |w1 h=>subst QM;exact .inl (w1Step hnw hn H h)
 |w2 h=>
  subst QM;rename_i vs;rcases GO.cases h with hstop|⟨m',a',w',es,O',rfl,hgo,hD,hO,hg'⟩
  ·obtain⟨_,hall⟩:=hstop;obtain⟨ho,rfl,rfl,hw2⟩:=hmode.open_inv trivial;obtain⟨hle,h1⟩:=hw2 vs rfl;obtain⟨hhit,hmiss⟩:=hall (Vc (m0+nw - 1) D) (by omega) (by simpa[pend]using hwg);by_cases e:Vc (m0+nw - 1) D=vs
   ·obtain⟨a',hgo,m₂,hk⟩:=hhit e;exact .inl (bookC hnw H hgo (aside_setCell w (stA X.Wg) _) (hwg.setSt _) bk_rw (.w3 hk) (.reg trivial ho (by omega)) (.inl (by simp only[phi];omega)))
   ·obtain⟨a',hgo,m₂,hk⟩:=hmiss e;exact .inl (bookC hnw H hgo (.refl X.Wg w) hwg bk_rd (.anch hk) (hmode.reopen trivial trivial rfl (by simp)) (.inl (by simp only[phi];omega)))
  ·exact .inl (idleC hnw H hgo hD hO (.w2 hg') (by omega))
 |w3 h=>
  subst QM;rcases GO.cases' h with hall|⟨m',a',w',es,O',rfl,hgo,hD,hO,hg'⟩
  ·have hblkc:CS X val nw Fin Anch .blk nw 0 1 { a with status:=.blocked } w (Ow 0):=.blk hall;have hstop:=hall w (dh.refl w);obtain⟨_,hoff,hblk,htake⟩:=hstop;cases hmode with
   |opn h1 _ _=>exact h1.elim
   |reg h1 h2 h3=>exact .inl (bookC hnw H (hblk ⟨_,hwg⟩) (.refl X.Wg w) hwg (by simp) hblkc (.reg trivial h2 h3) (.inr ⟨rfl,by omega⟩))
   |last L h1 h2 h3 h4=>exact .inl (bookC hnw H (hblk ⟨_,hwg⟩) (.refl X.Wg w) hwg (by simp) hblkc (.last L trivial h2 h3 h4) (.inr ⟨rfl,by omega⟩))
   |sema h2=>
    obtain⟨a',hgo,m₂,hk⟩:=htake hwg;exact .inl (bookC hnw H hgo (aside_setCell w (smA X.Wg) _) (hwg.setSm 0) bk_sem (.w4 hk) (.fin trivial h2) (.inl (by simp only[phi];omega)))
   |fin h1 _=>exact h1.elim
  ·exact .inl (idleC hnw H hgo hD hO (.w3 hg') (by omega))
 |blk h=>simp at hrun
 |w4 h=>
  subst QM;rcases GO.cases h with hstop|⟨m',a',w',es,O',rfl,hgo,hD,hO,hg'⟩
  ·obtain⟨_,hx⟩:=hstop;obtain⟨hq,rfl,rfl⟩:=hmode.fin_inv trivial;obtain⟨a',hgo,m₂,hk⟩:=hx hwg;exact .inl (bookC hnw H hgo (.refl X.Wg w) hwg bk_rd (.ke hk) (.fin trivial hq) (.inl (by simp only[phi];omega)))
  ·exact .inl (idleC hnw H hgo hD hO (.w4 hg') (by omega))
 |ke h=>
  subst QM;rcases GO.cases h with hstop|⟨m',a',w',es,O',rfl,hgo,hD,hO,hg'⟩
  ·obtain⟨_,a',hgo,m₂,hk⟩:=hstop;obtain⟨hq,rfl,rfl⟩:=hmode.fin_inv trivial;exact .inl (bookC hnw H hgo (.refl X.Wg w) hwg bk_en (.acq hk) (.fin trivial hq) (.inl (by simp only[phi];omega)))
  ·exact .inl (idleC hnw H hgo hD hO (.ke hg') (by omega))
 |acq h=>
  subst QM;rcases GO.cases h with hstop|⟨m',a',w',es,O',rfl,hgo,hD,hO,hg'⟩
  ·obtain⟨_,a',hgo,hfin⟩:=hstop;obtain⟨hq,rfl,rfl⟩:=hmode.fin_inv trivial;have hrunT:=runT_crowd_go (P:=X.P) (sl:=sl) (i:=0) H.ha (by simpa using hgo);have e1:MemOp.ofEvents 0 a.frame.fn a.frame.place #[mk (.acquire (stA X.Wg))]=#[{ g:=0,fn:=a.frame.fn,pos:=a.frame.place,act:=.mark (.acquire (stA X.Wg)) }]:=by rw[ofEvents_eq];simp[ofEvent_mk]
   rw[e1]at hrunT;have hdq:∀g,∀op∈(#[{ g:=0,fn:=a.frame.fn,pos:=a.frame.place,act:=.mark (.acquire (stA X.Wg)) }]:Trace),∀d,deafStep g d op=d:=by
    intro g op hop d;simp only[List.mem_toArray,List.mem_cons,List.not_mem_nil,or_false]at hop;rw[hop];rfl
   have hs1:∀i,i+1<m0+nw→(D i).stage=1:=λi hi=>hq i (by omega)
   refine .inr ⟨_,w,_,hrunT,by simpa using H.size,⟨a',Ow 0,map_set_at H.ha,hfin⟩,⟨λi=>(D (i-1)).fuel,λx y hx hy=>?_,λx hx=>?_⟩,
    H.ti.acq (T0:=T0) (λg hg=>?_) H.nr H.dd H.B hm0 _ _,H.B,H.pay,H.good,H.low,λc hc=>?_,H.rest,H.env,hwg⟩
   ·rcases map_set_get hy with⟨e,_⟩|⟨e,y0,hy0,rfl⟩
    ·omega
    ·obtain⟨x',rfl⟩:∃x',x=x'+1:=⟨x - 1,by omega⟩
     have hlt:=H.kQ hy0;have hx0:=H.ws x' y0 hy0;rw[hx0.woken,Deaf_quiet (hdq (x'+1)),H.dw x' hlt];simpa using hx0.quits (hs1 x' hlt)
   ·rw[Deaf_quiet (hdq x)];exact H.above x (by have:=H.size;simp at hx;omega)
   ·obtain⟨h1,h2⟩:=hg;obtain⟨g',rfl⟩:∃g',g=g'+1:=⟨g - 1,by omega⟩
    exact(H.rel g' ⟨h1,h2⟩ (by rw[hs1 g' h2];omega)).1
   ·have:=(H.rel (m0+c-1) ⟨by omega,by omega⟩ (by rw[hs1 _ (by omega)];omega)).2;have e:m0+c-1+1-m0=c:=by omega
    rwa[e]at this
  ·exact .inl (idleC hnw H hgo hD hO (.acq hg') (by omega))
end
end Crew
end
section
namespace Crew
set_option maxHeartbeats 1000000
set_option maxRecDepth 10000
open Go Go.Conc Go.ConcN
open Go.ConcR (KK wgBlock WgAt stA smA rd wr mk Payload DC0)
open Go.Proofs.YtccjdkghgbbliaaGreatDoor.Lift (blk Good Shn Poi)
variable [Payload]
section
variable {X:Cf} {val:Nat→Value} {nw m0 T0:Nat} {w0:World} {Fin Anch:Goroutine→World→Own→Prop}
theorem Eh(hnw:nw≤X.n)(hn:nw<2147483648)(hAr:∀g w O,Anch g w O→g.status=.running)(hAn:∀g w O,Anch g w O→∃m,GO X true X.n (AtW1 X Fin Anch) m g w O) :
  ∀(μ:Nat×Nat) (tag:CTag) (j f0 d0:Nat) (a:Goroutine) (gs:Array Goroutine) (w:World) (sl:Option (Nat×Nat)) (t:Trace) (D:Nat→WD) (Ow:Nat→Own) (st sm:Int),mu nw m0 tag j D f0=μ→
   PA X val nw m0 T0 w0 Fin Anch tag j f0 d0 a gs w t D Ow st sm→
   ∃(N:Nat) (gs':Array Goroutine) (w':World) (sl':Option (Nat×Nat)) (t':Trace),runNT X.P N (crowd gs w sl) t=(.next (crowd gs' w' sl'),t')∧Nw X val nw m0 w0 Fin gs' w' t':=by
 intro μ
 induction μ using(Prod.lex Nat.lt_wfRel Nat.lt_wfRel).wf.induction with
 |_ μ ih=>
 intro tag j f0 d0 a gs w sl t D Ow st sm hμ H;have haw:∀g∈gs,awake g:=by
  intro g hg tm;obtain⟨i,hi⟩:=Array.mem_iff_getElem?.1 hg;cases i with
  |zero=>
   rw[H.ha]at hi;cases hi;rcases H.cs.status hAr with⟨hs,_⟩|⟨hs,_⟩<;>rw[hs]<;>simp
  |succ i=>
   rcases(H.ws i g hi).status with h|h<;>rw[h]<;>simp
 have hsome:∃(i:Nat) (g:Goroutine),gs[i]?=some g∧g.status=.running:=by
  have get:∀i,i<m0+j→∃g,gs[i]?=some g:=λi hi=>⟨gs[i]'(by rw[H.size];exact hi),Array.getElem?_eq_getElem _⟩
  have hm0:=H.m0p;rcases H.cs.status hAr with⟨hs,_⟩|⟨_,rfl⟩
  ·exact⟨0,a,H.ha,hs⟩
  ·have hmode:=H.mode;cases hmode with
   |opn h1 _ _=>exact h1.elim
   |reg _ _ h3=>
    obtain⟨i,hi,h5⟩:=exists_counted h3;obtain⟨g,hg⟩:=get (i+1) (by omega);exact⟨i+1,g,hg,(H.ws i g hg).running_of (by omega)⟩
   |last L _ h2 h3 _=>
    obtain⟨g,hg⟩:=get (L+1) (by omega);exact⟨L+1,g,hg,(H.ws L g hg).running_of (by omega)⟩
   |fin h1 _=>exact h1.elim
 obtain⟨i,g,d,sl',hg,hrun,hstep⟩:=crowd_pick (P:=X.P) (w:=w) (sl:=sl) haw hsome;have H':=H.at d
 have go:mY X val nw m0 T0 w0 Fin Anch (mu nw m0 tag j D f0) (runT X.P (crowd gs (w.at d) sl') i) t→
   ∃(N:Nat) (gs':Array Goroutine) (w':World) (sl':Option (Nat×Nat)) (t':Trace),runNT X.P N (crowd gs w sl) t=(.next (crowd gs' w' sl'),t')∧Nw X val nw m0 w0 Fin gs' w' t':=by
  rintro⟨gs',w',sl'',ops,tag',j',f',d',a',D',Ow',st',sm',k1,k2,k3⟩;obtain⟨N,gs2,w2,sl2,t2,r1,r2⟩:=ih _ (hμ▸k2) tag' j' f' d' a' gs' w' sl'' (t++ops) D' Ow' st' sm' rfl k3;exact⟨N+1,gs2,w2,sl2,t2,by simp only[runNT,hstep,k1];exact r1,r2⟩
 cases i with
 |zero=>
  rw[H.ha]at hg;cases hg;rcases stepCaller (sl:=sl') hnw hn hAn H' hrun with h|⟨gs',w',ops,h1,h2⟩
  ·exact go h
  ·exact⟨1,gs',w',sl',t++ops,by simp only[runNT,hstep,h1],h2⟩
 |succ i=>exact go (stepWorker hnw hn hAr H' hg hrun)
theorem crew(hnw:nw≤X.n)(hn:nw<2147483648)(hAr:∀g w O,Anch g w O→g.status=.running)(hAn:∀g w O,Anch g w O→∃m,GO X true X.n (AtW1 X Fin Anch) m g w O)
  (hSW:¬X.S X.Wg) (hSC:¬X.S X.C) {a:Goroutine} {gs:Array Goroutine} {w:World} {t:Trace} {q:Nat→Nat} (sl:Option (Nat×Nat)) (ha:gs[0]?=some a) (hL:Leavers X.P t gs q) (hP:Past (Shn X.S) w.heap.size t)
  (hB:X.B≤w.heap.size) (hpay:PayAt X.C X.n w) (hgd:Gd X.P w) (hwg:WgAt X.ty X.Wg w 0 0) (hini:∀i,w.cell? ⟨X.C,i,none⟩=X.ini i) (hS:Spawns X val nw Anch nw a w Nobody) :
  ∃(N:Nat) (gs':Array Goroutine) (w':World) (sl':Option (Nat×Nat)) (t':Trace),runNT X.P N (crowd gs w sl) t=(.next (crowd gs' w' sl'),t')∧Nw X val nw gs.size w Fin gs' w' t':=by
 have hm0:0<gs.size:=(Array.getElem?_eq_some_iff.1 ha).1;have hW:=X.hW
 let D:Nat→WD:=λi=>⟨1,q (i+1),Deaf t (i+1)⟩
 have hnoS:∀{l:Loc} {b:Nat},blk l=some b→¬X.S b→¬Shn X.S l:=λhb hn ⟨b',hb',hs⟩=>by
  rw[hb]at hb';cases hb';exact hn hs
 have know:∀i x b,touchAt t i=some x→blk x.loc=some b→¬X.S b→Knows t 0 i:=λi x b hx hb hs=>by
  rcases hP.known i x hx (Dv hb)with h|h
  ·exact h
  ·exact absurd h.1 (hnoS hb hs)
 have noWk:∀{g:Nat},¬Wk gs.size (gs.size+0) g:=λh=>by obtain⟨a,b⟩:=h;omega
 have hti:TI X gs.size (gs.size+0) w.heap.size (λ_=>Nobody) t:=
  ⟨hP.clean,λi x hx hm=>(hP.known i x hx hm).imp id .inl,λi g h1 h2 h3=>.inl (hP.over i g h1 h2 h3),λi op x hop hx hb=>.inr λg hg=>by
    rcases hg with rfl|hg
    ·exact know i x X.Wg (by rw[touchAt_of hop];exact hx) hb hSW
    ·exact absurd hg noWk,
   λi x b hx hb _ _ _ h4 _ g hg=>by
    rcases hg with rfl|hg
    ·exact know i x b hx hb h4
    ·exact absurd hg noWk,
   λg b h=>h.elim,λg hg=>absurd hg noWk,λi x hx hb _=>know i x X.C hx hb hSC,hP.seen⟩
 have base:∀(tag:CTag) (f0:Nat),CS X val nw Fin Anch tag 0 f0 0 a w Nobody→ConcN.Mode (gs.size+0-1) D tag 0 0→
   PA X val nw gs.size t.size w Fin Anch tag 0 f0 0 a gs w t D (λ_=>Nobody) 0 0:=λtag f0 hcs hmode=>
  ⟨hm0,ha,hcs,rfl,λi g hg=>.lib (by show 1≤6;omega) (.quit (hL.old (i+1) g (by omega) hg)),λ_ _=>rfl,λ_ _=>rfl,hP.hears,λi hi=>hL.above i hi,λi hi=>absurd hi noWk,
   λk hk e=>by
    have:=lt_of_act? e;omega,
   ak _,⟨λ_ _ h=>h.elim,λ_ _ h=>h.elim,λ_ _ _ h=>h.elim⟩,λ_ _ h=>h.elim,hti,hB,hpay,hgd,λ_ _ _ _=>rfl,λi _=>hini i,⟨rfl,rfl⟩,hwg,hmode⟩
 have hV:Vc (gs.size+0-1) D=0:=by
  have:=J6 (D:=D) hm0 (λ_ _=>rfl) 0;omega
 have mode:∀tag,isOpen tag→pend tag=0→(∀vs,tag≠.w2 vs)→ConcN.Mode (gs.size+0-1) D tag 0 0:=λtag h1 h2 h3=>by
  have:=ConcN.Mode.opn (j:=gs.size+0-1) (D:=D) (tag:=tag) h1 (λi _=>.inr (.inr (.inr rfl))) (λvs e=>absurd e (h3 vs));rw[hV,h2]at this;simpa using this
 cases hr:nw with
 |zero=>
  rw[hr]at hS;obtain⟨m,hk⟩:=hS;subst hr;exact Eh hnw hn hAr hAn _ .kd 0 m 0 a gs w sl t D _ 0 0 rfl (base .kd m (.kd hk) (mode _ trivial rfl (by simp)))
 |succ r=>
  rw[hr]at hS;obtain⟨m,hk⟩:=hS;have e0:nw-(r+1)=0:=by omega
  have hcs:CS X val nw Fin Anch (.sp r 5) (nw-(r+1)) m 0 a w Nobody:=.skd (by omega) (by rw[hr];exact hk);rw[e0]at hcs;rw[← hr];exact Eh hnw hn hAr hAn _ (.sp r 5) 0 m 0 a gs w sl t D _ 0 0 rfl (base (.sp r 5) m hcs (mode _ trivial rfl (by simp)))
end
def blank:Obj→Obj
 |.cells _ e m=>.cells #[] e m
 |o=>o
open Classical in
noncomputable def waste [Lift.Keep] (P:Program) (S:Nat→Prop) (w:World):World:={ w with heap:=w.heap.mapIdx λb o=>if S b then blank o else if Good P o then o else Lift.idle }
omit [Payload]in
theorem sU[Lift.Keep]{P:Program}{S:Nat→Prop}{w:World}{b:Nat}(h:¬S b):(∀o,w.heap[b]?=some o→Good P o)→(waste P S w).heap[b]?=w.heap[b]?:=by
 intro hg;simp only[waste,Array.getElem?_mapIdx,h,if_false];cases hb:w.heap[b]? with
 |none=>rfl
 |some o=>simp[hg o hb]
omit [Payload]in
theorem sQ[Lift.Keep]{P:Program}{S:Nat→Prop}{w:World}{b:Nat}(h:¬S b){o:Obj}(ho:w.heap[b]?=some o)(hb:¬Good P o):(waste P S w).heap[b]?=some Lift.idle:=by
 simp only[waste,Array.getElem?_mapIdx,h,if_false,ho,Option.map_some,hb]
omit [Payload]in
theorem qj[Lift.Keep]{P:Program}{S:Nat→Prop}{w:World}{b:Nat}(h:S b){c:Array Value}{e:TypeId}(ho:w.heap[b]?=some (.cells c e (0,0))):(waste P S w).heap[b]?=some (.cells #[] e (0,0)):=by
 simp[waste,Array.getElem?_mapIdx,ho,h,blank]
omit [Payload]in
theorem mG[Lift.Keep]{P:Program}{S:Nat→Prop}{w:World}:(waste P S w).heap.size=w.heap.size:=by simp[waste]
omit [Payload]in
theorem Fg[Lift.Keep]{P:Program}{S:Nat→Prop}{w:World}(hS:∀b,S b→∃c e,w.heap[b]?=some (.cells c e (0,0)))(hK:∀b o,¬S b→w.heap[b]?=some o→¬Good P o→Lift.Elder b o):Poi P S (waste P S w) w:=by
 have key:∀b,¬S b→(waste P S w).heap[b]?=w.heap[b]?∧(∀o,w.heap[b]?=some o→Good P o)∨(waste P S w).heap[b]?=some Lift.idle∧∃o,w.heap[b]?=some o∧¬Good P o∧Lift.Elder b o:=λb hb=>by
  by_cases hg:∀o,w.heap[b]?=some o→Good P o
  ·exact .inl ⟨sU hb hg,hg⟩
  ·obtain⟨o,ho⟩:=Classical.not_forall.1 hg;obtain⟨h1,h2⟩:=Classical.not_imp.1 ho;exact .inr ⟨sQ hb h1 h2,o,h1,h2,hK b o hb h1 h2⟩
 refine⟨rfl,rfl,mG,λb hb=>(key b hb).imp (·.1) id,λb hb=>?_,λb o hb=>?_⟩
 ·obtain⟨c,e,h⟩:=hS b hb;exact⟨c,e,h,qj hb h⟩
 ·by_cases hs:S b
  ·obtain⟨c,e,h⟩:=hS b hs;rw[qj hs h]at hb;cases hb;trivial
  ·rcases key b hs with⟨e,hg⟩|⟨e,_⟩
   ·exact hg o (e.symm.trans hb)
   ·rw[e]at hb;cases hb;exact Lift.O8
omit [Payload]in
theorem J7[Lift.Keep]{P:Program}{S S':Nat→Prop}{w wa w1:World}(hp:Poi P S w wa){b:Nat}(hs:¬S b)(hs':¬S' b)(h:w1.heap[b]?=wa.heap[b]?):(waste P S' w1).heap[b]?=w.heap[b]?:=by
 rcases hp.same b hs with e|⟨e,o,e2,hb,_⟩
 ·rw[sU hs' (λo ho=>hp.views b o (by rw[e,← h];exact ho)),h,e]
 ·rw[sQ hs' (h.trans e2) hb,e]
end Crew
end
section
namespace Crew
set_option maxHeartbeats 1000000
set_option maxRecDepth 10000
open Go Go.Conc Go.ConcN
open Go.ConcR (Payload DC0)
variable [Payload]
abbrev Qo:=Exit→Act→World→Own→Prop
abbrev Ko:=Act→World→Own→Prop
def ru(K:Ko)(Q:Qo):Qo
 |.normal,a,w,O=>K a w O
 |e,a,w,O=>Q e a w O
def wC(id:Nat)(Q:Qo):Qo
 |.normal,a,w,O=>Q .normal a w O
 |.exit id',a,w,O=>if id'=id then Q .normal a w O else Q (.exit id') a w O
 |e,a,w,O=>Q e a w O
section
variable (X:Cf) (main:Bool) (c:Nat)
abbrev St:=Goroutine→World→Own→Prop
def qw(Stop:St)(m:Nat)(b:Frame)(k:List Item)(cs:List Frame):Qo
 |.normal,a,w,O=>GO X main c Stop m (G (b.at a k) cs) w O
 |.exit id,a,w,O=>∃k',exitTo id k=some k'∧GO X main c Stop m (G (b.at a k') cs) w O
 |.ret,a,w,O=>∀todo,GO X main c Stop m (G { b.at a todo with mode:=.returning } cs) w O
 |_,_,_,_=>False
def wpO(fn:FuncId)(code:Code)(n:Nat)(Q:Qo)(a:Act)(w:World)(O:Own):Prop:=
 ∀(b:Frame) (k:List Item) (cs:List Frame) (Stop:St) (m:Nat),b.fn=fn→b.kind≠.early→(∀e a' w' O',Q e a' w' O'→qw X main c Stop m b k cs e a' w' O')→GO X main c Stop (m+n) (G (b.at a (.code code::k)) cs) w O
def oJ(fn:FuncId)(ops:Array Oper)(todo:List Nat)(n:Nat)(Q:Qo)(a:Act)(w:World)(O:Own):Prop:=
 ∀(b:Frame) (k:List Item) (cs:List Frame) (Stop:St) (m:Nat),b.fn=fn→b.kind≠.early→(∀e a' w' O',Q e a' w' O'→qw X main c Stop m b k cs e a' w' O')→GO X main c Stop (m+n) (G (b.at a (.inRegion ops todo::k)) cs) w O
end
section
variable {X:Cf} {main:Bool} {c:Nat} {fn:FuncId} {Q Q':Qo} {a:Act} {w w₁:World} {O:Own} {n n' m:Nat}
theorem qw.mono{Stop:St}{m m':Nat}{b:Frame}{k:List Item}{cs:List Frame}{e:Exit}(h:qw X main c Stop m b k cs e a w O)(hm:m≤m'):qw X main c Stop m' b k cs e a w O:=by
 cases e with
 |normal=>exact GO.mono h hm
 |exit id=>obtain⟨k',hk,hg⟩:=h;exact⟨k',hk,hg.mono hm⟩
 |ret=>exact λtodo=>(h todo).mono hm
 |goto l=>exact h
 |panic ch=>exact h
 |outgrown=>exact h
theorem qw.push{Stop:St}{m:Nat}{b:Frame}{x:Item}{k:List Item}{cs:List Frame}{e:Exit}(hx:x.plain=true)(he:e≠.normal)(h:qw X main c Stop m b k cs e a w O):qw X main c Stop m b (x::k) cs e a w O:=by
 cases e with
 |normal=>exact absurd rfl he
 |exit id=>obtain⟨k',hk,hg⟩:=h;exact⟨k',by cases x<;>simp_all[exitTo,Item.plain],hg⟩
 |ret=>exact h
 |goto l=>exact h
 |panic ch=>exact h
 |outgrown=>exact h
theorem wW{code:Code}(h:wpO X main c fn code n Q a w O)(hn:n≤n'):wpO X main c fn code n' Q a w O:=λb k cs Stop m hb hk hc=>(h b k cs Stop m hb hk hc).mono (by omega)
theorem oP{code:Code}(h:wpO X main c fn code n Q a w O)(hq:∀e a w O,Q e a w O→Q' e a w O):wpO X main c fn code n Q' a w O:=λb k cs Stop m hb hk hc=>h b k cs Stop m hb hk λe a' w' O' q=>hc e a' w' O' (hq e a' w' O' q)
theorem J9(h:Q .normal a w O):wpO X main c fn .skip 1 Q a w O:=λb k cs Stop m _ _ hc=>GO.ctl rfl (λ_=>stepG_skip) (hc _ _ _ _ h)
theorem wpO_ret(h:Q .ret a w O):wpO X main c fn .ret 1 Q a w O:=λb k cs Stop m _ _ hc=>GO.ctl rfl (λ_=>stepG_ret') (hc _ _ _ _ h _)
theorem UJ{id:Nat}(h:Q (.exit id) a w O):wpO X main c fn (.exit id) 1 Q a w O:=λb k cs Stop m _ _ hc=>by
 obtain⟨k',hk',hg⟩:=hc _ _ _ _ h;exact GO.ctl rfl (λ_=>stepG_exit hk') hg
theorem nC{x y:Code}{n₁ n₂:Nat}(h:wpO X main c fn x n₁ (ru (λa' w' O'=>wpO X main c fn y n₂ Q a' w' O') Q) a w O):wpO X main c fn (.seq x y) (n₁+n₂+1) Q a w O:=by
 intro b k cs Stop m hb hk hc;have hx:GO X main c Stop (m+n₂+n₁) (G (b.at a (.code x::.code y::k)) cs) w O:=by
  refine h b (.code y::k) cs Stop (m+n₂) hb hk λe a' w' O' q=>?_;cases e with
  |normal=>exact q b k cs Stop m hb hk hc
  |exit id=>exact((hc _ _ _ _ q).mono (Nat.le_add_right _ _)).push rfl (by simp)
  |ret=>exact((hc _ _ _ _ q).mono (Nat.le_add_right _ _)).push (x:=.code y) rfl (by simp)
  |goto l=>exact hc _ _ _ _ q
  |panic ch=>exact hc _ _ _ _ q
  |outgrown=>exact hc _ _ _ _ q
 have e:m+(n₁+n₂+1)=(m+n₂+n₁)+1:=by omega
 rw[e];exact GO.ctl rfl (λ_=>stepG_seq) hx
theorem UH{o:Operand}{x y:Code}{t:Bool}(hc:a.eval o=.bool t)(h:wpO X main c fn (if t then x else y) n Q a w O):wpO X main c fn (.cond o x y) (n+1) Q a w O:=
 λb k cs Stop m hb hk hq=>GO.ctl rfl (λ_=>stepG_cond hc) (h b k cs Stop m hb hk hq)
theorem rD{o:Operand}{x y:Code}{t:Bool}{n₁ n₂:Nat}(hc:a.eval o=.bool t)(ht:t=true→wpO X main c fn x n₁ Q a w O)(hf:t=false→wpO X main c fn y n₂ Q a w O):wpO X main c fn (.cond o x y) (max n₁ n₂+1) Q a w O:=by
 refine UH hc ?_;cases t with
 |true=>exact wW (ht rfl) (Nat.le_max_left _ _)
 |false=>exact wW (hf rfl) (Nat.le_max_right _ _)
theorem Fh{id:Nat}{x:Code}(h:wpO X main c fn x n (wC id Q) a w O):wpO X main c fn (.block id x) (n+2) Q a w O:=by
 intro b k cs Stop m hb hk hc;have hx:GO X main c Stop (m+1+n) (G (b.at a (.code x::.inBlock id::k)) cs) w O:=by
  refine h b (.inBlock id::k) cs Stop (m+1) hb hk λe a' w' O' q=>?_;cases e with
  |normal=>exact GO.ctl rfl (λ_=>stepG_inBlock) (hc _ _ _ _ q)
  |exit id'=>
   by_cases hid:id'=id
   ·simp only[wC,hid,if_true]at q;exact⟨k,by simp[exitTo,hid],GO.more (hc _ _ _ _ q)⟩
   ·simp only[wC,hid,if_false]at q;obtain⟨k',hk',hg⟩:=hc _ _ _ _ q;have:(id==id')=false:=by simp;exact λh=>hid h.symm
    exact⟨k',by simp[exitTo,this,hk'],hg.more⟩
  |ret=>exact λtodo=>(hc _ _ _ _ q todo).more
  |goto l=>exact hc _ _ _ _ q
  |panic ch=>exact hc _ _ _ _ q
  |outgrown=>exact hc _ _ _ _ q
 have e:m+(n+2)=(m+1+n)+1:=by omega
 rw[e];exact GO.ctl rfl (λ_=>stepG_block) hx
theorem UK{x:Code}(I:Nat→Ko)(r N:Nat)(h₀:I N a w O)(round:∀k a w O,I k a w O→wpO X main c fn x r (ru (λa' w' O'=>∃k',k'<k∧I k' a' w' O') Q) a w O):wpO X main c fn (.loop x) ((N+1) * (r+1)+1) Q a w O:=by
 intro b k cs Stop m hb hk hc;have key:∀N j a w O,j≤N→I j a w O→GO X main c Stop (m+(N+1) * (r+1)) (G (b.at a (.code x::.inLoop x::k)) cs) w O:=by
  intro N
  induction N with
  |zero=>
   intro j a w O hj hI;have:=round j a w O hI b (.inLoop x::k) cs Stop (m+1) hb hk λe a' w' O' q=>by
    cases e with
    |normal=>obtain⟨k',h1,_⟩:=q;omega
    |exit id=>exact((hc _ _ _ _ q).mono (Nat.le_add_right _ _)).push rfl (by simp)
    |ret=>exact((hc _ _ _ _ q).mono (Nat.le_add_right _ _)).push (x:=.inLoop x) rfl (by simp)
    |goto l=>exact hc _ _ _ _ q
    |panic ch=>exact hc _ _ _ _ q
    |outgrown=>exact hc _ _ _ _ q
   exact this.mono (by simp;omega)
  |succ N ih=>
   intro j a w O hj hI;have:=round j a w O hI b (.inLoop x::k) cs Stop (m+(N+1) * (r+1)+1) hb hk λe a' w' O' q=>by
    cases e with
    |normal=>obtain⟨k',h1,h2⟩:=q;exact GO.ctl rfl (λ_=>stepG_inLoop) (ih k' a' w' O' (by omega) h2)
    |exit id=>exact((hc _ _ _ _ q).mono (by omega)).push rfl (by simp)
    |ret=>exact((hc _ _ _ _ q).mono (by omega)).push (x:=.inLoop x) rfl (by simp)
    |goto l=>exact hc _ _ _ _ q
    |panic ch=>exact hc _ _ _ _ q
    |outgrown=>exact hc _ _ _ _ q
   refine this.mono ?_;have:(N+1+1) * (r+1)=(N+1) * (r+1)+(r+1):=by rw[Nat.succ_mul]
   omega
 have e:m+((N+1) * (r+1)+1)=(m+(N+1) * (r+1))+1:=by omega
 rw[e];exact GO.ctl rfl (λ_=>stepG_loop) (key N N a w O (ak _) h₀)
theorem iH{id:Nat}{ops:Array Oper}(h:oJ X main c fn ops (List.range ops.size) n Q a w O):wpO X main c fn (.region id ops false) (n+1) Q a w O:=
 λb k cs Stop m hb hk hc=>GO.ctl rfl (λ_=>stepG_region) (h b k cs Stop m hb hk hc)
theorem je{ops:Array Oper}(h:Q .normal a w O):oJ X main c fn ops [] 1 Q a w O:=λb k cs Stop m _ _ hc=>GO.ctl rfl (λ_=>stepG_region_end) (hc _ _ _ _ h)
theorem iM{ops:Array Oper}{todo:List Nat}(h:oJ X main c fn ops todo n Q a w O)(hn:n≤n'):oJ X main c fn ops todo n' Q a w O:=λb k cs Stop m hb hk hc=>(h b k cs Stop m hb hk hc).mono (by omega)
def D9(O O':Own)(w w':World):Prop:=∀b,O' b→O b∨(w.heap.size≤b∧b<w'.heap.size)
omit [Payload]in
theorem D9.refl(O:Own)(w w':World):D9 O O w w':=λ_ hb=>.inl hb
theorem sG{ops:Array Oper}{i:Nat}{rest:List Nat}{o:Oper}(ho:ops[i]?=some o)(hw:Region.wanted o (yielded ops a.tmps)=true)
  (h:∀w₁,dh X c O w w₁→∀K:Act→World→Prop,(∀a' w',(DO X main c O w₁ w' (listed X.P fn a o w₁)∧∃O',D9 O O' w₁ w'∧oJ X main c fn ops rest n Q a' w' O')→K a' w')→uponK o a K ((execOp a.eval o).run X.P w₁)) :
  oJ X main c fn ops (i::rest) (n+1) Q a w O:=by
 intro b k cs Stop m hb hk hc;refine .inr ⟨rfl,λw₁ h₁=>goes_oper ho hw hk ?_⟩;have:=h w₁ h₁ _ λa' w' x=>x
 revert this
 cases(execOp a.eval o).run X.P w₁ with
 |ok x w'=>cases x<;>first|exact λ⟨d,O',g1,g2⟩=>⟨hb▸d,O',g1,g2 b k cs Stop m hb hk hc⟩|exact id
 |halt _ _=>exact id
theorem Ns{D:World→World→Array Event→Prop}(hD:∀w w' es,D w w' es→DO X main c O w w' es){code:Code}{q:Exit→Act→World→Prop}(h:code.wpC X.P main (dh X c O) D fn n q a w):wpO X main c fn code n (λe a w O'=>O'=O∧q e a w) a w O:=by
 intro b k cs Stop m hb hk hc;have:=h b k cs (λg w=>GO X main c Stop m g w O) 0 hb hk λe a' w' hq=>by
  have h1:=hc e a' w' O ⟨rfl,hq⟩;cases e with
  |normal=>exact Goes.stop λw₁ h₁=>GO.rely h1 h₁
  |exit id=>obtain⟨k',hk',hg⟩:=h1;exact⟨k',hk',Goes.stop λw₁ h₁=>GO.rely hg h₁⟩
  |ret=>exact λtodo=>Goes.stop λw₁ h₁=>GO.rely (h1 todo) h₁
  |goto l=>exact h1
  |panic ch=>exact h1
  |outgrown=>exact h1
 have:=GO.Ob hD this;exact this.mono (by omega)
def OB(P:Program)(f:Func)(Post:Value→World→Own→Prop):Qo
 |.normal,a,w,O|.ret,a,w,O=>a.defers=[]∧∃v,ResultsC P f a.tmps v∧Post v w O
 |_,_,_,_=>False
def Kw(X:Cf)(main:Bool)(c:Nat)(f:FuncId)(args:Array Value)(n:Nat)(w:World)(O:Own)(Post:Value→World→Own→Prop):Prop:=
 ∃fn body,X.P.funcs[f]?=some fn∧(fn.name == "runtime.NumGoroutine")=false∧fn.body=some body∧
  wpO X main c f body n (OB X.P fn Post) { tmps:=args++Array.replicate (fn.ntmps-args.size) undef,defers:=[] } w O
theorem GO.call{b:Frame}{k:List Item}{cs:List Frame}{ops:Array Oper}{i:Nat}{rest:List Nat}{o:Oper}{f:FuncId}{args:Array Operand}{ats:Array TypeId}{nf m:Nat}{Post:Value→World→Own→Prop}{Stop:St}
  (ho:ops[i]?=some o) (hw:Region.wanted o (yielded ops a.tmps)=true) (hk:b.kind≠.early) (hop:o.op=.call { callee:=.value (.func f),args,argTypes:=ats })
  (hcall:Kw X main c f (args.map a.eval) nf w O Post) (hnext:∀v w' O',Post v w' O'→GO X main c Stop m (G (b.at (a.put o.dst v) (.inRegion ops rest::k)) cs) w' O') :
  GO X main c Stop (m+nf+3) (G (b.at a (.inRegion ops (i::rest)::k)) cs) w O:=by
 obtain⟨fn,body,hf,hname,hbody,hwp⟩:=hcall;have hfin:∀v,(b.at a (.inRegion ops (i::rest)::k)).finish v=b.at (a.put o.dst v) (.inRegion ops rest::k):=λv=>by rw[Frame.finish_at,ho];rfl
 have hleave:∀(a':Act) (w':World) (O':Own) (todo:List Item),(a'.defers=[]∧∃v,ResultsC X.P fn a'.tmps v∧Post v w' O')→
   GO X main c Stop (m+1) (G { (base f).at a' todo with mode:=.returning } (b.at a (.inRegion ops (i::rest)::k)::cs)) w' O':=by
  rintro a' w' O' todo ⟨hd,v,hr,hp⟩;refine GO.step rfl λw₁ h₁=>?_;rw[stepG_leave (b:=base f) rfl hd hf (hr w₁).1 (hr w₁).2,hfin];exact⟨DO.idle _,(hnext v w' O' hp).rely h₁⟩
 have hbodyG:GO X main c Stop (m+2+nf) (G ((base f).at { tmps:=args.map a.eval++Array.replicate (fn.ntmps-(args.map a.eval).size) undef,defers:=[] } [.code body]) (b.at a (.inRegion ops (i::rest)::k)::cs)) w O:=by
  refine hwp (base f) [] _ Stop (m+2) rfl (by simp[base]) λe a' w' O' q=>?_;cases e with
  |normal=>exact GO.ctl rfl (λ_=>stepG_end) (hleave a' w' O' [] q)
  |ret=>exact λtodo=>(hleave a' w' O' todo q).more
  |exit id=>exact q.elim
  |goto l=>exact q.elim
  |panic ch=>exact q.elim
  |outgrown=>exact q.elim
 have e:m+nf+3=(m+2+nf)+1:=by omega
 rw[e];exact GO.step rfl λw₁ h₁=>goes_call ho hw hk hop hf hname hbody ⟨DO.idle _,hbodyG.rely h₁⟩
theorem Qb{ops:Array Oper}{i:Nat}{rest:List Nat}{o:Oper}{f:FuncId}{args:Array Operand}{ats:Array TypeId}{nf:Nat}{Post:Value→World→Own→Prop}
  (ho:ops[i]?=some o) (hw:Region.wanted o (yielded ops a.tmps)=true) (hop:o.op=.call { callee:=.value (.func f),args,argTypes:=ats })
  (hcall:Kw X main c f (args.map a.eval) nf w O Post) (hnext:∀v w' O',Post v w' O'→oJ X main c fn ops rest n Q (a.put o.dst v) w' O'):oJ X main c fn ops (i::rest) (n+nf+3) Q a w O:=by
 intro b k cs Stop m hb hk hc;have:=GO.call (Stop:=Stop) (m:=m+n) (b:=b) (k:=k) (cs:=cs) ho hw hk hop hcall λv w' O' hp=>hnext v w' O' hp b k cs Stop m hb hk hc;exact this.mono (by omega)
omit [Payload]in
theorem count_set:∀(l:List Bool) (i:Nat),l[i]?=some false→(l.set i true).count false+1=l.count false
 | [],i,h=>by simp at h
 |b::l,0,h=>by
  simp at h;subst h;simp
 |b::l,i+1,h=>by
  have:=count_set l i (by simpa using h);simp only[au,List.count_cons];omega
theorem rE{id:Nat}{ops:Array Oper}(hm:X.P.follows .mixedOrders=true)(J:Array Bool→Ko)(K:Nat)
  (h0:∀w₁:World,dh X c O w w₁→J (Array.replicate ops.size false) a { w₁ with drawn:=w₁.drawn+1 } O)
  (hop:∀i l a w O,i∈Region.ready .any ops l→J l a w O→∀rest n,(∀a' w' O',J (l.setIfInBounds i true) a' w' O'→oJ X main c fn ops rest n Q a' w' O')→oJ X main c fn ops (i::rest) (n+K) Q a w O)
  (hend:∀l a w O,Region.ready .any ops l=[]→J l a w O→Q .normal a w O):wpO X main c fn (.region id ops true) (ops.size * K+2) Q a w O:=by
 have key:∀(fuel t:Nat) (l:Array Bool) (a:Act) (w:World) (O:Own),l.toList.count false≤fuel→J l a w O→oJ X main c fn ops (Region.linearise.go .any ops fuel t l []) (fuel * K+1) Q a w O:=by
  intro fuel
  induction fuel with
  |zero=>
   intro t l a w O hl hJ;have hnil:Region.ready .any ops l=[]:=by
    cases hr:Region.ready .any ops l with
    |nil=>rfl
    |cons x xs=>
     exfalso;have hx:x∈Region.ready .any ops l:=by rw[hr];simp
     have:=(mem_ready.1 hx).1;rcases Nat.lt_or_ge x l.size with h|h
     ·simp[h]at this;have h2:false∈l.toList:=by
       rw[← this];exact Array.getElem_mem_toList h
      have:=List.count_pos_iff.2 h2;omega
     ·simp[Array.getElem?_eq_none h]at this
   simpa[Region.linearise.go]using je (hend _ _ _ _ hnil hJ)
  |succ fuel ih=>
   intro t l a w O hl hJ;simp only[Region.linearise.go]
   change oJ X main c fn ops (match (Region.ready .any ops l)[t % (Region.ready .any ops l).length]? with
    |some i=>Region.linearise.go .any ops fuel (t / (Region.ready .any ops l).length) (l.setIfInBounds i true) [i]
    |none=>[].reverse) ((fuel+1) * K+1) Q a w O
   cases hi:(Region.ready .any ops l)[t % (Region.ready .any ops l).length]? with
   |none=>
    have hnil:Region.ready .any ops l=[]:=by
     cases hr:Region.ready .any ops l with
     |nil=>rfl
     |cons x xs=>
      rw[hr]at hi;have hlt:t % (x::xs).length<(x::xs).length:=Nat.mod_lt _ (by simp);simp at hi;simp at hlt;omega
    exact iM (by simpa using je (hend _ _ _ _ hnil hJ)) (by omega)
   |some i=>
    have hmem:=List.mem_of_getElem? hi;simp only[];rw[linearise_go_acc,List.reverse_singleton,List.singleton_append];have e:(fuel+1) * K+1=(fuel * K+1)+K:=by rw[Nat.succ_mul];omega
    rw[e];refine hop i l a w O hmem hJ _ _ λa' w' O' hJ'=>ih _ _ a' w' O' ?_ hJ';have h1:=(mem_ready.1 hmem).1;rcases Nat.lt_or_ge i l.size with h|h
    ·have h2:l.toList[i]?=some false:=by
      simp[h]at h1;simp[h,h1]
     have:=count_set l.toList i h2;rw[Array.toList_setIfInBounds];omega
    ·simp[Array.getElem?_eq_none h]at h1
 intro b k cs Stop m hb hk hc;have e:m+(ops.size * K+2)=(m+(ops.size * K+1))+1:=by omega
 rw[e];refine GO.step rfl λw₁ h₁=>?_;rw[stepG_region_draw];refine⟨⟨ak _,λ_ _ _ _=>rfl,λh=>h,λ_ _=>rfl,λ_ h=>h,λe he=>by simp at he,⟨rfl,rfl⟩⟩,?_⟩;simp only[Region.schedule,hm,Bool.true_or,if_true];refine key ops.size _ (Array.replicate ops.size false) a _ O ?_ (h0 w₁ h₁) b k cs Stop m hb hk hc;have:=List.count_le_length (a:=false) (l:=(Array.replicate ops.size false).toList);simpa using this
end
end Crew
end
