/- rival.Fates on a book as heard makes it; names of rights and cases: inside the fence. -/
import Derived.Test.YtccjdkghgbbliaaGreatDoorA54
set_option linter.all false
namespace Go.Proofs.YtccjdkghgbbliaaGreatDoor
section
set_option maxHeartbeats 1000000
set_option maxRecDepth 10000
set_option maxHeartbeats 64000000
set_option maxRecDepth 100000
open Go Go.RowKit Lift
theorem QT{N:Nat}{b:RV}{w:World}(hO:b.Ok)(h:nP N b w)(hC:eP w):CallsIn Fz 0 Tryz.prog 68 #[.agg b.arr] w λr w'=>(∃(R c:Nat) (vc:Value),r=.returned (.tuple #[.slice (some ⟨R,0,none⟩) b.rights.length c,vc,.int .i64 0])∧R<w'.heap.size∧w'.cell? ⟨R,0,none⟩=some (.int .i64 (sayOf b.cs.length)))∧Below w.heap.size w w':=by
 have hN:=h.hN;have hb1:Below w.heap.size w (w.alloc (.cells b.arr 169)):=(Below.refl _ w).alloc (ak _) _;have hck:=Ky hO (h.below (hb1.mono hN)) (hC.below hb1 hC.lt);have hX1:=Blk.new w b.arr 169;have hf:=λw' (hb:Below w.heap.size w w')=>oW (m:=0) (SA hO (h.below (hb.mono hN)));gi_enter Tryz.func68,Tryz.ntmps68
 gi_wp2_with (first
  |(gi_at_call 129;refine hck.mono ?_;rintro e w2 ⟨rfl,hb2⟩;have hX2:=hX1.below hb2;have x0:=hX2.cell 0;have x1:=hX2.cell 1;simp at x0 x1;have lx:=hX2.lt;have hbb:=hb1.trans (hb2.mono hb1.size);have hf2:=hf _ hbb)
  |(gi_at_call 130;refine hf2.mono ?_;rintro e w3 ⟨⟨R,c,vc,rfl,r1,r2⟩,hb3⟩))
 (try simp only[Exit.inBlock,Exit.then])
 refine bodyPost_ret (results_tmp3 rfl _ _ _) rfl ?_;exact⟨⟨R,c,vc,rfl,r1,r2⟩,hbb.trans (hb3.mono hbb.size)⟩
def nameB(w:ByteArray)(k:Nat):ByteArray:=w++⟨#[48+UInt8.ofNat k]⟩
theorem OU{k:Nat}(hk:k<10)(w:World):CallsIn Fz 0 Tryz.prog 128 #[.int .i64 k] w λe w'=>e=.returned (.string ⟨#[48+UInt8.ofNat k]⟩)∧Below w.heap.size w w':=by
 have hk':(k:Int)<10:=by omega
 have hcv:(convert 315 9 (.slice (some ⟨w.heap.size,0,none⟩) 1 1)).run Tryz.prog (w.alloc (.cells #[.int .u8 (48+(k:Int))] 5))=.ok (.string ⟨#[48+UInt8.ofNat k]⟩) (w.alloc (.cells #[.int .u8 (48+(k:Int))] 5)):=run_convert_bytes_back (P:=Tryz.prog) (w.alloc (.cells #[.int .u8 (48+(k:Int))] 5)) 315 9 5 ⟨w.heap.size,0,none⟩ 1 [48+UInt8.ofNat k] (show Tryz.prog.underlying 315=some (.slice 5) by kernel_rfl) Tryz.underlying5 Tryz.underlying9 (λj hj=>by
  obtain rfl:j=0:=by simpa using hj
  have hc:=(Blk.new w #[.int .u8 (48+(k:Int))] 5).cell 0;have e:(((48+UInt8.ofNat k).toNat:Nat):Int)=48+(k:Int):=by
   have:(48+UInt8.ofNat k).toNat=48+k:=by simp;omega
   rw[this];omega
  simp only[List.getElem_cons_zero,e];simpa[Addr.add]using hc)
 gi_enter Tryz.func128,Tryz.ntmps128
 gi_wp2;go_ret;exact⟨rfl,(Below.refl _ w).alloc (ak _) _⟩
theorem N9{k:Nat}(hk:k<10){s:ByteArray}(hs:s.size≤10)(w:World):CallsIn Fz 0 Tryz.prog 67 #[.string s,.int .i64 k] w λe w'=>e=.returned (.string (nameB s k))∧Below w.heap.size w w':=by
 have hd:=OU hk w;have hs':¬(9223372036854775807<s.size+1):=by omega
 gi_enter Tryz.func67,Tryz.ntmps67
 gi_wp2_with (gi_at_call 128;refine hd.mono ?_;rintro e w2 ⟨rfl,hb2⟩)
 go_ret;exact⟨rfl,hb2⟩
def vK:ByteArray:=⟨#[111,108,100]⟩
def pX:ByteArray:=⟨#[111,112,112]⟩
def lU:ByteArray:=⟨#[114,105,103,104,116]⟩
theorem xH{s:ByteArray}(h:(decide (1≤s.size)&&decide (s.size≤10)&&(match s.data.toList with | []=>false|x::_=>decide (97≤x.toNat)&&decide (x.toNat≤122))&&s.data.toList.all jl)=true):bY s:=by
 simp only[Bool.and_eq_true,decide_eq_true_eq]at h;obtain⟨⟨⟨h1,h2⟩,h3⟩,h4⟩:=h;refine⟨h1,h2,λx hx=>?_,λj x hx=>?_⟩
 ·cases hl:s.data.toList with
  |nil=>rw[hl]at hx;cases hx
  |cons y ys=>rw[hl]at hx h3;cases hx;simpa using h3
 ·exact List.all_eq_true.1 h4 x (List.mem_of_getElem? hx)
theorem Um:bY lU:=xH (by decide +kernel)
theorem old_fin:∀k:Fin 5,bY (nameB vK k.val):=λk=>xH (by revert k;decide +kernel)
theorem opp_fin:∀k:Fin 5,bY (nameB pX k.val):=λk=>xH (by revert k;decide +kernel)
theorem old_inj:∀j k:Fin 5,nameB vK j.val=nameB vK k.val→j=k:=by decide +kernel
theorem opp_inj:∀j k:Fin 5,nameB pX j.val=nameB pX k.val→j=k:=by decide +kernel
theorem P9:∀k:Fin 5,lU≠nameB vK k.val:=by decide +kernel
def gu(k:Nat):List ByteArray:=lU::(List.range k).map (nameB vK)
theorem Qq{k:Nat}(hk:k≤5):∀s∈gu k,bY s:=λs hs=>by
 rcases List.mem_cons.1 hs with rfl|h
 ·exact Um
 ·obtain⟨j,hj,rfl⟩:=List.mem_map.1 h;have:=List.mem_range.1 hj;exact old_fin ⟨j,by omega⟩
theorem nodup_range{f:Nat→ByteArray}{l:List Nat}(hl:l.Nodup)(h:∀i∈l,∀j∈l,f i=f j→i=j):(l.map f).Nodup:=by
 rw[List.nodup_iff_pairwise_ne,List.pairwise_map];exact(List.pairwise_iff_forall_sublist.2 λ{a b} hs e=>by
  have ha:=hs.subset (List.mem_cons_self ..);have hb:=hs.subset (List.mem_cons_of_mem _ (List.mem_cons_self ..));have:=h a ha b hb e;subst this;have:=hl.sublist hs;simp at this)
theorem G8{k:Nat}(hk:k≤5):(gu k).Nodup:=by
 refine List.nodup_cons.2 ⟨λh=>?_,nodup_range List.nodup_range λi hi j hj e=>?_⟩
 ·obtain⟨j,hj,e⟩:=List.mem_map.1 h;have:=List.mem_range.1 hj;exact P9 ⟨j,by omega⟩ e.symm
 ·have:=List.mem_range.1 hi;have:=List.mem_range.1 hj;have:=old_inj ⟨i,by omega⟩ ⟨j,by omega⟩ e;simpa using this
end
section
set_option maxHeartbeats 1000000
set_option maxRecDepth 10000
set_option maxHeartbeats 16000000
set_option maxRecDepth 100000
open Go Go.RowKit Lift
section
variable {W W':World} {B ty base e e' size size' n n' cap:Nat} {cs:Array Value} {v v':Value} {xs xs':List Value}
theorem uK(hB:Blk W B ty cs)(h:W.ownsRow base e size v n xs)(hne:ty≠e):v.ownBlock≠some B:=λq=>by
 rcases h.2 with⟨rfl,_⟩|⟨g,cap,cur,rfl,_,hg,_⟩
 ·cases q
 ·cases q;have:=hB.symm.trans hg;cases this;exact hne rfl
theorem BN(h:W.ownsRow base e size v n xs)(h':W.ownsRow base e' size' v' n' xs')(hne:e≠e'):v.ownBlock≠v'.ownBlock∨v.ownBlock=none:=by
 rcases h.2 with⟨rfl,_⟩|⟨g,cap,cur,rfl,_,hg,_⟩
 ·exact .inr rfl
 ·exact .inl λq=>uK (show Blk W g e cur from hg) h' hne q.symm
theorem Blk.jK(hB:Blk W B ty cs)(h:W.ownsRow base e size v n xs)(hne:ty≠e)(hg:W.grownBy W' v.ownBlock):Blk W' B ty cs:=
 (hg.block B hB.lt (λq=>uK hB h hne q.symm)).trans hB
theorem sH(h:W.ownsRow base e size v n xs)(hB:Blk W B ty cs)(hne:ty≠e)(j:Nat)(u:Value):(W.setCell ⟨B,j,none⟩ u).ownsRow base e size v n xs:=
 lN h (uK hB h hne)
end
theorem DT(c:Nat):gu (c+1)=gu c++[nameB vK c]:=by simp[gu,List.range_succ]
structure gV (w:World) (bn:Array Value) (c:Nat) (ls:List Nat) (rb:Option Addr) (rc:Nat) (ca:Option Addr) (cc:Nat) (cs:List RC) (W:World):Prop where
 bel:Below w.heap.size w W
 x:Blk W w.heap.size 27 bn
 a9:Blk W (w.heap.size+1+1) 169 #[.slice rb ((c+1:Nat)) rc,.slice ca cs.length cc]
 rs:W.ownsRow (w.heap.size+1) 9 1 (.slice rb (c+1) rc) (c+1) ((gu c).map Value.string)
 cr:W.ownsRow (w.heap.size+1) 173 4 (.slice ca cs.length cc) cs.length (cs.map RC.row).flatten
 gs:∀r∈cs,Blk W r.gb 28 #[.slice (some ⟨r.ib,0,none⟩) 1 1]∧Blk W r.ib 3 #[.int .i64 r.r]
 nm:cs.map (λr=>(r.nm,r.r))=ls.map λj=>(nameB pX j,j+1)
section
variable {w A B w1:World} {bn:Array Value} {c rc rc' cc cc':Nat} {ls:List Nat} {rb G5 ca ca':Option Addr} {cs:List RC}
theorem gV.below(h:gV w bn c ls rb rc ca cc cs A)(hb:Below A.heap.size A B):gV w bn c ls rb rc ca cc cs B:=
 ⟨h.bel.trans (hb.mono h.bel.size),h.x.below hb,h.a9.below hb,dP h.rs hb,dP h.cr hb,λr hr=>⟨(h.gs r hr).1.below hb,(h.gs r hr).2.below hb⟩,h.nm⟩
theorem gV.right(h:gV w bn c ls rb rc ca cc cs B)(hg:B.grownBy w1 (Value.slice rb (c+1) rc).ownBlock)
  (hown:w1.ownsRow (w.heap.size+1) 9 1 (.slice G5 (c+1+1) rc') (c+1+1) ((gu c).map Value.string++[.string (nameB vK c)])) :
  gV w bn (c+1) ls G5 rc' ca cc cs (w1.setCell ⟨w.heap.size+1+1,0,none⟩ (.slice G5 (c+1+1) rc')):=by
 have ha:=h.a9.jK h.rs (by decide) hg;have hx:=h.x.jK h.rs (by decide) hg;have hcr:=vI h.cr hg (BN h.cr h.rs (by decide));refine⟨?_,hx.set (by omega) _,?_,?_,sH hcr ha (by decide) _ _,λr hr=>?_,h.nm⟩
 ·exact(h.bel.grown hg h.bel.size (λk q=>by have:=(h.rs.lt k q).1;omega)).setCell (p:=⟨w.heap.size+1+1,0,none⟩) (show w.heap.size≤w.heap.size+1+1 by omega) _
 ·have:=ha.put 0 (.slice G5 (c+1+1) rc');simpa using this
 ·rw[DT,List.map_append];exact sH hown ha (by decide) _ _
 ·obtain⟨g1,g2⟩:=h.gs r hr;have q1:=g1.jK h.rs (by decide) hg;have q2:=g2.jK h.rs (by decide) hg;exact⟨q1.set (λq=>by rw[q]at ha;have:=q1.symm.trans ha;cases this) _,q2.set (λq=>by rw[q]at ha;have:=q2.symm.trans ha;cases this) _⟩
theorem gV.case{j:Nat}{r0:RC}(h:gV w bn c ls rb rc ca cc cs B)(hr:Blk B r0.gb 28 #[.slice (some ⟨r0.ib,0,none⟩) 1 1]∧Blk B r0.ib 3 #[.int .i64 r0.r])(hn:r0.nm=nameB pX j)(hj:r0.r=j+1)
  (hg:B.grownBy w1 (Value.slice ca cs.length cc).ownBlock)
  (hown:w1.ownsRow (w.heap.size+1) 173 4 (.slice ca' (cs.length+1) cc') (cs.length+1) ((cs.map RC.row).flatten++r0.row)) :
  gV w bn c (ls++[j]) rb rc ca' cc' (cs++[r0]) (w1.setCell ⟨w.heap.size+1+1,1,none⟩ (.slice ca' (cs.length+1) cc')):=by
 have ha:=h.a9.jK h.cr (by decide) hg;have hx:=h.x.jK h.cr (by decide) hg;have hrs:=vI h.rs hg (BN h.rs h.cr (by decide));refine⟨?_,hx.set (by omega) _,?_,sH hrs ha (by decide) _ _,?_,λr hr'=>?_,by simp[h.nm,hn,hj]⟩
 ·exact(h.bel.grown hg h.bel.size (λk q=>by have:=(h.cr.lt k q).1;omega)).setCell (p:=⟨w.heap.size+1+1,1,none⟩) (show w.heap.size≤w.heap.size+1+1 by omega) _
 ·have:=ha.put 1 (.slice ca' (cs.length+1) cc');simpa using this
 ·have:=sH hown ha (by decide) 1 (.slice ca' (cs.length+1) cc');simpa using this
 ·obtain⟨g1,g2⟩:Blk B r.gb 28 #[.slice (some ⟨r.ib,0,none⟩) 1 1]∧Blk B r.ib 3 #[.int .i64 r.r]:=by
   rcases List.mem_append.1 hr' with q|q
   ·exact h.gs r q
   ·rw[List.mem_singleton.1 q];exact hr
  have q1:=g1.jK h.cr (by decide) hg;have q2:=g2.jK h.cr (by decide) hg;exact⟨q1.set (λq=>by rw[q]at ha;have:=q1.symm.trans ha;cases this) _,q2.set (λq=>by rw[q]at ha;have:=q2.symm.trans ha;cases this) _⟩
end
end
section
set_option maxHeartbeats 1000000
set_option maxRecDepth 10000
set_option maxHeartbeats 16000000
set_option maxRecDepth 100000
open Go Go.RowKit Lift
theorem infoOf9:(Tryz.prog.info? 9).map (λi=>(i.zero,i.size,i.bytes))=some (some (.string ⟨#[]⟩),1,16):=by kernel_rfl
theorem Px:(Tryz.prog.info? 173).map (λi=>(i.zero,i.size,i.bytes))=some (some (.agg #[.string ⟨#[]⟩,.int .i64 0,.slice none 0 0,.slice none 0 0]),4,72):=by kernel_rfl
theorem und22:Tryz.prog.underlying 22=some (.slice 9):=by kernel_rfl
theorem und167:Tryz.prog.underlying 167=some (.slice 173):=by kernel_rfl
section
variable {F:Fence} {n:Nat} {w:World} {o:Oper} {a:Act} {K:Act→World→Prop} {Q:Exit→Act→World→Prop}
theorem EM(s x:Operand)(t:TypeId)(ho:o.op=.call { callee:=.builtin .append,args:=#[s,x],argTypes:=#[t,t] })
  (base:Nat) (e:TypeId) (i:TypeInfo) (z:Value) (size bytes:Nat) (ht:Tryz.prog.underlying t=some (.slice e)) (hi:Tryz.prog.info? e=some i) (hz:i.zero=some z)
  (hsize:i.size=size) (hby:i.bytes=bytes) (hzs:z.cells.size=size) (hsz:0<size)
  {v:Value} {k:Nat} {xs:List Value} (hs:a.eval s=v) (hown:w.ownsRow base e size v k xs)
  {g:Nat} {news:List Value} (hx:a.eval x=.slice (some ⟨g,0,none⟩) 1 1) (hl:news.length=1 * size) (hnews:∀j u,news[j]?=some u→w.cell? ⟨g,j,none⟩=some u) (h1:∀u∈news,u.oneCell'=true)
  (h63:k+1≤maxLen) (hbytes:(k+1) * bytes≤140737488355328) (hbase:base≤w.heap.size)
  (hK:∀v' w',w'.ownsRow base e size v' (k+1) (xs++news)→w.grownBy w' v.ownBlock→K (a.put o.dst v') w'):o.wpIn F n Tryz.prog a w K Q:=by
 obtain⟨v',w',hr,h2,h3,_⟩:=run_append_own (P:=Tryz.prog) w base t o.type e i z size bytes ht hi hz hsize hby hzs hsz v k xs hown ⟨g,0,none⟩ 1 1 news hl (λj u hu=>by have:=hnews j u hu;cases j<;>simpa[Addr.add]using this) h1 h63 hbytes hbase;unfold Oper.wpIn;refine⟨by simp[Oper.about,ho,resolve,Target.leads,Sem.run_pure],?_⟩;rw[Oper.semAt_eq _ _ _ (by rw[ho];intro c hc;cases hc)];simp[execOp,ho,resolve,invoke,builtin,hs,hx,hr,Result.andThen,Oper.uponIn];exact hK _ _ h2 h3
end
theorem EP{w:World}{b n sz:Nat}{ty:TypeId}{v:Value}{xs:List Value}(h:w.ownsRow b ty sz v n xs):∃base cap,v=.slice base n cap:=qR h
structure W8h (w:World) (bn:Array Value) (c:Nat) (ls:List Nat) (rb:Option Addr) (rc:Nat) (ca:Option Addr) (cc:Nat) (cs:List RC) (A:World) (D:Nat→Bool) (x:Tmp→Value) (w':World):Prop where
 c75:D 7=true→D 5=true
 c54:D 5=true→D 4=true
 c51:D 5=true→D 1=true
 c43:D 4=true→D 3=true
 pre:D 5=false→Below A.heap.size A w'
 bs:D 5=false→D 4=true→∃g,x 45=.slice (some ⟨g,0,none⟩) 1 1∧w'.cell? ⟨g,0,none⟩=some (.string (nameB vK c))∧g<w'.heap.size
 ap:D 5=true→D 7=false→∃B G5 rc',Below A.heap.size A B∧x 46=.slice G5 (c+1+1) rc'∧B.grownBy w' (Value.slice rb (c+1) rc).ownBlock∧w'.ownsRow (w.heap.size+1) 9 1 (.slice G5 (c+1+1) rc') (c+1+1) ((gu c).map Value.string++[.string (nameB vK c)])
 fin:D 7=true→∃G5 rc',gV w bn (c+1) ls G5 rc' ca cc cs w'
section
variable {w A w' w'':World} {bn:Array Value} {c rc cc i:Nat} {ls:List Nat} {rb ca:Option Addr} {cs:List RC} {D:Nat→Bool} {x:Tmp→Value} {u:Value}
theorem bW{j:Nat}(h:D j=true):aX D i j=true:=by simp[aX,h]
theorem W8h.start(hA:Below A.heap.size A w'):W8h w bn c ls rb rc ca cc cs A (λ_=>false) x w':=
 ⟨λq=>(by cases q),λq=>(by cases q),λq=>(by cases q),λq=>(by cases q),λ_=>hA,λ_ q=>(by cases q),λq=>(by cases q),λq=>(by cases q)⟩
theorem W8h.n5(h:W8h w bn c ls rb rc ca cc cs A D x w')(hi:D 1=false∨D 3=false∨D 4=false):D 5=false:=by
 cases q:D 5
 ·rfl
 ·have q4:=h.c54 q;have q3:=h.c43 q4;have q1:=h.c51 q;rw[q1,q3,q4]at hi;simp at hi
theorem W8h.step(h:W8h w bn c ls rb rc ca cc cs A D x w')(h4:i≠4)(h5:i≠5)(h7:i≠7):W8h w bn c ls rb rc ca cc cs A (aX D i) x w':=by
 have e4:=dS (D:=D) h4;have e5:=dS (D:=D) h5;have e7:=dS (D:=D) h7;refine⟨?_,?_,?_,?_,?_,?_,?_,?_⟩
 ·rw[e7,e5];exact h.c75
 ·rw[e5,e4];exact h.c54
 ·rw[e5];exact λq=>bW (h.c51 q)
 ·rw[e4];exact λq=>bW (h.c43 q)
 ·rw[e5];exact h.pre
 ·rw[e5,e4];exact h.bs
 ·rw[e5,e7];exact h.ap
 ·rw[e7];exact h.fin
theorem W8h.three(h:W8h w bn c ls rb rc ca cc cs A D x w')(d3:D 3=false)(hb:Below w'.heap.size w' w''):W8h w bn c ls rb rc ca cc cs A (aX D 3) x w'':=by
 have d5:=h.n5 (.inr (.inl d3));have d4:D 4=false:=by
  cases q:D 4
  ·rfl
  ·have:=h.c43 q;rw[d3]at this;cases this
 have e4:=(dS (D:=D) (show 3≠4 by decide)).trans d4;have e5:=(dS (D:=D) (show 3≠5 by decide)).trans d5;have e7:=dS (D:=D) (show 3≠7 by decide);have d7:D 7=false:=by
  cases q:D 7
  ·rfl
  ·have:=h.c75 q;rw[d5]at this;cases this
 have hp:=h.pre d5;refine⟨?_,?_,?_,?_,λ_=>hp.trans (hb.mono hp.size),?_,?_,?_⟩
 ·rw[e7,d7];exact λq=>(by cases q)
 ·rw[e5];exact λq=>(by cases q)
 ·rw[e5];exact λq=>(by cases q)
 ·rw[e4];exact λq=>(by cases q)
 ·rw[e4];exact λ_ q=>(by cases q)
 ·rw[e5];exact λq=>(by cases q)
 ·rw[e7,d7];exact λq=>(by cases q)
theorem W8h.four(h:W8h w bn c ls rb rc ca cc cs A D x w')(d4:D 4=false)(d3:D 3=true):W8h w bn c ls rb rc ca cc cs A (aX D 4) (iq x 45 (.slice (some ⟨w'.heap.size,0,none⟩) 1 1)) (w'.alloc (.cells #[.string (nameB vK c)] 9)):=by
 have d5:=h.n5 (.inr (.inr d4));have e5:=(dS (D:=D) (show 4≠5 by decide)).trans d5;have e7:=dS (D:=D) (show 4≠7 by decide);have d7:D 7=false:=by
  cases q:D 7
  ·rfl
  ·have:=h.c75 q;rw[d5]at this;cases this
 have hp:=h.pre d5;refine⟨?_,?_,?_,λ_=>bW d3,λ_=>hp.trans ((Below.refl A.heap.size w').alloc hp.size _),λ_ _=>⟨w'.heap.size,by simp[iq],?_,by simp⟩,?_,?_⟩
 ·rw[e7,d7];exact λq=>(by cases q)
 ·rw[e5];exact λq=>(by cases q)
 ·rw[e5];exact λq=>(by cases q)
 ·have:=(Blk.new w' #[.string (nameB vK c)] 9).cell 0;simpa using this
 ·rw[e5];exact λq=>(by cases q)
 ·rw[e7,d7];exact λq=>(by cases q)
theorem W8h.five(h:W8h w bn c ls rb rc ca cc cs A D x w')(d5:D 5=false)(d4:D 4=true)(d1:D 1=true)(hg:w'.grownBy w'' (Value.slice rb (c+1) rc).ownBlock){G5:Option Addr}{rc':Nat}(hu:u=.slice G5 (c+1+1) rc')
  (ho:w''.ownsRow (w.heap.size+1) 9 1 (.slice G5 (c+1+1) rc') (c+1+1) ((gu c).map Value.string++[.string (nameB vK c)])):W8h w bn c ls rb rc ca cc cs A (aX D 5) (iq x 46 u) w'':=by
 have e7:=dS (D:=D) (show 5≠7 by decide);have d7:D 7=false:=by
  cases q:D 7
  ·rfl
  ·have:=h.c75 q;rw[d5]at this;cases this
 have e5:aX D 5 5=true:=by simp[aX]
 refine⟨?_,λ_=>bW d4,λ_=>bW d1,λ_=>bW (h.c43 d4),?_,?_,λ_ _=>⟨w',G5,rc',h.pre d5,by simp[iq,hu],hg,ho⟩,?_⟩
 ·rw[e7,d7];exact λq=>(by cases q)
 ·rw[e5];exact λq=>(by cases q)
 ·rw[e5];exact λq=>(by cases q)
 ·rw[e7,d7];exact λq=>(by cases q)
theorem W8h.seven(h:W8h w bn c ls rb rc ca cc cs A D x w')(d5:D 5=true)(hf:∃G5 rc',gV w bn (c+1) ls G5 rc' ca cc cs w''):W8h w bn c ls rb rc ca cc cs A (aX D 7) x w'':=by
 have e7:aX D 7 7=true:=by simp[aX]
 have d4:=h.c54 d5;have e5:aX D 7 5=true:=bW d5;refine⟨λ_=>e5,λ_=>bW d4,λ_=>bW (h.c51 d5),λ_=>bW (h.c43 d4),?_,?_,?_,λ_=>hf⟩
 ·rw[e5];exact λq=>(by cases q)
 ·rw[e5];exact λq=>(by cases q)
 ·rw[e7];exact λ_ q=>(by cases q)
end
structure jd (w:World) (bn:Array Value) (c k:Nat) (ls:List Nat) (rb:Option Addr) (rc:Nat) (ca:Option Addr) (cc:Nat) (cs:List RC) (A:World) (D:Nat→Bool) (x:Tmp→Value) (w':World):Prop where
 c12:D 12=true→D 10=true
 c109:D 10=true→D 9=true
 c101:D 10=true→D 1=true
 c98:D 9=true→D 8=true
 c87:D 8=true→D 7=true
 c83:D 8=true→D 3=true
 c76:D 7=true→D 6=true
 pre:D 10=false→Below A.heap.size A w'
 b6:D 10=false→D 6=true→∃i,x 56=.slice (some ⟨i,0,none⟩) 1 1∧Blk w' i 3 #[.int .i64 ((k+1:Nat):Int)]
 b7:D 10=false→D 7=true→∃g i,x 57=.slice (some ⟨g,0,none⟩) 1 1∧Blk w' g 28 #[.slice (some ⟨i,0,none⟩) 1 1]∧Blk w' i 3 #[.int .i64 ((k+1:Nat):Int)]
 b8:D 10=false→D 8=true→∃g i,x 58=.agg #[.string (nameB pX k),.int .i64 0,.slice (some ⟨g,0,none⟩) 1 1,.slice none 0 0]∧Blk w' g 28 #[.slice (some ⟨i,0,none⟩) 1 1]∧Blk w' i 3 #[.int .i64 ((k+1:Nat):Int)]
 b9:D 10=false→D 9=true→∃h g i,x 59=.slice (some ⟨h,0,none⟩) 1 1∧Blk w' h 173 #[.string (nameB pX k),.int .i64 0,.slice (some ⟨g,0,none⟩) 1 1,.slice none 0 0]∧Blk w' g 28 #[.slice (some ⟨i,0,none⟩) 1 1]∧Blk w' i 3 #[.int .i64 ((k+1:Nat):Int)]
 ap:D 10=true→D 12=false→∃B ca' cc' g i,Below A.heap.size A B∧x 60=.slice ca' (cs.length+1) cc'∧B.grownBy w' (Value.slice ca cs.length cc).ownBlock∧(Blk B g 28 #[.slice (some ⟨i,0,none⟩) 1 1]∧Blk B i 3 #[.int .i64 ((k+1:Nat):Int)])∧
  w'.ownsRow (w.heap.size+1) 173 4 (.slice ca' (cs.length+1) cc') (cs.length+1) ((cs.map RC.row).flatten++[.string (nameB pX k),.int .i64 0,.slice (some ⟨g,0,none⟩) 1 1,.slice none 0 0])
 fin:D 12=true→∃ca' cc' cs',gV w bn c (ls++[k]) rb rc ca' cc' cs' w'
section
variable {w A w' w'':World} {bn:Array Value} {c k rc cc i:Nat} {ls:List Nat} {rb ca:Option Addr} {cs:List RC} {D:Nat→Bool} {x:Tmp→Value} {u:Value}
theorem jd.start(hA:Below A.heap.size A w'):jd w bn c k ls rb rc ca cc cs A (λ_=>false) x w':=
 ⟨λq=>(by cases q),λq=>(by cases q),λq=>(by cases q),λq=>(by cases q),λq=>(by cases q),λq=>(by cases q),λq=>(by cases q),λ_=>hA,λ_ q=>(by cases q),λ_ q=>(by cases q),λ_ q=>(by cases q),λ_ q=>(by cases q),λq=>(by cases q),λq=>(by cases q)⟩
theorem y9{b:Bool}(h:b=true→False):b=false:=by cases b;rfl;exact(h rfl).elim
theorem jd.n10(h:jd w bn c k ls rb rc ca cc cs A D x w')(hi:D 1=false∨D 3=false∨D 6=false∨D 7=false∨D 8=false∨D 9=false):D 10=false:=y9 λq=>by
 have q9:=h.c109 q;have q1:=h.c101 q;have q8:=h.c98 q9;have q7:=h.c87 q8;have q3:=h.c83 q8;have q6:=h.c76 q7;rw[q1,q3,q6,q7,q8,q9]at hi;simp at hi
theorem jd.n12(h:jd w bn c k ls rb rc ca cc cs A D x w')(h10:D 10=false):D 12=false:=y9 λq=>by rw[h.c12 q]at h10;cases h10
theorem jd.step(h:jd w bn c k ls rb rc ca cc cs A D x w')(hi:i≠6∧i≠7∧i≠8∧i≠9∧i≠10∧i≠12):jd w bn c k ls rb rc ca cc cs A (aX D i) x w':=by
 obtain⟨h6,h7,h8,h9,h10,h12⟩:=hi;have e6:=dS (D:=D) h6;have e7:=dS (D:=D) h7;have e8:=dS (D:=D) h8;have e9:=dS (D:=D) h9;have e10:=dS (D:=D) h10;have e12:=dS (D:=D) h12;refine⟨?_,?_,?_,?_,?_,?_,?_,?_,?_,?_,?_,?_,?_,?_⟩
 ·rw[e12,e10];exact h.c12
 ·rw[e10,e9];exact h.c109
 ·rw[e10];exact λq=>bW (h.c101 q)
 ·rw[e9,e8];exact h.c98
 ·rw[e8,e7];exact h.c87
 ·rw[e8];exact λq=>bW (h.c83 q)
 ·rw[e7,e6];exact h.c76
 ·rw[e10];exact h.pre
 ·rw[e10,e6];exact h.b6
 ·rw[e10,e7];exact h.b7
 ·rw[e10,e8];exact h.b8
 ·rw[e10,e9];exact h.b9
 ·rw[e10,e12];exact h.ap
 ·rw[e12];exact h.fin
theorem jd.grow(h:jd w bn c k ls rb rc ca cc cs A D x w')(d10:D 10=false)(hb:Below w'.heap.size w' w''):jd w bn c k ls rb rc ca cc cs A D x w'':=by
 have d12:=h.n12 d10;have hp:=h.pre d10;refine⟨h.c12,h.c109,h.c101,h.c98,h.c87,h.c83,h.c76,λ_=>hp.trans (hb.mono hp.size),λq1 q2=>?_,λq1 q2=>?_,λq1 q2=>?_,λq1 q2=>?_,λq=>?_,λq=>?_⟩
 ·obtain⟨i,a,b⟩:=h.b6 q1 q2;exact⟨i,a,b.below hb⟩
 ·obtain⟨g,i,a,b,c⟩:=h.b7 q1 q2;exact⟨g,i,a,b.below hb,c.below hb⟩
 ·obtain⟨g,i,a,b,c⟩:=h.b8 q1 q2;exact⟨g,i,a,b.below hb,c.below hb⟩
 ·obtain⟨h',g,i,a,b,c,d⟩:=h.b9 q1 q2;exact⟨h',g,i,a,b.below hb,c.below hb,d.below hb⟩
 ·rw[d10]at q;cases q
 ·rw[d12]at q;cases q
theorem jd.six(h:jd w bn c k ls rb rc ca cc cs A D x w')(d6:D 6=false):jd w bn c k ls rb rc ca cc cs A (aX D 6) (iq x 56 (.slice (some ⟨w'.heap.size,0,none⟩) 1 1)) (w'.alloc (.cells #[.int .i64 ((k+1:Nat):Int)] 3)):=by
 have d7:D 7=false:=y9 λq=>by have:=h.c76 q;rw[d6]at this;cases this
 have d8:D 8=false:=y9 λq=>by have:=h.c87 q;rw[d7]at this;cases this
 have d9:D 9=false:=y9 λq=>by have:=h.c98 q;rw[d8]at this;cases this
 have d10:D 10=false:=y9 λq=>by have:=h.c109 q;rw[d9]at this;cases this
 have d12:=h.n12 d10;have e7:=(dS (D:=D) (show 6≠7 by decide)).trans d7;have e8:=(dS (D:=D) (show 6≠8 by decide)).trans d8;have e9:=(dS (D:=D) (show 6≠9 by decide)).trans d9;have e10:=(dS (D:=D) (show 6≠10 by decide)).trans d10;have e12:=(dS (D:=D) (show 6≠12 by decide)).trans d12;have hp:=h.pre d10;exact⟨λq=>(by rw[e12]at q;cases q),λq=>(by rw[e10]at q;cases q),λq=>(by rw[e10]at q;cases q),λq=>(by rw[e9]at q;cases q),λq=>(by rw[e8]at q;cases q),λq=>(by rw[e8]at q;cases q),λq=>(by rw[e7]at q;cases q),λ_=>hp.trans ((Below.refl A.heap.size w').alloc hp.size _),λ_ _=>⟨w'.heap.size,by simp[iq],Blk.new _ _ _⟩,λ_ q=>(by rw[e7]at q;cases q),λ_ q=>(by rw[e8]at q;cases q),λ_ q=>(by rw[e9]at q;cases q),λq=>(by rw[e10]at q;cases q),λq=>(by rw[e12]at q;cases q)⟩
theorem jd.seven(h:jd w bn c k ls rb rc ca cc cs A D x w')(d7:D 7=false)(d6:D 6=true){j:Nat}(hj:Blk w' j 3 #[.int .i64 ((k+1:Nat):Int)]):jd w bn c k ls rb rc ca cc cs A (aX D 7) (iq x 57 (.slice (some ⟨w'.heap.size,0,none⟩) 1 1)) (w'.alloc (.cells #[.slice (some ⟨j,0,none⟩) 1 1] 28)):=by
 have d8:D 8=false:=y9 λq=>by have:=h.c87 q;rw[d7]at this;cases this
 have d9:D 9=false:=y9 λq=>by have:=h.c98 q;rw[d8]at this;cases this
 have d10:D 10=false:=y9 λq=>by have:=h.c109 q;rw[d9]at this;cases this
 have d12:=h.n12 d10;have e8:=(dS (D:=D) (show 7≠8 by decide)).trans d8;have e9:=(dS (D:=D) (show 7≠9 by decide)).trans d9;have e10:=(dS (D:=D) (show 7≠10 by decide)).trans d10;have e12:=(dS (D:=D) (show 7≠12 by decide)).trans d12;have hp:=h.pre d10;have hb:Below w'.heap.size w' (w'.alloc (.cells #[.slice (some ⟨j,0,none⟩) 1 1] 28)):=(Below.refl _ w').alloc (ak _) _;obtain⟨i6,a6,b6⟩:=h.b6 d10 d6;exact⟨λq=>(by rw[e12]at q;cases q),λq=>(by rw[e10]at q;cases q),λq=>(by rw[e10]at q;cases q),λq=>(by rw[e9]at q;cases q),λq=>(by rw[e8]at q;cases q),λq=>(by rw[e8]at q;cases q),λ_=>bW d6,λ_=>hp.trans (hb.mono hp.size),λ_ _=>⟨i6,by simpa[iq]using a6,b6.below hb⟩,λ_ _=>⟨w'.heap.size,j,by simp[iq],Blk.new _ _ _,hj.below hb⟩,λ_ q=>(by rw[e8]at q;cases q),λ_ q=>(by rw[e9]at q;cases q),λq=>(by rw[e10]at q;cases q),λq=>(by rw[e12]at q;cases q)⟩
theorem jd.eight(h:jd w bn c k ls rb rc ca cc cs A D x w')(d8:D 8=false)(d7:D 7=true)(d3:D 3=true){g j:Nat}(hg:Blk w' g 28 #[.slice (some ⟨j,0,none⟩) 1 1])(hj:Blk w' j 3 #[.int .i64 ((k+1:Nat):Int)]):jd w bn c k ls rb rc ca cc cs A (aX D 8) (iq x 58 (.agg #[.string (nameB pX k),.int .i64 0,.slice (some ⟨g,0,none⟩) 1 1,.slice none 0 0])) w':=by
 have d9:D 9=false:=y9 λq=>by have:=h.c98 q;rw[d8]at this;cases this
 have d10:D 10=false:=y9 λq=>by have:=h.c109 q;rw[d9]at this;cases this
 have d12:=h.n12 d10;have e9:=(dS (D:=D) (show 8≠9 by decide)).trans d9;have e10:=(dS (D:=D) (show 8≠10 by decide)).trans d10;have e12:=(dS (D:=D) (show 8≠12 by decide)).trans d12;have hp:=h.pre d10;obtain⟨i6,a6,b6⟩:=h.b6 d10 (h.c76 d7);obtain⟨g7,i7,a7,b7,c7⟩:=h.b7 d10 d7;exact⟨λq=>(by rw[e12]at q;cases q),λq=>(by rw[e10]at q;cases q),λq=>(by rw[e10]at q;cases q),λq=>(by rw[e9]at q;cases q),λ_=>bW d7,λ_=>bW d3,λ_=>bW (h.c76 d7),λ_=>hp,λ_ _=>⟨i6,by simpa[iq]using a6,b6⟩,λ_ _=>⟨g7,i7,by simpa[iq]using a7,b7,c7⟩,λ_ _=>⟨g,j,by simp[iq],hg,hj⟩,λ_ q=>(by rw[e9]at q;cases q),λq=>(by rw[e10]at q;cases q),λq=>(by rw[e12]at q;cases q)⟩
theorem jd.nine(h:jd w bn c k ls rb rc ca cc cs A D x w')(d9:D 9=false)(d8:D 8=true){g j:Nat}(hg:Blk w' g 28 #[.slice (some ⟨j,0,none⟩) 1 1])(hj:Blk w' j 3 #[.int .i64 ((k+1:Nat):Int)]):jd w bn c k ls rb rc ca cc cs A (aX D 9) (iq x 59 (.slice (some ⟨w'.heap.size,0,none⟩) 1 1)) (w'.alloc (.cells #[.string (nameB pX k),.int .i64 0,.slice (some ⟨g,0,none⟩) 1 1,.slice none 0 0] 173)):=by
 have d10:D 10=false:=y9 λq=>by have:=h.c109 q;rw[d9]at this;cases this
 have d12:=h.n12 d10;have e10:=(dS (D:=D) (show 9≠10 by decide)).trans d10;have e12:=(dS (D:=D) (show 9≠12 by decide)).trans d12;have hp:=h.pre d10;have hb:Below w'.heap.size w' (w'.alloc (.cells #[.string (nameB pX k),.int .i64 0,.slice (some ⟨g,0,none⟩) 1 1,.slice none 0 0] 173)):=(Below.refl _ w').alloc (ak _) _;have d7:=h.c87 d8;obtain⟨i6,a6,b6⟩:=h.b6 d10 (h.c76 d7);obtain⟨g7,i7,a7,b7,c7⟩:=h.b7 d10 d7;obtain⟨g8,i8,a8,b8,c8⟩:=h.b8 d10 d8;exact⟨λq=>(by rw[e12]at q;cases q),λq=>(by rw[e10]at q;cases q),λq=>(by rw[e10]at q;cases q),λ_=>bW d8,λ_=>bW d7,λ_=>bW (h.c83 d8),λ_=>bW (h.c76 d7),λ_=>hp.trans (hb.mono hp.size),λ_ _=>⟨i6,by simpa[iq]using a6,b6.below hb⟩,λ_ _=>⟨g7,i7,by simpa[iq]using a7,b7.below hb,c7.below hb⟩,λ_ _=>⟨g8,i8,by simpa[iq]using a8,b8.below hb,c8.below hb⟩,λ_ _=>⟨w'.heap.size,g,j,by simp[iq],Blk.new _ _ _,hg.below hb,hj.below hb⟩,λq=>(by rw[e10]at q;cases q),λq=>(by rw[e12]at q;cases q)⟩
theorem jd.ten(h:jd w bn c k ls rb rc ca cc cs A D x w')(d10:D 10=false)(d9:D 9=true)(d1:D 1=true){g j:Nat}(hg:Blk w' g 28 #[.slice (some ⟨j,0,none⟩) 1 1])(hj:Blk w' j 3 #[.int .i64 ((k+1:Nat):Int)])(hgr:w'.grownBy w'' (Value.slice ca cs.length cc).ownBlock){ca':Option Addr}{cc':Nat}(hu:u=.slice ca' (cs.length+1) cc')
  (ho:w''.ownsRow (w.heap.size+1) 173 4 (.slice ca' (cs.length+1) cc') (cs.length+1) ((cs.map RC.row).flatten++[.string (nameB pX k),.int .i64 0,.slice (some ⟨g,0,none⟩) 1 1,.slice none 0 0])):jd w bn c k ls rb rc ca cc cs A (aX D 10) (iq x 60 u) w'':=by
 have d12:=h.n12 d10;have e12:=(dS (D:=D) (show 10≠12 by decide)).trans d12;have e10:aX D 10 10=true:=by simp[aX]
 have d8:=h.c98 d9;have d7:=h.c87 d8;exact⟨λq=>(by rw[e12]at q;cases q),λ_=>bW d9,λ_=>bW d1,λ_=>bW d8,λ_=>bW d7,λ_=>bW (h.c83 d8),λ_=>bW (h.c76 d7),λq=>(by rw[e10]at q;cases q),λq=>(by rw[e10]at q;cases q),λq=>(by rw[e10]at q;cases q),λq=>(by rw[e10]at q;cases q),λq=>(by rw[e10]at q;cases q),λ_ _=>⟨w',ca',cc',g,j,h.pre d10,by simp[iq,hu],hgr,⟨hg,hj⟩,ho⟩,λq=>(by rw[e12]at q;cases q)⟩
theorem jd.twelve(h:jd w bn c k ls rb rc ca cc cs A D x w')(d10:D 10=true)(hf:∃ca' cc' cs',gV w bn c (ls++[k]) rb rc ca' cc' cs' w''):jd w bn c k ls rb rc ca cc cs A (aX D 12) x w'':=by
 have e12:aX D 12 12=true:=by simp[aX]
 have e10:aX D 12 10=true:=bW d10;have d9:=h.c109 d10;have d8:=h.c98 d9;have d7:=h.c87 d8;exact⟨λ_=>e10,λ_=>bW d9,λ_=>bW (h.c101 d10),λ_=>bW d8,λ_=>bW d7,λ_=>bW (h.c83 d8),λ_=>bW (h.c76 d7),λq=>(by rw[e10]at q;cases q),λq=>(by rw[e10]at q;cases q),λq=>(by rw[e10]at q;cases q),λq=>(by rw[e10]at q;cases q),λq=>(by rw[e10]at q;cases q),λ_ q=>(by rw[e12]at q;cases q),λ_=>hf⟩
end
end
section
set_option maxHeartbeats 1000000
set_option maxRecDepth 10000
set_option maxHeartbeats 64000000
set_option maxRecDepth 100000
open Go Go.RowKit Lift
theorem LG(b:Book)(n:Int)(c:Nat):b.iW n (c+1)=if((b.after n).cases c).state=1 then b.iW n c++[c]else b.iW n c:=by
 unfold Book.iW;rw[List.range_succ,List.filter_append];by_cases h:((b.after n).cases c).state=1<;>simp[h]
theorem Et{w W:World}{bn:Array Value}{c rc cc:Nat}{ls:List Nat}{rb ca:Option Addr}{cs:List RC}{b:Book}{n:Int}(h:gV w bn c ls rb rc ca cc cs W)(hl:ls=b.iW n c):cs.length≤c:=by
 have:=congrArg List.length h.nm;simp only[List.length_map]at this;rw[this,hl];exact Nat.le_trans (List.length_filter_le ..) (by simp)
theorem I4{w W:World}{bn:Array Value}{c rc cc:Nat}{ls:List Nat}{rb ca:Option Addr}{cs:List RC}{b:Book}{n:Int}(h:gV w bn c ls rb rc ca cc cs W)(hls:ls=b.iW n c)(hc:c≤5)(hC:eP W) :
  cs.length=ls.length∧CallsIn Fz 0 Tryz.prog 68 #[.agg #[.slice rb (c+1) rc,.slice ca cs.length cc]] W λr w'=>(∃(R cp:Nat) (vc:Value),r=.returned (.tuple #[.slice (some ⟨R,0,none⟩) (c+1) cp,vc,.int .i64 0])∧R<w'.heap.size∧w'.cell? ⟨R,0,none⟩=some (.int .i64 (sayOf ls.length)))∧Below W.heap.size W w':=by
 have hlen:cs.length=ls.length:=by
  have:=congrArg List.length h.nm;simpa using this
 obtain⟨g,rfl,hg⟩:∃g,rb=some ⟨g,0,none⟩∧g<W.heap.size:=by
  rcases h.rs.2 with⟨e,_⟩|⟨g,cap,cur,e,_⟩
  ·injection e with e1 e2 e3;omega
  ·injection e with e1 e2 e3
   subst e1;exact⟨g,rfl,(h.rs.lt g rfl).2⟩
 have hrl:(gu c).length=c+1:=by simp[gu]
 have hlt:∀j∈ls,j<c:=λj hj=>by
  rw[hls]at hj;exact List.mem_range.1 (List.mem_filter.1 hj).1
 have hnd:ls.Nodup:=by rw[hls];exact List.nodup_range.filter _
 have hmem:∀r∈cs,∃j,j<c∧r.nm=nameB pX j∧r.r=j+1:=λr hr=>by
  have:(r.nm,r.r)∈cs.map (λr=>(r.nm,r.r)):=List.mem_map.2 ⟨r,hr,rfl⟩;rw[h.nm]at this;obtain⟨j,hj,e⟩:=List.mem_map.1 this;exact⟨j,hlt j hj,(congrArg Prod.fst e).symm,(congrArg Prod.snd e).symm⟩
 have hnm:cs.map (·.nm)=ls.map (nameB pX):=by
  have:=congrArg (List.map Prod.fst) h.nm;simpa[List.map_map,Function.comp_def]using this
 have hO:RV.Ok ⟨g,rc,gu c,ca,cc,cs⟩:=by
  refine⟨by simp only[hrl];omega,by simp only[hrl];omega,Qq hc,G8 hc,?_,λr hr=>?_,?_,λr hr=>?_⟩
  ·have:=Et h hls;simp only;omega
  ·obtain⟨j,h1,h2,_⟩:=hmem r hr;rw[h2];exact opp_fin ⟨j,by omega⟩
  ·show(cs.map (·.nm)).Nodup
   rw[hnm];exact nodup_range hnd λi hi j hj e=>by
    have:=opp_inj ⟨i,by have:=hlt i hi;omega⟩ ⟨j,by have:=hlt j hj;omega⟩ e;simpa using this
  ·obtain⟨j,h1,_,h3⟩:=hmem r hr;simp only[hrl];omega
 have hAt:nP W.heap.size ⟨g,rc,gu c,ca,cc,cs⟩ W:=by
  refine⟨ak _,hg,λj hj=>?_,?_,λr hr=>?_⟩
  ·simp only at hj;have:=h.rs.cellAt j (by omega);simp only;rw[this,List.getElem?_map,List.getElem?_eq_getElem hj];simp[RV.rAt,List.getD_eq_getElem?_getD,List.getElem?_eq_getElem hj]
  ·obtain⟨base,cap,e,hrows⟩:=Qg (size:=4) (λr hr=>by obtain⟨y,_,rfl⟩:=List.mem_map.1 hr;rfl) h.cr (by simp);injection e with e1 e2 e3
   subst e1;exact hrows
  ·obtain⟨g1,g2⟩:=h.gs r hr;have q1:=g1.cell 0;have q2:=g2.cell 0;exact⟨g1.lt,g2.lt,by simpa using q1,by simpa using q2⟩
 have hf:=QT hO hAt hC;simp only[RV.arr,hrl]at hf;rw[hlen]at hf;rw[hlen];exact⟨rfl,hf⟩
theorem I5(w:World)(bn:Array Value):gV w bn 0 [] (some ⟨w.heap.size+1,0,none⟩) 1 none 0 [] (((w.alloc (.cells bn 27)).alloc (.cells #[.string lU] 9)).alloc (.cells #[.slice (some ⟨w.heap.size+1,0,none⟩) 1 1,.slice none 0 0] 169)):=by
 have tail:∀(V:World) (o:Obj),Below V.heap.size V (V.alloc o):=λV o=>(Below.refl _ V).alloc (ak _) o;have hb:Below w.heap.size w (((w.alloc (.cells bn 27)).alloc (.cells #[.string lU] 9)).alloc (.cells #[.slice (some ⟨w.heap.size+1,0,none⟩) 1 1,.slice none 0 0] 169)):=(((Below.refl _ w).alloc (ak _) _).alloc (by simp) _).alloc (by simp;omega) _;have hX:=((Blk.new w bn 27).below (tail _ (.cells #[.string lU] 9))).below (tail _ (.cells #[.slice (some ⟨w.heap.size+1,0,none⟩) 1 1,.slice none 0 0] 169));have hA:=Blk.new ((w.alloc (.cells bn 27)).alloc (.cells #[.string lU] 9)) #[.slice (some ⟨w.heap.size+1,0,none⟩) 1 1,.slice none 0 0] 169;simp only[World.size_alloc]at hA;have hR:((w.alloc (.cells bn 27)).alloc (.cells #[.string lU] 9)).ownsRow (w.heap.size+1) 9 1 (.slice (some ⟨(w.alloc (.cells bn 27)).heap.size,0,none⟩) 1 1) 1 #[.string lU].toList:=World.ownsRow_lit (w.alloc (.cells bn 27)) #[.string lU] 1 (by simp) (by decide) rfl;simp only[World.size_alloc]at hR;exact⟨hb,hX,hA,by simpa[gu]using dP hR (tail _ (.cells #[.slice (some ⟨w.heap.size+1,0,none⟩) 1 1,.slice none 0 0] 169)),World.ownsRow_nil _ _ _ _,λr hr=>(by cases hr),rfl⟩
theorem Au{N:Nat}{l:Lay}{b:aO}{w:World}(hbk:bQ N l b w)(hR:b.Right)(hkd:bK w)(hC:eP w){day:Nat}(hd:day≤9999) :
  CallsIn Fz 0 Tryz.prog 26 #[.agg (l.bn b),.int .i64 day,.int .i64 5] w λr w'=>r=.returned (.tuple #[.int .i64 (sayOf (b.to.iW day (min 5 b.cs.length)).length),.int .i64 ((b.to.iW day (min 5 b.cs.length)).length:Nat),.bool true])∧Below w.heap.size w w':=by
 have hN:=hbk.hN;have hw0:=hkd.lt;have hnk:=hR.nk;have h0:=I5 w (l.bn b);simp only[lU]at h0;obtain⟨i9,hi9,hz9,hs9,Hz⟩:=info_parts infoOf9;obtain⟨i173,hi173,hz173,hs173,hb173⟩:=info_parts Px;have hst:=λc (hc:c<b.cs.length) w' (hb:Below w.heap.size w w')=>zS ((hbk.below (hb.mono hN)).to hR) hR.full (hkd.below hb hw0) (c:=c) (by simpa[aO.to]using hc) (day:=(day:Int)) (by omega) (by omega);have HST:=Lib.hid hst;clear hst;gi_enter Tryz.func26,Tryz.ntmps26
 gi_wp2;gi_loopw [10] (λv wr=>∃(c:Nat) (rb:Option Addr) (rc:Nat) (ca:Option Addr) (cc:Nat) (cs:List RC),c≤min 5 b.cs.length∧v=.int .i64 c∧gV w (l.bn b) c (b.to.iW day c) rb rc ca cc cs wr) (λv _=>min 5 b.cs.length-(intOf v).toNat)
 case atStart=>exact⟨0,_,_,_,_,_,Nat.zero_le _,rfl,h0⟩
 case round=>
  clear h0;obtain⟨c,rb,rc,ca,cc,cs,hc,rfl,h8⟩:=hrel;have hcl:=Et h8 rfl;have g0:=h8.x.cell 0;have g1:=h8.x.cell 1;have g2:=h8.x.cell 2;have g3:=h8.x.cell 3;simp at g0 g1 g2 g3;have lX:=h8.x.lt;by_cases hl:c<min 5 b.cs.length
  ·have hlc:c<b.cs.length:=by omega
   have hlc':(c:Int)<b.cs.length:=by omega
   have hl5':(c:Int)<5:=by omega
   have hs:=HST.out c hlc wr h8.bel;rw[aO.to_val]at hs;have hks:=LG b.to day c;generalize ((b.to.after day).cases c).state=st at hs hks;generalize ((b.to.after day).cases c).held=hh at hs;have HKS:=Lib.hid hks;clear hks
   gi_wp2_with (gi_at_call 32;refine hs.mono ?_;rintro e w2 ⟨rfl,hb2⟩)
   replace h8:=h8.below hb2;clear hb2 g0 g1 g2 g3 lX hs;obtain⟨A,hA⟩:∃A,A=w2:=⟨_,rfl⟩
   subst hA;refine dB rfl mixed (by kernel_rfl) (W8h w (l.bn b) c (b.to.iW day c) rb rc ca cc cs A) [45,46] (x₀:=(λt=>if t=45 then u45 else u46)) (λg hg=>by simp only[List.mem_cons,List.not_mem_nil,or_false]at hg;rcases hg with rfl|rfl<;>rfl) (W8h.start ⟨rfl,rfl,rfl,ak _,λ_ _=>rfl⟩) ?_;simp only[aG,aC,aF,Nat.reduceAdd,Nat.zero_add,List.range,List.range.loop];refine bT (u0:=(λt=>if t=45 then u45 else u46)) rfl (λ_=>rfl) (λg hg=>by simp only[List.mem_cons,List.not_mem_nil,or_false]at hg;rcases hg with rfl|rfl<;>decide) (λg hg=>by simp only[List.mem_cons,List.not_mem_nil,or_false]at hg;rcases hg with rfl|rfl<;>rfl) ?_;apply ah;refine⟨λD x w' hm hW K Q hK=>?_,?_⟩
   ·simp only[Lift.Act.bF,Act.put,List.foldl_cons,List.foldl_nil,aj,ay,au];gi_wp2;exact hW.step (by decide) (by decide) (by decide)
   apply ah;refine⟨λx=>?_,?_⟩
   ·simp only[Lift.Act.bF,Act.put,List.foldl_cons,List.foldl_nil,aj,ay,au];rfl
   refine bT (u0:=(λt=>if t=45 then u45 else u46)) rfl (λ_=>rfl) (λg hg=>by simp only[List.mem_cons,List.not_mem_nil,or_false]at hg;rcases hg with rfl|rfl<;>decide) (λg hg=>by simp only[List.mem_cons,List.not_mem_nil,or_false]at hg;rcases hg with rfl|rfl<;>rfl) ?_;apply ah;refine⟨λD x w' hm hW K Q hK=>?_,?_⟩
   ·have q0:=(h8.a9.below (hW.pre (hW.n5 (.inl hm.1)))).cell 0;have q1:=(h8.a9.below (hW.pre (hW.n5 (.inl hm.1)))).cell 1;simp at q0 q1;have lq:=(h8.a9.below (hW.pre (hW.n5 (.inl hm.1)))).lt;simp only[Lift.Act.bF,Act.put,List.foldl_cons,List.foldl_nil,aj,ay,au];gi_wp2;exact hW.step (by decide) (by decide) (by decide)
   apply ah;refine⟨λx=>?_,?_⟩
   ·simp only[Lift.Act.bF,Act.put,List.foldl_cons,List.foldl_nil,aj,ay,au];rfl
   refine bT (u0:=(λt=>if t=45 then u45 else u46)) rfl (λ_=>rfl) (λg hg=>by simp only[List.mem_cons,List.not_mem_nil,or_false]at hg;rcases hg with rfl|rfl<;>decide) (λg hg=>by simp only[List.mem_cons,List.not_mem_nil,or_false]at hg;rcases hg with rfl|rfl<;>rfl) ?_;apply ah;refine⟨λD x w' hm hW K Q hK=>?_,?_⟩
   ·simp only[Lift.Act.bF,Act.put,List.foldl_cons,List.foldl_nil,aj,ay,au];gi_wp2;exact hW.step (by decide) (by decide) (by decide)
   apply ah;refine⟨λx=>?_,?_⟩
   ·simp only[Lift.Act.bF,Act.put,List.foldl_cons,List.foldl_nil,aj,ay,au];rfl
   refine bT (u0:=(λt=>if t=45 then u45 else u46)) rfl (λ_=>rfl) (λg hg=>by simp only[List.mem_cons,List.not_mem_nil,or_false]at hg;rcases hg with rfl|rfl<;>decide) (λg hg=>by simp only[List.mem_cons,List.not_mem_nil,or_false]at hg;rcases hg with rfl|rfl<;>rfl) ?_;apply ah;refine⟨λD x w' hm hW K Q hK=>?_,?_⟩
   ·have hc:=N9 (k:=c) (by omega) (s:=vK) (by decide) w';simp only[vK]at hc;simp only[Lift.Act.bF,Act.put,List.foldl_cons,List.foldl_nil,aj,ay,au]
    gi_wp2_with (gi_at_call 67;refine hc.mono ?_;rintro r w3 ⟨rfl,hb⟩)
    exact hW.three hm.1 hb
   apply ah;refine⟨λx=>?_,?_⟩
   ·simp only[Lift.Act.bF,Act.put,List.foldl_cons,List.foldl_nil,aj,ay,au];rfl
   refine iK (u0:=u45) 45 (by simp) rfl (λ_=>rfl) rfl rfl (λD x w' hm hW K Q hK=>?_) ?_
   ·simp only[Lift.Act.bF,Act.put,List.foldl_cons,List.foldl_nil,aj,ay,au]at hK ⊢;gi_wp2;exact hW.four hm.1 (hm.2.1 3 (by kernel_rfl))
   refine iK (u0:=u46) 46 (by simp) rfl (λ_=>rfl) rfl rfl (λD x w' hm hW K Q hK=>?_) ?_
   ·have d4:=hm.2.1 4 (by kernel_rfl);obtain⟨g,hx,hc,hg⟩:=hW.bs hm.1 d4;have hp:=hW.pre hm.1;simp only[Lift.Act.bF,Act.put,List.foldl_cons,List.foldl_nil,aj,ay,au]at hK ⊢;refine EM _ _ 22 rfl (w.heap.size+1) 9 i9 _ 1 16 und22 hi9 hz9 hs9 Hz rfl (by decide) rfl (dP h8.rs hp) (by exact hx) (news:=[.string (nameB vK c)]) rfl (λj u hu=>?_) (by simp[Value.oneCell']) (by unfold maxLen;omega) (by omega) (by have:=h8.bel.size;have:=h8.rs.lt;have:=(h8.a9.below hp).lt;omega) λv' w3 ho hgr=>?_
    ·cases j with
     |zero=>simp at hu;subst hu;exact hc
     |succ j=>simp at hu
    obtain⟨G5,rc',hv⟩:=EP ho;subst hv;exact hK _ _ (hW.five hm.1 d4 (hm.2.1 1 (by kernel_rfl)) hgr rfl ho)
   refine bT (u0:=(λt=>if t=45 then u45 else u46)) rfl (λ_=>rfl) (λg hg=>by simp only[List.mem_cons,List.not_mem_nil,or_false]at hg;rcases hg with rfl|rfl<;>decide) (λg hg=>by simp only[List.mem_cons,List.not_mem_nil,or_false]at hg;rcases hg with rfl|rfl<;>rfl) ?_;apply ah;refine⟨λD x w' hm hW K Q hK=>?_,?_⟩
   ·simp only[Lift.Act.bF,Act.put,List.foldl_cons,List.foldl_nil,aj,ay,au];gi_wp2;exact hW.step (by decide) (by decide) (by decide)
   apply ah;refine⟨λx=>?_,?_⟩
   ·simp only[Lift.Act.bF,Act.put,List.foldl_cons,List.foldl_nil,aj,ay,au];rfl
   refine nY rfl (λ_=>rfl) rfl (λD x w' hm hW K Q hK=>?_) ?_
   ·have d5:=hm.2.1 5 (by kernel_rfl);obtain⟨B,G5,rc',hB,hx,hgr,ho⟩:=hW.ap d5 hm.1;have hf:=(h8.below hB).right hgr ho;have a9:=(h8.below hB).a9.jK (h8.below hB).rs (by decide) hgr;have q0:=a9.cell 0;have q1:=a9.frozen 0;have lq:=a9.lt;simp at q0;have hS:=λw'' (h:gV w (l.bn b) (c+1) (b.to.iW day c) G5 rc' ca cc cs w'')=>hW.seven (w'':=w'') d5 ⟨G5,rc',h⟩;simp only[Lift.Act.bF,Act.put,List.foldl_cons,List.foldl_nil,aj,ay,au]at hK ⊢;rw[hx]at hK ⊢;clear hx;gi_wp2;exact hS _ hf
   rintro x w5 hW;obtain⟨rb8,rc8,h8'⟩:=hW.fin rfl;clear hW;simp only[Lift.Act.bF,Act.put,List.foldl_cons,List.foldl_nil,aj,ay,au];generalize x 45=y45;generalize x 46=y46;clear x h8;replace h8':=h8';by_cases hst1:st=1
   ·subst hst1;gi_wp2;obtain⟨A,hA⟩:∃A,A=w5:=⟨_,rfl⟩
    subst hA;have h10:=h8';clear h8';generalize rb8=rb at *;generalize rc8=rc at *;refine dB rfl mixed (by kernel_rfl) (jd w (l.bn b) (c+1) c (b.to.iW day c) rb rc ca cc cs A) [56,57,58,59,60] (x₀:=(λt=>if t=56 then u56 else if t=57 then u57 else if t=58 then u58 else if t=59 then u59 else u60)) (λg hg=>by simp only[List.mem_cons,List.not_mem_nil,or_false]at hg;rcases hg with rfl|rfl|rfl|rfl|rfl<;>rfl) (jd.start ⟨rfl,rfl,rfl,ak _,λ_ _=>rfl⟩) ?_;simp only[aG,aC,aF,Nat.reduceAdd,Nat.zero_add,List.range,List.range.loop];refine bT (u0:=(λt=>if t=56 then u56 else if t=57 then u57 else if t=58 then u58 else if t=59 then u59 else u60)) rfl (λ_=>rfl) (λg hg=>by simp only[List.mem_cons,List.not_mem_nil,or_false]at hg;rcases hg with rfl|rfl|rfl|rfl|rfl<;>decide) (λg hg=>by simp only[List.mem_cons,List.not_mem_nil,or_false]at hg;rcases hg with rfl|rfl|rfl|rfl|rfl<;>rfl) ?_;apply ah;refine⟨λD x w' hm hW K Q hK=>?_,?_⟩
    ·simp only[Lift.Act.bF,Act.put,List.foldl_cons,List.foldl_nil,aj,ay,au];gi_wp2;exact hW.step (by decide)
    apply ah;refine⟨λx=>?_,?_⟩
    ·simp only[Lift.Act.bF,Act.put,List.foldl_cons,List.foldl_nil,aj,ay,au];rfl
    refine bT (u0:=(λt=>if t=56 then u56 else if t=57 then u57 else if t=58 then u58 else if t=59 then u59 else u60)) rfl (λ_=>rfl) (λg hg=>by simp only[List.mem_cons,List.not_mem_nil,or_false]at hg;rcases hg with rfl|rfl|rfl|rfl|rfl<;>decide) (λg hg=>by simp only[List.mem_cons,List.not_mem_nil,or_false]at hg;rcases hg with rfl|rfl|rfl|rfl|rfl<;>rfl) ?_;apply ah;refine⟨λD x w' hm hW K Q hK=>?_,?_⟩
    ·have q0:=(h10.a9.below (hW.pre (hW.n10 (.inl hm.1)))).cell 0;have q1:=(h10.a9.below (hW.pre (hW.n10 (.inl hm.1)))).cell 1;simp at q0 q1;have lq:=(h10.a9.below (hW.pre (hW.n10 (.inl hm.1)))).lt;simp only[Lift.Act.bF,Act.put,List.foldl_cons,List.foldl_nil,aj,ay,au];gi_wp2;exact hW.step (by decide)
    apply ah;refine⟨λx=>?_,?_⟩
    ·simp only[Lift.Act.bF,Act.put,List.foldl_cons,List.foldl_nil,aj,ay,au];rfl
    refine bT (u0:=(λt=>if t=56 then u56 else if t=57 then u57 else if t=58 then u58 else if t=59 then u59 else u60)) rfl (λ_=>rfl) (λg hg=>by simp only[List.mem_cons,List.not_mem_nil,or_false]at hg;rcases hg with rfl|rfl|rfl|rfl|rfl<;>decide) (λg hg=>by simp only[List.mem_cons,List.not_mem_nil,or_false]at hg;rcases hg with rfl|rfl|rfl|rfl|rfl<;>rfl) ?_;apply ah;refine⟨λD x w' hm hW K Q hK=>?_,?_⟩
    ·simp only[Lift.Act.bF,Act.put,List.foldl_cons,List.foldl_nil,aj,ay,au];gi_wp2;exact hW.step (by decide)
    apply ah;refine⟨λx=>?_,?_⟩
    ·simp only[Lift.Act.bF,Act.put,List.foldl_cons,List.foldl_nil,aj,ay,au];rfl
    refine bT (u0:=(λt=>if t=56 then u56 else if t=57 then u57 else if t=58 then u58 else if t=59 then u59 else u60)) rfl (λ_=>rfl) (λg hg=>by simp only[List.mem_cons,List.not_mem_nil,or_false]at hg;rcases hg with rfl|rfl|rfl|rfl|rfl<;>decide) (λg hg=>by simp only[List.mem_cons,List.not_mem_nil,or_false]at hg;rcases hg with rfl|rfl|rfl|rfl|rfl<;>rfl) ?_;apply ah;refine⟨λD x w' hm hW K Q hK=>?_,?_⟩
    ·have hc:=N9 (k:=c) (by omega) (s:=pX) (by decide) w';simp only[pX]at hc;simp only[Lift.Act.bF,Act.put,List.foldl_cons,List.foldl_nil,aj,ay,au]
     gi_wp2_with (gi_at_call 67;refine hc.mono ?_;rintro r w3 ⟨rfl,hb⟩)
     exact(hW.grow (hW.n10 (.inr (.inl hm.1))) hb).step (by decide)
    iterate 2
     apply ah;refine⟨λx=>?_,?_⟩
     ·simp only[Lift.Act.bF,Act.put,List.foldl_cons,List.foldl_nil,aj,ay,au];rfl
     refine bT (u0:=(λt=>if t=56 then u56 else if t=57 then u57 else if t=58 then u58 else if t=59 then u59 else u60)) rfl (λ_=>rfl) (λg hg=>by simp only[List.mem_cons,List.not_mem_nil,or_false]at hg;rcases hg with rfl|rfl|rfl|rfl|rfl<;>decide) (λg hg=>by simp only[List.mem_cons,List.not_mem_nil,or_false]at hg;rcases hg with rfl|rfl|rfl|rfl|rfl<;>rfl) ?_;apply ah;refine⟨λD x w' hm hW K Q hK=>?_,?_⟩
     ·simp only[Lift.Act.bF,Act.put,List.foldl_cons,List.foldl_nil,aj,ay,au];gi_wp2;exact hW.step (by decide)
    apply ah;refine⟨λx=>?_,?_⟩
    ·simp only[Lift.Act.bF,Act.put,List.foldl_cons,List.foldl_nil,aj,ay,au];rfl
    refine iK (u0:=u56) 56 (by simp) rfl (λ_=>rfl) rfl rfl (λD x w' hm hW K Q hK=>?_) ?_
    ·simp only[Lift.Act.bF,Act.put,List.foldl_cons,List.foldl_nil,aj,ay,au]at hK ⊢;gi_wp2;exact hW.six hm.1
    refine iK (u0:=u57) 57 (by simp) rfl (λ_=>rfl) rfl rfl (λD x w' hm hW K Q hK=>?_) ?_
    ·have d6:=hm.2.1 6 (by kernel_rfl);have d10:=hW.n10 (.inr (.inr (.inr (.inl hm.1))));obtain⟨j,hx,hj⟩:=hW.b6 d10 d6;have hS:=hW.seven hm.1 d6 hj;simp only[Lift.Act.bF,Act.put,List.foldl_cons,List.foldl_nil,aj,ay,au]at hK ⊢;rw[hx]at hK ⊢;clear hx;gi_wp2;exact hS
    refine iK (u0:=u58) 58 (by simp) rfl (λ_=>rfl) rfl rfl (λD x w' hm hW K Q hK=>?_) ?_
    ·have d7:=hm.2.1 7 (by kernel_rfl);have d3:=hm.2.1 3 (by kernel_rfl);have d10:=hW.n10 (.inr (.inr (.inr (.inr (.inl hm.1)))));obtain⟨g,j,hx,hg,hj⟩:=hW.b7 d10 d7;have hS:=hW.eight hm.1 d7 d3 hg hj;simp only[Lift.Act.bF,Act.put,List.foldl_cons,List.foldl_nil,aj,ay,au]at hK ⊢;rw[hx]at hK ⊢;clear hx;gi_wp2;exact hS
    refine iK (u0:=u59) 59 (by simp) rfl (λ_=>rfl) rfl rfl (λD x w' hm hW K Q hK=>?_) ?_
    ·have d8:=hm.2.1 8 (by kernel_rfl);have d10:=hW.n10 (.inr (.inr (.inr (.inr (.inr hm.1)))));obtain⟨g,j,hx,hg,hj⟩:=hW.b8 d10 d8;have hS:=hW.nine hm.1 d8 hg hj;simp only[Lift.Act.bF,Act.put,List.foldl_cons,List.foldl_nil,aj,ay,au]at hK ⊢;rw[hx]at hK ⊢;clear hx;gi_wp2;exact hS
    refine iK (u0:=u60) 60 (by simp) rfl (λ_=>rfl) rfl rfl (λD x w' hm hW K Q hK=>?_) ?_
    ·have d9:=hm.2.1 9 (by kernel_rfl);obtain⟨h,g,j,hx,hh,hg,hj⟩:=hW.b9 hm.1 d9;have hp:=hW.pre hm.1;simp only[Lift.Act.bF,Act.put,List.foldl_cons,List.foldl_nil,aj,ay,au]at hK ⊢;refine EM _ _ 167 rfl (w.heap.size+1) 173 i173 _ 4 72 und167 hi173 hz173 hs173 hb173 rfl (by decide) rfl (dP h10.cr hp) (by exact hx) (news:=[.string (nameB pX c),.int .i64 0,.slice (some ⟨g,0,none⟩) 1 1,.slice none 0 0]) rfl (λj u hu=>?_) (by simp[Value.oneCell']) (by unfold maxLen;omega) (by omega) (by have:=h10.bel.size;have:=(h10.a9.below hp).lt;omega) λv' w3 ho hgr=>?_
     ·rw[hh.cell];simpa using hu
     obtain⟨ca',cc',hv⟩:=EP ho;subst hv;exact hK _ _ (hW.ten hm.1 d9 (hm.2.1 1 (by kernel_rfl)) hg hj hgr rfl ho)
    refine bT (u0:=(λt=>if t=56 then u56 else if t=57 then u57 else if t=58 then u58 else if t=59 then u59 else u60)) rfl (λ_=>rfl) (λg hg=>by simp only[List.mem_cons,List.not_mem_nil,or_false]at hg;rcases hg with rfl|rfl|rfl|rfl|rfl<;>decide) (λg hg=>by simp only[List.mem_cons,List.not_mem_nil,or_false]at hg;rcases hg with rfl|rfl|rfl|rfl|rfl<;>rfl) ?_;apply ah;refine⟨λD x w' hm hW K Q hK=>?_,?_⟩
    ·simp only[Lift.Act.bF,Act.put,List.foldl_cons,List.foldl_nil,aj,ay,au];gi_wp2;exact hW.step (by decide)
    apply ah;refine⟨λx=>?_,?_⟩
    ·simp only[Lift.Act.bF,Act.put,List.foldl_cons,List.foldl_nil,aj,ay,au];rfl
    refine nY rfl (λ_=>rfl) rfl (λD x w' hm hW K Q hK=>?_) ?_
    ·have d10:=hm.2.1 10 (by kernel_rfl);obtain⟨B,ca',cc',g,j,hB,hx,hgr,hgj,ho⟩:=hW.ap d10 hm.1;have hf:=(h10.below hB).case (j:=c) (r0:=⟨nameB pX c,g,j,c+1⟩) hgj rfl rfl hgr ho;have a9:=(h10.below hB).a9.jK (h10.below hB).cr (by decide) hgr;have q0:=a9.cell 1;have q1:=a9.frozen 1;have lq:=a9.lt;simp at q0;have hS:=λw'' (h:gV w (l.bn b) (c+1) (b.to.iW day c++[c]) rb rc ca' cc' (cs++[⟨nameB pX c,g,j,c+1⟩]) w'')=>hW.twelve (w'':=w'') d10 ⟨ca',cc',_,h⟩;simp only[Lift.Act.bF,Act.put,List.foldl_cons,List.foldl_nil,aj,ay,au]at hK ⊢;rw[hx]at hK ⊢;clear hx;gi_wp2;exact hS _ hf
    rintro x w6 hW;obtain⟨ca9,cc9,cs9,h9⟩:=hW.fin rfl;clear hW;simp only[Lift.Act.bF,Act.put,List.foldl_cons,List.foldl_nil,aj,ay,au];generalize x 56=y56;generalize x 57=y57;generalize x 58=y58;generalize x 59=y59;generalize x 60=y60;clear x h10;gi_wp2;go_roundw
    case rel=>
     refine⟨c+1,rb,rc,ca9,cc9,cs9,by omega,by go_num,?_⟩;rw[HKS.out];simp only[if_true];exact h9
    case measure=>simp[intOf];omega
   ·have hst2:(st==1)=false:=by simp[hst1]
    gi_wp2;go_roundw
    case rel=>
     refine⟨c+1,rb8,rc8,ca,cc,cs,by omega,by go_num,?_⟩;rw[HKS.out,if_neg hst1];exact h8'
    case measure=>simp[intOf];omega
  ·obtain rfl:c=min 5 b.cs.length:=by omega
   generalize hkc:min 5 b.cs.length=c at *;have r0:=h8.a9.cell 0;have r1:=h8.a9.cell 1;simp at r0 r1;have l9:=h8.a9.lt;obtain⟨hlen,hf⟩:=I4 h8 rfl (by omega) (hC.below h8.bel hC.lt);have hlc2:(c<b.cs.length∧c=5)∨c=b.cs.length:=by omega
   have HLEN:=Lib.hid hlen;have HKC:=Lib.hid hkc;clear hkc hlen;rcases hlc2 with⟨hlc,rfl⟩|rfl
   ·have hlc':((5:Nat):Int)<b.cs.length:=by omega
    gi_wp2_with (gi_at_call 68;refine hf.mono ?_;rintro e w3 ⟨⟨R,cp,vc,rfl,hR1,hR2⟩,hb3⟩;have r9:=(h8.a9.below hb3).cell 0;have r8:=(h8.a9.below hb3).cell 1;simp at r9 r8;have l8:=(h8.a9.below hb3).lt)
    have hlt3:∀w',Below w3.heap.size w3 w'→R<w'.heap.size∧w'.cell? ⟨R,0,none⟩=some (.int .i64 (sayOf (b.to.iW day 5).length))∧w'.cell? ⟨w.heap.size+1+1,1,none⟩=some (.slice ca cs.length cc)∧w.heap.size+1+1<w'.heap.size:=λw' hb=>⟨aB hR1 hb.size,(cell_below (o:=0) hb hR1).trans hR2,(cell_below (o:=1) hb l8).trans r8,aB l8 hb.size⟩
    clear r9 r8 l8;refine bJ (λw'=>Below w3.heap.size w3 w') rfl mixed (by kernel_rfl) (λd=>⟨rfl,rfl,rfl,ak _,λ_ _=>rfl⟩) ?_;simp only[aG,aC,aF,Nat.reduceAdd,Nat.zero_add,List.range,List.range.loop]
    iterate 9
     (refine aS rfl rfl (by kernel_rfl) (.inr rfl) ?_
      apply ah;refine⟨λw' hw' K Q hK=>?_,?_⟩
      ·obtain⟨p1,p2,p3,p4⟩:=hlt3 w' hw';gi_wp2
       try exact hw'
      apply ah;refine⟨rfl,?_⟩)
    intro w4 hb4;gi_wp2
    (try simp only[Exit.inBlock,Exit.then])
    refine bodyPost_ret (results_tmp3 rfl _ _ _) rfl ?_;refine⟨?_,(h8.bel.trans (hb3.mono h8.bel.size)).trans (hb4.mono (Nat.le_trans h8.bel.size hb3.size))⟩;rw[HKC.out,← HLEN.out];rfl
   ·gi_wp2_with (gi_at_call 68;refine hf.mono ?_;rintro e w3 ⟨⟨R,cp,vc,rfl,hR1,hR2⟩,hb3⟩;have r9:=(h8.a9.below hb3).cell 0;have r8:=(h8.a9.below hb3).cell 1;simp at r9 r8;have l8:=(h8.a9.below hb3).lt)
    have hlt3:∀w',Below w3.heap.size w3 w'→R<w'.heap.size∧w'.cell? ⟨R,0,none⟩=some (.int .i64 (sayOf (b.to.iW day b.cs.length).length))∧w'.cell? ⟨w.heap.size+1+1,1,none⟩=some (.slice ca cs.length cc)∧w.heap.size+1+1<w'.heap.size:=λw' hb=>⟨aB hR1 hb.size,(cell_below (o:=0) hb hR1).trans hR2,(cell_below (o:=1) hb l8).trans r8,aB l8 hb.size⟩
    clear r9 r8 l8;refine bJ (λw'=>Below w3.heap.size w3 w') rfl mixed (by kernel_rfl) (λd=>⟨rfl,rfl,rfl,ak _,λ_ _=>rfl⟩) ?_;simp only[aG,aC,aF,Nat.reduceAdd,Nat.zero_add,List.range,List.range.loop]
    iterate 9
     (refine aS rfl rfl (by kernel_rfl) (.inr rfl) ?_
      apply ah;refine⟨λw' hw' K Q hK=>?_,?_⟩
      ·obtain⟨p1,p2,p3,p4⟩:=hlt3 w' hw';gi_wp2
       try exact hw'
      apply ah;refine⟨rfl,?_⟩)
    intro w4 hb4;gi_wp2
    (try simp only[Exit.inBlock,Exit.then])
    refine bodyPost_ret (results_tmp3 rfl _ _ _) rfl ?_;refine⟨?_,(h8.bel.trans (hb3.mono h8.bel.size)).trans (hb4.mono (Nat.le_trans h8.bel.size hb3.size))⟩;rw[HKC.out,← HLEN.out];rfl
end
