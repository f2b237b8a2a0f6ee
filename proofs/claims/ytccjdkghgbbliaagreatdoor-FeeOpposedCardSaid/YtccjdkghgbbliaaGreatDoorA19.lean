/- The open cases of a coin, those that lack the least first: inside the fence. -/
import Derived.Test.YtccjdkghgbbliaaGreatDoorA18
set_option linter.all false
namespace Go.Proofs.YtccjdkghgbbliaaGreatDoor
section
set_option maxHeartbeats 1000000
set_option maxRecDepth 10000
open Go Go.RowKit Lift
def Book.lacks(b:Book)(s:St)(bg:Nat)(day:Int):Nat→List (Int×Int)
 |0=>[]
 |k+1=>b.lacks s bg day k++if(s.cases k).state=0∧b.bg k=bg then[((k:Int),wrap64 ((b.fee k day).1 - (s.cases k).held))]else[]
theorem pF(b:Book)(s:St)(bg:Nat)(day:Int)(k:Nat):b.lacks s bg day (k+1)=b.lacks s bg day k++if(s.cases k).state=0∧b.bg k=bg then[((k:Int),wrap64 ((b.fee k day).1 - (s.cases k).held))]else[]:=rfl
theorem dP{w w':World}{N:Nat}{e:TypeId}{k n:Nat}{v:Value}{xs:List Value}(h:w.ownsRow N e k v n xs)(hb:Below w.heap.size w w'):w'.ownsRow N e k v n xs:=fE h λg o _ hg=>(hb.block g (Array.getElem?_eq_some_iff.1 hg).1).trans hg
theorem C9(w:World)(x y:Value)(ty:TypeId)(j:Nat)(u:Value)(h:[x,y][j]?=some u):(w.alloc (.cells #[x,y] ty)).cell? ((⟨w.heap.size,0,none⟩:Addr).add j)=some u:=by
 have hb:=Blk.new w #[x,y] ty
 match j,h with
 |0,h=>cases h;exact hb.cell 0
 |1,h=>cases h;exact hb.cell 1
 |j+2,h=>simp at h
theorem kG(b:Book)(s:St)(bg:Nat)(day:Int):∀k,(b.lacks s bg day k).length≤k
 |0=>ak _
 |k+1=>by
  have:=kG b s bg day k;rw[pF,List.length_append];split<;>simp<;>omega
theorem Tryz.infoL:(Tryz.prog.info? 193).map (λi=>(i.zero,i.size,i.bytes))=some (some (.agg #[.int .i64 0,.int .i64 0]),2,16):=by kernel_rfl
set_option maxHeartbeats 32000000 in
set_option maxRecDepth 100000 in
theorem Oe{N:Nat}{l:Lay}{b:Book}{t:Tl}{s:St}{w:World}(h:aJ N l b t s w)(hv:Valid b){bg:Nat}(day:Int) :
  CallsIn Fz 0 Tryz.prog 84 #[.pointer (some ⟨t.T,0,none⟩),.int .i64 bg,.int .i64 day] w λe w'=>∃v,e=.returned v∧w'.ownsRow w.heap.size 193 2 v (b.lacks s bg day b.cs.length).length ((sortL (b.lacks s bg day b.cs.length)).flatMap dV)∧Below w.heap.size w w':=by
 have hn:=hv.nk;have f4:=h.c4;have ltT:=h.ltT;obtain⟨i0,hi0,hz0,hz1,hz2⟩:=info_parts Tryz.infoL;gi_enter Tryz.func84,Tryz.ntmps84
 gi_wp2;clear f4;gi_loopw [7,17] (λv i wr=>∃k:Nat,k≤b.cs.length∧i=.int .i64 k∧wr.ownsRow w.heap.size 193 2 v (b.lacks s bg day k).length ((b.lacks s bg day k).flatMap dV)∧Below w.heap.size w wr) (λ_ i _=>b.cs.length-(intOf i).toNat)
 case atStart=>exact⟨0,Nat.zero_le _,rfl,⟨rfl,.inl ⟨rfl,rfl⟩⟩,Below.refl _ _⟩
 case round=>
  obtain⟨k,hk,rfl,hrow,HB⟩:=hrel;have H:=h.same HB;by_cases hlt:k<b.cs.length
  ·have f4:=H.c4;have s0:=H.dL hlt;have s1:=H.jr hlt;have s2:=H.sDay hlt;have s3:=H.sFee hlt;have lS:=H.ltS;have lT:=H.ltT;obtain⟨st,hst⟩:∃st,st=(s.cases k).state:=⟨_,rfl⟩
   rw[← hst]at s0;by_cases hs:st=0
   ·subst hs;have HST:=Lib.hid hst.symm;clear hst;have hX0:=Blk.new wr #[.int .i64 0,.int .i64 (s.cases k).held,.int .i64 (s.cases k).day,.int .i64 (s.cases k).fee] 128;have HBa:=HB.alloc HB.size (.cells #[.int .i64 0,.int .i64 (s.cases k).held,.int .i64 (s.cases k).day,.int .i64 (s.cases k).fee] 128);have Ha:=h.same HBa;have f0:=Ha.c0;have f1:=Ha.c1;have f2:=Ha.c2;have f3:=Ha.c3;by_cases hc:b.bg k=bg
    ·have hL:b.lacks s bg day (k+1)=b.lacks s bg day k++[((k:Int),wrap64 ((b.fee k day).1 - (s.cases k).held))]:=by rw[pF,if_pos ⟨HST.out,hc⟩]
     have hll:=kG b s bg day k;have HL:=Lib.hid hL;clear hL
     gi_wp2_with (first
      |(gi_at_call 63;refine(lu Ha.bk hv hlt day).mono ?_;rintro e w2 ⟨rfl,hb2⟩;have H2:=Ha.same hb2;have X2:=hX0.below hb2;have x0:=X2.cell 0;have x1:=X2.cell 1;have lx:=X2.lt;have g0:=H2.c0;have g1:=H2.c1;have g2:=H2.c2;have g3:=H2.c3;have lT2:=H2.ltT;simp at x0 x1;clear f0 f1 f2 f3)
      |(gi_at_call 144;refine(o7 H2.bk hv hlt).mono ?_;rintro e w3 ⟨rfl,hb3⟩;have X3:=X2.below hb3;have y0:=X3.cell 0;have hrow3:=dP (hrow.alloc (.cells #[.int .i64 0,.int .i64 (s.cases k).held,.int .i64 (s.cases k).day,.int .i64 (s.cases k).fee] 128)) (hb2.trans (hb3.mono hb2.size));have y1:=X3.cell 1;have lx3:=X3.lt;simp at y0 y1;clear x0 x1 g0 g1 g2 g3)
      |(gi_at_builtin;refine wpListIn_append_own _ rfl _ _ 191 rfl w.heap.size 193 i0 (.agg #[.int .i64 0,.int .i64 0]) 2 16 Tryz.underlying191 hi0 hz0 hz1 hz2 rfl (by decide) _ _ _ rfl (hrow3.alloc _) ⟨w3.heap.size,0,none⟩ 1 1 [.int .i64 k,.int .i64 (wrap64 ((b.fee k day).1 - (s.cases k).held))] rfl rfl (C9 _ _ _ _) (by simp[Value.oneCell']) (by unfold maxLen;omega) (by omega) (Nat.le_trans (Nat.le_trans HBa.size (Nat.le_trans hb2.size hb3.size)) (by simp)) ?_;intro v' w4 hown' hg4 _;go_frame))
     have hB3:Below w.heap.size w w3:=HBa.trans ((hb2.trans (hb3.mono hb2.size)).mono HBa.size);refine⟨⟨k+1,by omega,by go_num,?_,(hB3.alloc hB3.size _).grown hg4 (Nat.le_trans hB3.size (by simp)) (λj hj=>pU hrow3 j hj)⟩,by simp[intOf];omega⟩;rw[HL.out,List.length_append,List.flatMap_append];exact hown'
    ·have hL:b.lacks s bg day (k+1)=b.lacks s bg day k:=by rw[pF,if_neg (λh=>hc h.2),List.append_nil]
     have HL:=Lib.hid hL;clear hL;have hc':¬((b.bg k:Int)=(bg:Int)):=by omega
     gi_wp2_with (first
      |(gi_at_call 63;refine(lu Ha.bk hv hlt day).mono ?_;rintro e w2 ⟨rfl,hb2⟩;have H2:=Ha.same hb2;have X2:=hX0.below hb2;have x0:=X2.cell 0;have x1:=X2.cell 1;have lx:=X2.lt;have g0:=H2.c0;have g1:=H2.c1;have g2:=H2.c2;have g3:=H2.c3;have lT2:=H2.ltT;simp at x0 x1;clear f0 f1 f2 f3)
      |(gi_at_call 144;refine(o7 H2.bk hv hlt).mono ?_;rintro e w3 ⟨rfl,hb3⟩;have X3:=X2.below hb3;have y0:=X3.cell 0;have hrow3:=dP (hrow.alloc (.cells #[.int .i64 0,.int .i64 (s.cases k).held,.int .i64 (s.cases k).day,.int .i64 (s.cases k).fee] 128)) (hb2.trans (hb3.mono hb2.size));have y1:=X3.cell 1;have lx3:=X3.lt;simp at y0 y1;clear x0 x1 g0 g1 g2 g3))
     go_roundw
     case rel=>exact⟨k+1,by omega,by go_num,by rw[HL.out];exact dP (hrow.alloc _) (hb2.trans (hb3.mono hb2.size)),HBa.trans ((hb2.trans (hb3.mono hb2.size)).mono HBa.size)⟩
     case measure=>simp[intOf];omega
   ·have HST:=Lib.hid hst;clear hst;have hX0:=Blk.new wr #[.int .i64 st,.int .i64 (s.cases k).held,.int .i64 (s.cases k).day,.int .i64 (s.cases k).fee] 128;have HBa:=HB.alloc HB.size (.cells #[.int .i64 st,.int .i64 (s.cases k).held,.int .i64 (s.cases k).day,.int .i64 (s.cases k).fee] 128);have Ha:=h.same HBa;have f0:=Ha.c0;have f1:=Ha.c1;have f2:=Ha.c2;have f3:=Ha.c3;have hL:b.lacks s bg day (k+1)=b.lacks s bg day k:=by rw[pF,if_neg (λh=>hs (HST.out.trans h.1)),List.append_nil]
    have HL:=Lib.hid hL;clear hL
    gi_wp2_with (first
     |(gi_at_call 63;refine(lu Ha.bk hv hlt day).mono ?_;rintro e w2 ⟨rfl,hb2⟩;have H2:=Ha.same hb2;have X2:=hX0.below hb2;have x0:=X2.cell 0;have x1:=X2.cell 1;have lx:=X2.lt;have g0:=H2.c0;have g1:=H2.c1;have g2:=H2.c2;have g3:=H2.c3;have lT2:=H2.ltT;simp at x0 x1;clear f0 f1 f2 f3)
     |(gi_at_call 144;refine(o7 H2.bk hv hlt).mono ?_;rintro e w3 ⟨rfl,hb3⟩;have X3:=X2.below hb3;have y0:=X3.cell 0;have hrow3:=dP (hrow.alloc (.cells #[.int .i64 st,.int .i64 (s.cases k).held,.int .i64 (s.cases k).day,.int .i64 (s.cases k).fee] 128)) (hb2.trans (hb3.mono hb2.size));have y1:=X3.cell 1;have lx3:=X3.lt;simp at y0 y1;clear x0 x1 g0 g1 g2 g3))
    go_roundw
    case rel=>exact⟨k+1,by omega,by go_num,by rw[HL.out];exact dP (hrow.alloc _) hb2,HBa.trans (hb2.mono HBa.size)⟩
    case measure=>simp[intOf];omega
  ·obtain rfl:k=b.cs.length:=by omega
   gi_wp2_with (gi_at_call 148;refine(JX hrow (by have:=kG b s bg day b.cs.length;omega)).mono ?_;rintro e w4 ⟨rfl,ho4,hg4⟩)
   go_ret;exact⟨_,rfl,ho4,HB.grown hg4 HB.size (λj hj=>pU ho4 j hj)⟩
end
section
set_option maxHeartbeats 1000000
set_option maxRecDepth 10000
open Go Go.RowKit Lift
def ints(l:List Int):List Value:=l.map λx=>.int .i64 x
structure eU (w3:World) (Pc Pp:Nat) (av:Nat→Prop) (cs ps:List Int) (w:World):Prop where
 os:w.os=w3.os
 tape:w.tape=w3.tape
 output:w.output=w3.output
 size:w3.heap.size≤w.heap.size
 old:∀k,k<w3.heap.size→k≠Pc→k≠Pp→w.heap[k]?=w3.heap[k]?
 lc:Pc<w3.heap.size
 lp:Pp<w3.heap.size
 ne:Pc≠Pp
 Il:∀k,av k→k<w.heap.size
 rest:∃vc vp,Blk w Pc 28 #[vc]∧Blk w Pp 28 #[vp]∧w.ownsRow w3.heap.size 3 1 vc cs.length (ints cs)∧w.ownsRow w3.heap.size 3 1 vp ps.length (ints ps)∧
  (∀g,vc.ownBlock=some g→¬av g∧vp.ownBlock≠some g)∧∀g,vp.ownBlock=some g→¬av g
section
variable {w3 w w':World} {Pc Pp:Nat} {av:Nat→Prop} {cs ps:List Int}
theorem eU.swap(h:eU w3 Pc Pp av cs ps w):eU w3 Pp Pc av ps cs w:=by
 obtain⟨vc,vp,h1,h2,h3,h4,h5,h6⟩:=h.rest;exact⟨h.os,h.tape,h.output,h.size,λk hk a b=>h.old k hk b a,h.lp,h.lc,h.ne.symm,h.Il,vp,vc,h2,h1,h4,h3,λg hg=>⟨h6 g hg,λe=>(h5 g e).2 hg⟩,λg hg=>(h5 g hg).1⟩
theorem eU.same(h:eU w3 Pc Pp av cs ps w)(hb:Below w.heap.size w w'):eU w3 Pc Pp av cs ps w':=by
 obtain⟨vc,vp,h1,h2,h3,h4,h5,h6⟩:=h.rest
 exact⟨hb.os.trans h.os,hb.tape.trans h.tape,hb.output.trans h.output,Nat.le_trans h.size hb.size,λk hk a b=>(hb.block k (aB hk h.size)).trans (h.old k hk a b),h.lc,h.lp,h.ne,λk hk=>aB (h.Il k hk) hb.size,
  vc,vp,h1.below hb,h2.below hb,dP h3 hb,dP h4 hb,h5,h6⟩
theorem eU.mono{av':Nat→Prop}(h:eU w3 Pc Pp av cs ps w)(ha:∀k,av' k→av k):eU w3 Pc Pp av' cs ps w:=by
 obtain⟨vc,vp,h1,h2,h3,h4,h5,h6⟩:=h.rest;exact⟨h.os,h.tape,h.output,h.size,h.old,h.lc,h.lp,h.ne,λk hk=>h.Il k (ha k hk),vc,vp,h1,h2,h3,h4,λg hg=>⟨λe=>(h5 g hg).1 (ha g e),(h5 g hg).2⟩,λg hg e=>h6 g hg (ha g e)⟩
theorem eU.alloc(h:eU w3 Pc Pp av cs ps w)(o:Obj):eU w3 Pc Pp (λk=>av k∨k=w.heap.size) cs ps (w.alloc o):=by
 have hs:=h.same ((Below.refl _ w).alloc (ak _) o);obtain⟨vc,vp,h1,h2,h3,h4,h5,h6⟩:=hs.rest;have lt:∀{v:Value} {n:Nat} {xs:List Value},w.ownsRow w3.heap.size 3 1 v n xs→∀g,v.ownBlock=some g→g≠w.heap.size:=λhr g hg=>Nat.ne_of_lt (hr.lt g hg).2;obtain⟨Nl,vp',k1,k2,k3,k4,_⟩:=h.rest;have e1:Nl=vc:=by
  have a:=k1.below ((Below.refl _ w).alloc (ak _) o);have:=a.symm.trans h1;simpa using this
 have e2:vp'=vp:=by
  have a:=k2.below ((Below.refl _ w).alloc (ak _) o);have:=a.symm.trans h2;simpa using this
 subst e1 e2
 exact⟨hs.os,hs.tape,hs.output,hs.size,hs.old,hs.lc,hs.lp,hs.ne,λk hk=>by simp;rcases hk with hk|rfl;exact Nat.lt_succ_of_lt (h.Il k hk);exact Nat.lt_succ_self _,
  Nl,vp',h1,h2,h3,h4,λg hg=>⟨λe=>e.elim (h5 g hg).1 (lt k3 g hg),(h5 g hg).2⟩,λg hg e=>e.elim (h6 g hg) (lt k4 g hg)⟩
theorem Blk.inj{B:Nat}{ty ty':TypeId}{c c':Array Value}(h:Blk w B ty c)(h':Blk w B ty' c'):ty=ty'∧c=c':=by
 have:=h.symm.trans h';simpa[and_comm]using this
theorem oK{N:Nat}{e:TypeId}{k n:Nat}{v:Value}{xs:List Value}(h:w.ownsRow N e k v n xs){g:Nat}(hg:v.ownBlock=some g):∃cur,Blk w g e cur:=by
 rcases h.2 with⟨rfl,_⟩|⟨g',cap,cur,rfl,_,h2,_⟩
 ·cases hg
 ·cases hg;exact⟨cur,h2⟩
theorem eU.set(h:eU w3 Pc Pp av cs ps w){B:Nat}(hB:av B)(h3:w3.heap.size≤B)(j:Nat)(v:Value):eU w3 Pc Pp av cs ps (w.setCell ⟨B,j,none⟩ v):=by
 have lc:=h.lc;have lp:=h.lp;obtain⟨vc,vp,h1,h2,k3,h4,h5,h6⟩:=h.rest;have hold:∀k,k≠B→(w.setCell ⟨B,j,none⟩ v).heap[k]?=w.heap[k]?:=λk hk=>Below.heap_setCell w _ _ k hk
 exact⟨h.os,h.tape,h.output,by simpa[World.setCell]using h.size,λk hk a b=>(hold k (by omega)).trans (h.old k hk a b),h.lc,h.lp,h.ne,λk hk=>by simpa[World.setCell]using h.Il k hk,
  vc,vp,(hold _ (by omega)).trans h1,(hold _ (by omega)).trans h2,fE k3 λg o hg ho=>(hold g (λe=>(h5 g hg).1 (e▸hB))).trans ho,fE h4 λg o hg ho=>(hold g (λe=>h6 g hg (e▸hB))).trans ho,h5,h6⟩
theorem eU.push(h:eU w3 Pc Pp av cs ps w){vc v':Value}{x:Int}(hb:Blk w Pc 28 #[vc])(hown:w'.ownsRow w3.heap.size 3 1 v' (cs.length+1) (ints cs++[.int .i64 x]))(hg:w.grownBy w' vc.ownBlock)(hat:v'.ownBlock=vc.ownBlock∨v'.ownBlock=some w.heap.size) :
  eU w3 Pc Pp av (cs++[x]) ps (w'.setCell ⟨Pc,0,none⟩ v')∧∀(k:Nat) (ty:TypeId) (c:Array Value),Blk w k ty c→(ty≠3∨av k)→k≠Pc→Blk (w'.setCell ⟨Pc,0,none⟩ v') k ty c:=by
 have lc:=h.lc;have lp:=h.lp;have hsz:=h.size;obtain⟨Nl,vp,h1,h2,k3,h4,h5,h6⟩:=h.rest;obtain rfl:Nl=vc:=by have:=(h1.inj hb).2;simpa using this
 have hge:=pU k3;have hblk:∀k,k<w.heap.size→Nl.ownBlock≠some k→w'.heap[k]?=w.heap[k]?:=λk hk hne=>hg.block k hk (λe=>hne e.symm);have nty:∀{k:Nat} {ty:TypeId} {c:Array Value},Blk w k ty c→ty≠3→Nl.ownBlock≠some k:=λhk hty e=>by
  obtain⟨cur,hc⟩:=oK k3 e;exact hty (hk.inj hc).1
 have hold:∀k,k≠Pc→(w'.setCell ⟨Pc,0,none⟩ v').heap[k]?=w'.heap[k]?:=λk hk=>Below.heap_setCell w' _ _ k hk;have hPc:Blk w' Pc 28 #[Nl]:=(hblk Pc h1.lt (nty h1 (by decide))).trans h1;have hPp:Blk w' Pp 28 #[vp]:=(hblk Pp h2.lt (nty h2 (by decide))).trans h2;have hrow:w'.ownsRow w3.heap.size 3 1 vp ps.length (ints ps):=fE h4 λg o hg' ho=>(hblk g (h4.lt g hg').2 (λe=>(h5 g e).2 hg')).trans ho;have nv:∀g,v'.ownBlock=some g→w3.heap.size≤g:=pU hown
 refine⟨⟨hg.os.trans h.os,hg.tape.trans h.tape,hg.output.trans h.output,by simp[World.setCell];exact Nat.le_trans hsz hg.size,λk hk a b=>((hold k a).trans (hblk k (by omega) (λe=>by have:=hge k e;omega))).trans (h.old k hk a b),h.lc,h.lp,h.ne,
  λk hk=>by simp[World.setCell];exact aB (h.Il k hk) hg.size,v',vp,?_,(hold Pp h.ne.symm).trans hPp,?_,fE hrow λg o hg' ho=>(hold g (λe=>by have:=pU h4 g hg';omega)).trans ho,λg hg'=>?_,h6⟩,λk ty c hk hty hne=>(hold k hne).trans ((hblk k hk.lt ?_).trans hk)⟩
 ·have:=hPc.vJ 0 v';simpa using this
 ·have e:(cs++[x]).length=cs.length+1:=by simp
  have e2:ints (cs++[x])=ints cs++[.int .i64 x]:=by simp[ints]
  rw[e,e2];exact fE hown λg o hg' ho=>(hold g (λe=>by have:=nv g hg';omega)).trans ho
 ·rcases hat with e|e
  ·rw[e]at hg';exact h5 g hg'
  ·rw[e]at hg';cases hg';exact⟨λha=>by have:=h.Il _ ha;omega,λe2=>by have:=(h4.lt _ e2).2;omega⟩
 ·rcases hty with hty|hav
  ·exact nty hk hty
  ·exact λe=>(h5 k e).1 hav
theorem eU.till{N:Nat}{l:Lay}{b:Book}{T Sb:Nat}{s:St}(h:eU w3 Pc Pp av cs ps w)(H:aJ N l b (Tl.bare T Sb) s w3){x y:Value}(hc:Blk w3 Pc 28 #[x])(hp:Blk w3 Pp 28 #[y])(hNc:N≤Pc)(hNp:N≤Pp):aJ N l b (Tl.bare T Sb) s w:=by
 obtain⟨vc,vp,h1,h2,_⟩:=h.rest;have np:∀B,∀p∈(Tl.bare T Sb).pins,p.1≠B:=λB p hp=>by cases hp
 have H1:=H.vM hc (by decide) (by decide) (by decide) hNc (np _) 0 vc;have hp1:Blk (w3.setCell ⟨Pc,0,none⟩ vc) Pp 28 #[y]:=hp.set h.ne _;have H2:=H1.vM hp1 (by decide) (by decide) (by decide) hNp (np _) 0 vp;have c1:Blk ((w3.setCell ⟨Pc,0,none⟩ vc).setCell ⟨Pp,0,none⟩ vp) Pc 28 #[vc]:=by
  have:=hc.vJ 0 vc;have e:(#[x]:Array Value).setIfInBounds 0 vc=#[vc]:=by simp
  rw[e]at this;exact this.set h.ne.symm _
 have c2:Blk ((w3.setCell ⟨Pc,0,none⟩ vc).setCell ⟨Pp,0,none⟩ vp) Pp 28 #[vp]:=by
  have:=hp1.vJ 0 vp;have e:(#[y]:Array Value).setIfInBounds 0 vp=#[vp]:=by simp
  rwa[e]at this
 have hs:w3.heap.size≤w.heap.size:=h.size;refine H2.stands (by simpa[World.setCell]using hs) λk cs' ty m hk=>?_;have hlt:k<w3.heap.size:=by
  have:=(Array.getElem?_eq_some_iff.1 hk).1;simpa[World.setCell]using this
 by_cases e1:k=Pc
 ·subst e1;exact h1.trans (c1.symm.trans hk)
 ·by_cases e2:k=Pp
  ·subst e2;exact h2.trans (c2.symm.trans hk)
  ·rw[h.old k hlt e1 e2];rw[Below.heap_setCell _ _ _ _ e2,Below.heap_setCell _ _ _ _ e1]at hk;exact hk
end
end
section
set_option maxHeartbeats 1000000
set_option maxRecDepth 10000
open Go Go.RowKit Lift
def lefts(L:List (Int×Int))(left:Int):Nat→Int
 |0=>left
 |k+1=>wrap64 (lefts L left k-(L.getD k (0,0)).2)
theorem LJ(L:List (Int×Int))(left:Int)(k:Nat):lefts L left (k+1)=wrap64 (lefts L left k-(L.getD k (0,0)).2):=rfl
theorem jq{w:World}{N n g cap:Nat}{L:List (Int×Int)}(h:w.ownsRow N 193 2 (.slice (some ⟨g,0,none⟩) n cap) L.length (L.flatMap dV)){k:Nat}(hk:k<L.length) :
  w.cell? ⟨g,k * 2,none⟩=some (.int .i64 (L.getD k (0,0)).1)∧w.cell? ⟨g,k * 2+1,none⟩=some (.int .i64 (L.getD k (0,0)).2):=by
 have hn:n=L.length:=by
  rcases h.2 with⟨e,_⟩|⟨g',c',cur,e,_⟩
  ·cases e
  ·cases e;rfl
 subst hn;have f:=(Aj L).2 k;rw[h.cellAt _ (by omega),h.cellAt _ (by omega),f.1,f.2];simp[hk]
theorem take_snoc(L:List (Int×Int)){k:Nat}(hk:k<L.length):(L.take (k+1)).map (·.1)=(L.take k).map (·.1)++[(L.getD k (0,0)).1]:=by
 rw[List.take_add_one,List.map_append,List.getElem?_eq_getElem hk];simp only[Option.toList_some,List.map_cons,List.map_nil,List.getD_eq_getElem?_getD,List.getElem?_eq_getElem hk,Option.getD_some]
theorem lN{w:World}{N:Nat}{e:TypeId}{k n:Nat}{v u:Value}{xs:List Value}(h:w.ownsRow N e k v n xs){B j:Nat}(hne:v.ownBlock≠some B):(w.setCell ⟨B,j,none⟩ u).ownsRow N e k v n xs:=
 fE h λg o hg ho=>(Below.heap_setCell w ⟨B,j,none⟩ u g (λe=>hne (by rw[hg,e]))).trans ho
theorem BQ{w w':World}{N:Nat}{k n:Nat}{v:Value}{xs:List Value}{e:TypeId}(h:w.ownsRow N e k v n xs)(hs:∀(g:Nat) (c:Array Value),v.ownBlock=some g→Blk w g e c→Blk w' g e c):w'.ownsRow N e k v n xs:=by
 obtain⟨h1,h2⟩:=h;refine⟨h1,h2.imp id ?_⟩;rintro⟨g,cap,cur,rfl,a2,a3,a4⟩;exact⟨g,cap,cur,rfl,a2,hs g cur rfl a3,a4⟩
theorem FV(w:World)(p:Addr)(u:Value)(o:Obj){x:Value}{j:Nat}{y:Value}(h:[x][j]?=some y):(((w.setCell p u).alloc o).alloc (.cells #[x] 3)).cell? ((⟨w.heap.size+1,0,none⟩:Addr).add j)=some y:=by
 have:=cell_one_new ((w.setCell p u).alloc o) x 3 j y h;simpa[World.setCell]using this
structure Took (L:List (Int×Int)) (left:Int) (k:Nat):Prop where
 le:k≤L.length
 had:∀j,j<k→(L.getD j (0,0)).2≤lefts L left j
 not:k<L.length→lefts L left k<(L.getD k (0,0)).2
set_option maxHeartbeats 32000000 in
set_option maxRecDepth 100000 in
theorem take_in{w3 w:World}{Pc Pp Pl:Nat}{av:Nat→Prop}{L:List (Int×Int)}{vL:Value}{left:Int}{cs ps:List Int}(h:eU w3 Pc Pp av cs ps w)(ha:av Pl)(h3:w3.heap.size≤Pl)(hl:Blk w Pl 3 #[.int .i64 left])
  (hL:w.ownsRow w3.heap.size 193 2 vL L.length (L.flatMap dV)) (hLn:L.length<20) (hcl:cs.length≤100) (hpl:ps.length≤100) :
  CallsIn Fz 0 Tryz.prog 83 #[vL,.pointer (some ⟨Pl,0,none⟩),.pointer (some ⟨Pp,0,none⟩),.pointer (some ⟨Pc,0,none⟩)] w λe w'=>e=.returned (.tuple #[])∧∃k,Took L left k∧
   eU w3 Pc Pp av (cs++(L.take k).map (·.1)) (ps++if k<L.length then(L.take (k+1)).map (·.1)else[]) w':=by
 obtain⟨i0,hi0,hz0,hz1,hz2⟩:=info_parts Tryz.AA;rcases hL.2 with⟨rfl,h0⟩|⟨g,cap,cur,rfl,hg1,hg2,hg3,hg4,hg5,hg6⟩
 ·obtain rfl:=List.length_eq_zero_iff.1 h0;gi_enter Tryz.func83,Tryz.ntmps83
  gi_wp2;refine wpIn_loop_rounds 1 ?_;rw[roundsIn_succ];gi_wp2;go_end0;exact⟨rfl,0,⟨ak _,λj hj=>absurd hj (by omega),λh=>absurd h (by simp)⟩,by simpa using h⟩
 ·clear hg2 hg5 hg6;gi_enter Tryz.func83,Tryz.ntmps83
  gi_wp2;gi_loopw [11] (λi wr=>∃k:Nat,k≤L.length∧i=.int .i64 k∧(∀j,j<k→(L.getD j (0,0)).2≤lefts L left j)∧eU w3 Pc Pp av (cs++(L.take k).map (·.1)) ps wr∧Blk wr Pl 3 #[.int .i64 (lefts L left k)]∧wr.ownsRow w3.heap.size 193 2 (.slice (some ⟨g,0,none⟩) L.length cap) L.length (L.flatMap dV)) (λi _=>L.length-(intOf i).toNat)
  case atStart=>exact⟨0,Nat.zero_le _,rfl,λj hj=>absurd hj (by omega),by simpa using h,hl,hL⟩
  case round=>
   obtain⟨k,hk,rfl,hhad,HP,Hl,HL⟩:=hrel;by_cases hlt:k<L.length
   ·have c0:=(jq HL hlt).1;have c1:=(jq HL hlt).2;have hglt:=(HL.lt g rfl).2;have l0:=Hl.cell 0;have lf:=Hl.frozen 0;have llt:=Hl.lt;simp at l0;obtain⟨⟨x1,x2⟩,hx⟩:∃x,L.getD k (0,0)=x:=⟨_,rfl⟩
    rw[hx]at c0 c1;simp only at c0 c1;by_cases hgt:lefts L left k<x2
    ·obtain⟨vp,vc,hbp,hbc,hop,hoc,hs1,hs2⟩:=HP.swap.rest;have hcap:k+1≤cap:=by omega
     have hk1:(k:Int)+1≤cap:=by omega
     have HP1:=HP.swap.same ((Below.refl _ wr).alloc (ak _) (.cells #[.int .i64 x1,.int .i64 x2] 193));have HL1:=HL.alloc (.cells #[.int .i64 x1,.int .i64 x2] 193);have hgapp:lefts L left k<(L.getD k (0,0)).2:=by rw[hx];exact hgt
     have HG:=Lib.hid hgapp;clear hgapp hx;gi_wp2;gi_loopw [25] (λi wr2=>∃j:Nat,j≤k+1∧i=.int .i64 j∧eU w3 Pp Pc av (ps++(L.take j).map (·.1)) (cs++(L.take k).map (·.1)) wr2∧wr2.ownsRow w3.heap.size 193 2 (.slice (some ⟨g,0,none⟩) L.length cap) L.length (L.flatMap dV)) (λi _=>k+1-(intOf i).toNat)
     case atStart=>exact⟨0,Nat.zero_le _,rfl,by simpa using HP1,HL1⟩
     case round=>
      obtain⟨j,hj,rfl,HQ,HLQ⟩:=hrel;by_cases hjk:j<k+1
      ·have hjl:j<L.length:=by omega
       have hjm:min j L.length=j:=by omega
       have d0:=(jq HLQ hjl).1;have d1:=(jq HLQ hjl).2;have hglt2:=(HLQ.lt g rfl).2;obtain⟨⟨y1,y2⟩,hy⟩:∃y,L.getD j (0,0)=y:=⟨_,rfl⟩
       rw[hy]at d0 d1;simp only at d0 d1;have Hy:=Lib.hid hy;clear hy;obtain⟨vq,vr,hbq,hbr,hoq,hor,hq1,hq2⟩:=HQ.rest;have pq0:=hbq.cell 0;have pqf:=hbq.frozen 0;have pqlt:=hbq.lt;simp at pq0;have hbqA:=(hbq.below ((Below.refl _ _).alloc (ak _) (.cells #[.int .i64 y1,.int .i64 y2] 193))).below ((Below.refl _ _).alloc (ak _) (.cells #[.int .i64 y1] 3));have hvPq:some Pp≠vq.ownBlock:=λe=>by
        obtain⟨cur,hc⟩:=oK hoq e.symm;exact absurd (hc.inj hbq).1 (by decide)
       have hlen:(ps++(L.take j).map (·.1)).length≤120:=by simp;omega
       have HSN:=Lib.hid (take_snoc L hjl)
       gi_wp2_with (gi_at_builtin;refine wpListIn_append_own_at _ rfl _ _ 28 rfl w3.heap.size 3 i0 (.int .i64 0) 1 8 Tryz.underlying28 hi0 hz0 hz1 hz2 rfl (by decide) _ _ _ rfl ((hoq.alloc _).alloc _) ⟨wr.heap.size+1,0,none⟩ 1 1 [.int .i64 y1] rfl rfl (λj u h=>cell_two_new _ _ _ _ _ h) (by simp[Value.oneCell']) (by unfold maxLen;omega) (by omega) (by have:=HQ.size;simp;omega) ?_;intro v' w5 hown' hg5 _ hat;obtain⟨g',cap',rfl⟩:=ownsRow_succ hown';have hbq5:Blk w5 Pp 28 #[vq]:=(hg5.block Pp hbqA.lt hvPq).trans hbqA;have pc5:=hbq5.cell 0;have pf5:=hbq5.frozen 0;have lt5:=hbq5.lt;simp at pc5;clear pq0 pqf pqlt)
       have elen:(ps++(L.take j).map (·.1)).length+1=ps.length+j+1:=by simp;omega
       have ev:(Value.slice (some ⟨g',0,none⟩) (ps.length+j+1) cap')=.slice (some ⟨g',0,none⟩) ((ps++(L.take j).map (·.1)).length+1) cap':=by rw[elen]
       rw[ev];obtain⟨hP,hst⟩:=((HQ.same ((Below.refl _ _).alloc (ak _) (.cells #[.int .i64 y1,.int .i64 y2] 193))).same ((Below.refl _ _).alloc (ak _) (.cells #[.int .i64 y1] 3))).push hbqA hown' hg5 hat
       refine⟨⟨j+1,by omega,by go_num,?_,?_⟩,by simp[intOf];omega⟩
       ·rw[HSN.out,Hy.out,← List.append_assoc];exact hP
       ·refine BQ ((HLQ.alloc (.cells #[.int .i64 y1,.int .i64 y2] 193)).alloc (.cells #[.int .i64 y1] 3)) λg c hg hc=>hst _ _ _ hc (.inl (by decide)) λe=>?_;subst e;exact absurd (hc.inj hbqA).1 (by decide)
      ·obtain rfl:j=k+1:=by omega
       gi_wp2
       (try simp only[Exit.inBlock,Exit.then])
       refine bodyPost_ret (results_none rfl _ _ _) rfl ?_;refine⟨rfl,k,⟨by omega,hhad,λ_=>HG.out⟩,?_⟩;rw[if_pos hlt];simpa using HQ.swap
    ·obtain⟨vc,vp,hbc,hbp,hoc,hop,hs1,hs2⟩:=HP.rest;have hPcPl:Pc≠Pl:=λe=>by have:=HP.lc;omega
     have hgPl:g≠Pl:=λe=>by
      obtain⟨cur,hcur⟩:=oK HL (g:=g) rfl;have:=(hcur.inj (e▸Hl)).1;exact absurd this (by decide)
     have pc0:=hbc.cell 0;have pcf:=hbc.frozen 0;have pclt:=hbc.lt;simp at pc0;have HP1:=HP.set ha h3 0 (.int .i64 (wrap64 (lefts L left k-x2)));have hoc1:(wr.setCell ⟨Pl,0,none⟩ (.int .i64 (wrap64 (lefts L left k-x2)))).ownsRow w3.heap.size 3 1 vc (cs++(L.take k).map (·.1)).length (ints (cs++(L.take k).map (·.1))):=lN hoc (λe=>(hs1 _ e).1 ha);have hbc1:Blk (wr.setCell ⟨Pl,0,none⟩ (.int .i64 (wrap64 (lefts L left k-x2)))) Pc 28 #[vc]:=hbc.set (Ne.symm hPcPl) _;have hl1:Blk (wr.setCell ⟨Pl,0,none⟩ (.int .i64 (wrap64 (lefts L left k-x2)))) Pl 3 #[.int .i64 (lefts L left (k+1))]:=by
      have:=Hl.vJ 0 (.int .i64 (wrap64 (lefts L left k-x2)));rw[LJ,hx];simpa using this
     have hL1:(wr.setCell ⟨Pl,0,none⟩ (.int .i64 (wrap64 (lefts L left k - x2)))).ownsRow w3.heap.size 193 2 (.slice (some ⟨g,0,none⟩) L.length cap) L.length (L.flatMap dV):=lN HL (λe=>by cases e;exact hgPl rfl);have hbcA:=(hbc1.below ((Below.refl _ _).alloc (ak _) (.cells #[.int .i64 x1,.int .i64 x2] 193))).below ((Below.refl _ _).alloc (ak _) (.cells #[.int .i64 x1] 3));have hvPc:some Pc≠vc.ownBlock:=λe=>by
      obtain⟨cur,hc⟩:=oK hoc e.symm;exact absurd (hc.inj hbc).1 (by decide)
     have hlen:(cs++(L.take k).map (·.1)).length≤120:=by simp;omega
     have HSN:=Lib.hid (take_snoc L hlt);have Hx:=Lib.hid hx;have HLS:=Lib.hid hl1;clear hx hl1
     gi_wp2_with (gi_at_builtin;refine wpListIn_append_own_at _ rfl _ _ 28 rfl w3.heap.size 3 i0 (.int .i64 0) 1 8 Tryz.underlying28 hi0 hz0 hz1 hz2 rfl (by decide) _ _ _ rfl ((hoc1.alloc _).alloc _) ⟨wr.heap.size+1,0,none⟩ 1 1 [.int .i64 x1] rfl rfl (λj u h=>FV _ _ _ _ h) (by simp[Value.oneCell']) (by unfold maxLen;omega) (by omega) (by have:=HP1.size;simp at this ⊢;omega) ?_;intro v' w5 hown' hg5 _ hat;obtain⟨g',cap',rfl⟩:=ownsRow_succ hown';have Ph:Blk w5 Pc 28 #[vc]:=(hg5.block Pc hbcA.lt hvPc).trans hbcA;have pc5:=Ph.cell 0;have pf5:=Ph.frozen 0;have lt5:=Ph.lt;simp at pc5;clear pc0 pcf pclt)
     have elen:(cs++(L.take k).map (·.1)).length+1=cs.length+k+1:=by simp;omega
     have ev:(Value.slice (some ⟨g',0,none⟩) (cs.length+k+1) cap')=.slice (some ⟨g',0,none⟩) ((cs++(L.take k).map (·.1)).length+1) cap':=by rw[elen]
     rw[ev];obtain⟨hP,hst⟩:=((HP1.same ((Below.refl _ _).alloc (ak _) (.cells #[.int .i64 x1,.int .i64 x2] 193))).same ((Below.refl _ _).alloc (ak _) (.cells #[.int .i64 x1] 3))).push hbcA hown' hg5 hat
     have hlA:=(HLS.out.below ((Below.refl _ _).alloc (ak _) (.cells #[.int .i64 x1,.int .i64 x2] 193))).below ((Below.refl _ _).alloc (ak _) (.cells #[.int .i64 x1] 3));refine⟨⟨k+1,by omega,by go_num,λj hj=>?_,?_,hst _ _ _ hlA (.inr ha) hPcPl.symm,?_⟩,by simp[intOf];omega⟩
     ·by_cases e:j=k
      ·subst e;rw[Hx.out];exact Int.not_lt.1 hgt
      ·exact hhad j (by omega)
     ·rw[HSN.out,Hx.out,← List.append_assoc];exact hP
     ·refine BQ ((hL1.alloc (.cells #[.int .i64 x1,.int .i64 x2] 193)).alloc (.cells #[.int .i64 x1] 3)) λg c hg hc=>hst _ _ _ hc (.inl (by decide)) λe=>?_;subst e;exact absurd (hc.inj hbcA).1 (by decide)
   ·obtain rfl:k=L.length:=by omega
    gi_wp2;go_end0;refine⟨rfl,L.length,⟨ak _,hhad,λh=>absurd h (by omega)⟩,?_⟩;simpa using HP
end
