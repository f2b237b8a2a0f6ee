/- Two lists of payments that a law makes; a list turned, in a region that draws its order: what stands on the way. -/
import Derived.Test.YtnkejaohnhpbpaaGreatDoorA59
set_option linter.all false
namespace Go.Proofs.YtnkejaohnhpbpaaGreatDoor
section
open Go Go.RowKit Lift
structure Two (N0:Nat) (w:World) (vi vo:Value) (xs ys:List dM):Prop where
 i:w.ownsRow N0 56 5 vi xs.length (dh xs)
 o:w.ownsRow N0 56 5 vo ys.length (dh ys)
 ne:∀g,vi.ownBlock=some g→vo.ownBlock≠some g
section
variable {N0:Nat} {w w':World} {vi vo v':Value} {xs ys:List dM} {m:dM}
theorem Two.swap(h:Two N0 w vi vo xs ys):Two N0 w vo vi ys xs:=⟨h.o,h.i,λg h1 h2=>h.ne g h2 h1⟩
theorem Two.same(h:Two N0 w vi vo xs ys)(hs:iD w w'):Two N0 w' vi vo xs ys:=⟨FV h.i hs,FV h.o hs,h.ne⟩
theorem Two.below(h:Two N0 w vi vo xs ys)(hb:Below w.heap.size w w'):Two N0 w' vi vo xs ys:=⟨cZ h.i hb,cZ h.o hb,h.ne⟩
theorem Two.gr(h:Two N0 w vi vo xs ys)(hg:Grow w.heap.size w w'):Two N0 w' vi vo xs ys:=⟨OX h.i hg,OX h.o hg,h.ne⟩
theorem Two.nil(N0:Nat)(w:World):Two N0 w (.slice none 0 0) (.slice none 0 0) [] []:=⟨World.ownsRow_nil _ _ _ _,World.ownsRow_nil _ _ _ _,λg h=>by cases h⟩
theorem Two.push(h:Two N0 w vi vo xs ys)(hown:w'.ownsRow N0 56 5 v' (xs.length+1) (dh (xs++[m])))(hg:w.grownBy w' vi.ownBlock)(hat:v'.ownBlock=vi.ownBlock∨v'.ownBlock=some w.heap.size):Two N0 w' v' vo (xs++[m]) ys:=by
 have lo:∀g,vo.ownBlock=some g→g<w.heap.size:=λg hg=>(h.o.lt g hg).2;refine⟨by simpa using hown,eu h.o λg o hg' ho=>(hg.block g (lo g hg') (λe=>h.ne g e.symm hg')).trans ho,λg h1 h2=>?_⟩;rcases hat with e|e
 ·exact h.ne g (e.symm.trans h1) h2
 ·rw[e]at h1;have:=lo g h2;cases h1;omega
end
theorem jF.gr{w w':World}{v:Value}{ps:List dM}(h:jF w v ps)(hg:Grow w.heap.size w w'):jF w' v ps:=by
 obtain⟨b,c,e,hr⟩:=h;exact⟨b,c,e,(bZ.growN hr hg).mono hg.size⟩
theorem jF.below{w w':World}{v:Value}{ps:List dM}(h:jF w v ps)(hb:Below w.heap.size w w'):jF w' v ps:=h.gr (Grow.of hb)
theorem jF.drop{w:World}{g o n c c':Nat}{ps:List dM}(h:jF w (.slice (some ⟨g,o,none⟩) n c) ps){t:Nat}(ht:t≤ps.length):jF w (.slice (some ⟨g,o+t * 5,none⟩) (ps.length-t) c') (ps.drop t):=by
 obtain⟨b,c0,e,hr⟩:=h;cases e;refine⟨some ⟨g,o+t * 5,none⟩,c',by rw[List.length_drop],λi r hr'=>?_⟩;rw[List.map_drop,List.getElem?_drop]at hr';obtain⟨b',o',e1,e2,e3⟩:=hr (t+i) r hr';cases e1;refine⟨g,o+t * 5,rfl,e2,λj v hv=>?_⟩;have:=e3 j v hv;rw[show o+t * 5+i * 5+j=o+(t+i) * 5+j by omega];exact this
theorem jF.take{w:World}{g o n c c':Nat}{ps:List dM}(h:jF w (.slice (some ⟨g,o,none⟩) n c) ps){t:Nat}(ht:t≤ps.length):jF w (.slice (some ⟨g,o,none⟩) t c') (ps.take t):=by
 obtain⟨b,c0,e,hr⟩:=h;cases e;refine⟨some ⟨g,o,none⟩,c',by rw[List.length_take,Nat.min_eq_left ht],λi r hr'=>?_⟩;rw[List.map_take]at hr';obtain⟨b',o',e1,e2,e3⟩:=hr i r (List.mem_of_getElem? hr' |> λ_=>by
  have hi:i<t:=by have:=(List.getElem?_eq_some_iff.1 hr').1;simp at this;omega
  rwa[List.getElem?_take_of_lt hi]at hr')
 cases e1;exact⟨g,o,rfl,e2,e3⟩
def xG(M:Nat)(w:World)(v:Value)(ps:List dM):Prop:=∃base cap,v=.slice base ps.length cap∧bZ M base 5 (ps.map dM.row) w
section
variable {M N:Nat} {w w':World} {v:Value} {ps:List dM}
theorem jF.n(h:jF w v ps):xG w.heap.size w v ps:=h
theorem xG.at(h:xG M w v ps)(hM:M≤w.heap.size):jF w v ps:=by
 obtain⟨b,c,e,h⟩:=h;exact⟨b,c,e,h.mono hM⟩
theorem xG.grow(h:xG M w v ps)(hg:Grow N w w')(hM:M≤N):xG M w' v ps:=by
 obtain⟨b,c,e,h⟩:=h;exact⟨b,c,e,h.growN (hg.mono hM)⟩
theorem xG.same(h:xG M w v ps)(hs:iD w w'):xG M w' v ps:=by
 obtain⟨b,c,e,h⟩:=h;exact⟨b,c,e,QT h hs⟩
end
structure WT (i1 i2 i3 i4:Nat) (s1 s2 s3 s7:Tmp) (w0:World) (v:Value) (us ys:List dM) (D:Nat→Bool) (x:Tmp→Value) (w:World):Prop where
 bel:Below w0.heap.size w0 w
 o1:D i1=true→D i2=false→w.ownsRow w0.heap.size 56 5 (x s1) 0 (dh [])
 o2:D i2=true→D i3=false→w.ownsRow w0.heap.size 56 5 (x s2) us.length (dh us)
 o3:D i3=true→w.ownsRow w0.heap.size 56 5 (x s3) (us.length+ys.length) (dh (us++ys))
 e0:D i4=false→x s7=v
 e1:D i4=true→x s7=x s3∧D i3=true
 c:D i3=true→D i2=true
section
variable {i1 i2 i3 i4:Nat} {s1 s2 s3 s7:Tmp} {w0 w w':World} {v:Value} {us ys:List dM} {D:Nat→Bool} {x:Tmp→Value}
theorem WT.start{x0:Tmp→Value}(h:x0 s7=v):WT i1 i2 i3 i4 s1 s2 s3 s7 w0 v us ys (λ_=>false) x0 { w0 with drawn:=w0.drawn+1 }:=
 ⟨⟨rfl,rfl,rfl,ay _,λ_ _=>rfl⟩,λh=>by(cases h),λh=>by(cases h),λh=>by(cases h),λ_=>h,λh=>by(cases h),λh=>by(cases h)⟩
theorem WT.pure(h:WT i1 i2 i3 i4 s1 s2 s3 s7 w0 v us ys D x w){i:Nat}(hi:i∉[i1,i2,i3,i4]):WT i1 i2 i3 i4 s1 s2 s3 s7 w0 v us ys (aQ D i) x w:=by
 simp only[List.mem_cons,List.not_mem_nil,or_false,not_or]at hi;obtain⟨h1,h2,h3,h4⟩:=hi;have e1:=aT (D:=D) (Ne.symm h1);have e2:=aT (D:=D) (Ne.symm h2);have e3:=aT (D:=D) (Ne.symm h3);have e4:=aT (D:=D) (Ne.symm h4);exact⟨h.bel,by rw[e1,e2];exact h.o1,by rw[e2,e3];exact h.o2,by rw[e3];exact h.o3,by rw[e4];exact h.e0,by rw[e4,e3];exact h.e1,by rw[e3,e2];exact h.c⟩
theorem WT.build(hok:[i1,i2,i3,i4].Nodup∧[s1,s2,s3,s7].Nodup)(h:WT i1 i2 i3 i4 s1 s2 s3 s7 w0 v us ys D x w)(d2:D i2=false)(d4:D i4=false):WT i1 i2 i3 i4 s1 s2 s3 s7 w0 v us ys (aQ D i1) (iU x s1 (.slice (some ⟨w.heap.size,0,none⟩) 0 0)) (w.alloc (.cells #[] 56)):=by
 obtain⟨hi,hs⟩:=hok;simp only[List.nodup_cons,List.mem_cons,List.not_mem_nil,or_false,not_or,List.nodup_nil,and_true,not_false_eq_true]at hi hs;have e2:aQ D i1 i2=D i2:=aT (Ne.symm hi.1.1);have e3:aQ D i1 i3=D i3:=aT (Ne.symm hi.1.2.1);have e4:aQ D i1 i4=D i4:=aT (Ne.symm hi.1.2.2);have d3:D i3=false:=by cases h3:D i3;rfl;exact nof d2 (h.c h3)
 refine⟨h.bel.alloc h.bel.size _,λ_ _=>?_,λq=>nof (e2.trans d2) q,λq=>nof (e3.trans d3) q,λ_=>?_,λq=>nof (e4.trans d4) q,λq=>nof (e3.trans d3) q⟩
 ·rw[eH];exact World.ownsRow_lit w #[] 0 h.bel.size (by decide) rfl
 ·rw[dN (Ne.symm hs.1.2.2)];exact h.e0 d4
theorem WT.app1(hok:[i1,i2,i3,i4].Nodup∧[s1,s2,s3,s7].Nodup)(h:WT i1 i2 i3 i4 s1 s2 s3 s7 w0 v us ys D x w)(d1:D i1=true)(d2:D i2=false)(d4:D i4=false){u:Value}(hown:w'.ownsRow w0.heap.size 56 5 u us.length (dh us))(hg:w.grownBy w' (x s1).ownBlock) :
  WT i1 i2 i3 i4 s1 s2 s3 s7 w0 v us ys (aQ D i2) (iU x s2 u) w':=by
 obtain⟨hi,hs⟩:=hok;simp only[List.nodup_cons,List.mem_cons,List.not_mem_nil,or_false,not_or,List.nodup_nil,and_true,not_false_eq_true]at hi hs;have e3:aQ D i2 i3=D i3:=aT (Ne.symm hi.2.1.1);have e4:aQ D i2 i4=D i4:=aT (Ne.symm hi.2.1.2);have d3:D i3=false:=by cases h3:D i3;rfl;exact nof d2 (h.c h3)
 refine⟨h.bel.trans (eY (h.o1 d1 d2) hg h.bel.size),λ_ q=>nof q bJ,λ_ _=>?_,λq=>nof (e3.trans d3) q,λ_=>?_,λq=>nof (e4.trans d4) q,λ_=>bJ⟩
 ·rw[eH];exact hown
 ·rw[dN (Ne.symm hs.2.1.2)];exact h.e0 d4
theorem WT.app2(hok:[i1,i2,i3,i4].Nodup∧[s1,s2,s3,s7].Nodup)(h:WT i1 i2 i3 i4 s1 s2 s3 s7 w0 v us ys D x w)(d2:D i2=true)(d3:D i3=false)(d4:D i4=false){u:Value}(hown:w'.ownsRow w0.heap.size 56 5 u (us.length+ys.length) (dh (us++ys)))(hg:w.grownBy w' (x s2).ownBlock) :
  WT i1 i2 i3 i4 s1 s2 s3 s7 w0 v us ys (aQ D i3) (iU x s3 u) w':=by
 obtain⟨hi,hs⟩:=hok;simp only[List.nodup_cons,List.mem_cons,List.not_mem_nil,or_false,not_or,List.nodup_nil,and_true,not_false_eq_true]at hi hs;have e2:aQ D i3 i2=D i2:=aT hi.2.1.1;have e4:aQ D i3 i4=D i4:=aT (Ne.symm hi.2.2);refine⟨h.bel.trans (eY (h.o2 d2 d3) hg h.bel.size),λ_ q=>nof q (e2.trans d2),λ_ q=>nof q bJ,λ_=>?_,λ_=>?_,λq=>nof (e4.trans d4) q,λ_=>e2.trans d2⟩
 ·rw[eH];exact hown
 ·rw[dN (Ne.symm hs.2.2)];exact h.e0 d4
theorem WT.assign(hok:[i1,i2,i3,i4].Nodup∧[s1,s2,s3,s7].Nodup)(h:WT i1 i2 i3 i4 s1 s2 s3 s7 w0 v us ys D x w)(d2:D i2=true)(d3:D i3=true):WT i1 i2 i3 i4 s1 s2 s3 s7 w0 v us ys (aQ D i4) (iU x s7 (x s3)) w:=by
 obtain⟨hi,hs⟩:=hok;simp only[List.nodup_cons,List.mem_cons,List.not_mem_nil,or_false,not_or,List.nodup_nil,and_true,not_false_eq_true]at hi hs;have e2:aQ D i4 i2=D i2:=aT hi.2.1.2;have e3:aQ D i4 i3=D i3:=aT hi.2.2;refine⟨h.bel,λ_ q=>nof q (e2.trans d2),λ_ q=>nof q (e3.trans d3),λ_=>?_,λq=>nof q bJ,λ_=>⟨?_,e3.trans d3⟩,λ_=>e2.trans d2⟩
 ·rw[dN hs.2.2];exact h.o3 d3
 ·rw[eH,dN hs.2.2]
end
end
section
namespace Lift
open Go
end Lift
end
section
open Go Go.RowKit Lift
def nums(f:Nat→Int)(n:Nat):Array Value:=((List.range n).map λk=>Value.int .i64 (f k)).toArray
theorem uJ(f:Nat→Int)(n:Nat):(nums f n).size=n:=by simp[nums]
theorem nN{f:Nat→Int}{n k:Nat}(h:k<n):(nums f n)[k]?=some (.int .i64 (f k)):=by simp[nums,h]
theorem wZ{f g:Nat→Int}{n:Nat}(h:∀k,k<n→f k=g k):nums f n=nums g n:=by
 unfold nums;rw[List.map_congr_left λk hk=>by rw[h k (List.mem_range.1 hk)]]
theorem UA{f g:Nat→Int}{n c:Nat}{v:Int}(hc:c<n)(hv:g c=v)(h:∀k,k<n→k≠c→g k=f k):(nums f n).setIfInBounds c (.int .i64 v)=nums g n:=by
 apply Array.ext_getElem?;intro k;by_cases hk:k<n
 ·by_cases e:k=c
  ·subst e;rw[Array.getElem?_setIfInBounds_self_of_lt (by rw[uJ];exact hk),nN hk,hv]
  ·rw[aG (Ne.symm e),nN hk,nN hk,h k hk e]
 ·rw[Array.getElem?_eq_none (by rw[Array.size_setIfInBounds,uJ];omega),Array.getElem?_eq_none (by rw[uJ];omega)]
theorem IQ{n:Nat}(hn:n≤6)(w:World):(Instr.makeSlice 44 (.int .i64 n) (.int .i64 n)).run Tryz.prog w=.ok (.slice (some ⟨w.heap.size,0,none⟩) n n) (w.alloc (.cells (nums (λ_=>0) n) 3)):=by
 obtain⟨i0,hi,hz0,hz1,hz2⟩:=info_parts Tryz.pY;have:=run_make (P:=Tryz.prog) w 44 3 i0 _ Tryz.underlying44 hi hz0 .i64 .i64 n n (by omega) (Int.le_refl _) (by rw[hz2];omega) (by omega);rw[hz1]at this;have e:madeCells (Value.int IntKind.i64 0).cells (n * 1)=nums (λ_=>0) n:=by
  apply Array.ext_getElem?;intro k;by_cases hk:k<n
  ·rw[nN hk];simp[madeCells,Value.cells,hk,Nat.mod_one]
  ·rw[Array.getElem?_eq_none (by rw[size_madeCells];omega),Array.getElem?_eq_none (by rw[uJ];omega)]
 simp only[Int.toNat_natCast]at this;rw[e]at this;exact this
theorem Lc(b:aP):b.to.cs.length=b.cs.length:=by simp[aP.to]
def TY(b:Book)(n:Int)(j:Nat):Nat→Int:=λk=>kS b k (dB (b.after n)) j
def U4(b:Book)(n:Int)(j:Nat):Nat→Int:=λk=>kS b k (iT (b.after n)) j
structure TakesAre (b:Book) (n:Nat):Prop where
 held:∀k,k<b.aJ.length→b.dB (b.after n) k=TY b n b.cs.length k
 took:∀k,k<b.aJ.length→(b.after n).tkn k=U4 b n b.cs.length k
 hb:∀j k,j≤b.cs.length→k<b.aJ.length→0≤TY b n j k∧TY b n j k≤10000000000
 tb:∀j k,j≤b.cs.length→k<b.aJ.length→0≤U4 b n j k∧U4 b n j k≤10000000000
end
