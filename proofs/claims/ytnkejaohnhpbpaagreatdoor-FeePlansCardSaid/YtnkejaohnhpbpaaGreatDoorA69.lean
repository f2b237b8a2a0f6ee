/- FeePlanned in plain words: moves of what the planned cases lack. -/
import Derived.Test.YtnkejaohnhpbpaaGreatDoorA64
set_option linter.all false
namespace Go.Proofs.YtnkejaohnhpbpaaGreatDoor
section
open Go Go.RowKit Lift
def Book.lack(b:Book)(n:Int)(c:Nat):Int:=(b.fee c n).1 - ((b.after n).cases c).held
theorem oL{b:Book}(hv:Valid b){n c:Nat}(hc:c<b.cs.length)(hs:((b.after n).cases c).state=0) :
  1≤b.lack n c∧b.lack n c≤470000∧(b.fee c n).2=true∧wrap64 ((b.fee c n).1 - ((b.after n).cases c).held)=b.lack n c:=by
 have hA:=yL hv n c hc;have hf:=hv.yP hc n;unfold Book.lack;rcases hA with⟨h1,h2,h3,h4,h5,h6⟩|h|h
 ·refine⟨by omega,by omega,h6,?_⟩;unfold wrap64;omega
 ·have:=h.1;omega
 ·have:=h.1;omega
theorem qm{b:Book}{s:St}{k:Nat}{n:Int}:∀{m:Nat} {p:Int×Int},p∈b.lacks s k n m→∃c:Nat,c<m∧(s.cases c).state=0∧b.aN c=k∧p=((c:Int),wrap64 ((b.fee c n).1 - (s.cases c).held))
 |0,p,h=>absurd h List.not_mem_nil
 |m+1,p,h=>by
  rw[iC]at h;rcases List.mem_append.1 h with h|h
  ·obtain⟨c,h1,h2⟩:=qm h;exact⟨c,by omega,h2⟩
  ·split at h
   ·rename_i hc;exact⟨m,by omega,hc.1,hc.2,by simpa using h⟩
   ·exact absurd h List.not_mem_nil
theorem zM(b:Book)(s:St)(k:Nat)(n:Int):∀m,((b.lacks s k n m).map (·.1)).Nodup
 |0=>List.nodup_nil
 |m+1=>by
  rw[iC,List.map_append];refine List.nodup_append.2 ⟨zM b s k n m,?_,?_⟩
  ·split<;>simp
  ·intro x hx y hy e;obtain⟨p,hp,rfl⟩:=List.mem_map.1 hx;obtain⟨c,h1,-,-,rfl⟩:=qm hp;split at hy
   ·simp at hy;omega
   ·simp at hy
theorem O6:Sort.SWO ltL where
 irrefl:=λx=>IZ.irrefl x.2
 trans:=λx y z=>IZ.trans x.2 y.2 z.2
 ntrans:=λx y z=>IZ.ntrans x.2 y.2 z.2
theorem xu(xs:List (Int×Int)):xs.Perm (sortL xs):=by
 have h:=(Sort.insertionSort_holds (lt:=ltL) O6 xs.toArray 0 xs.length (Nat.zero_le _) (by simp)).1;unfold sortL;generalize Sort.insertionSort ltL xs.toArray 0 xs.length=A at *;obtain⟨h1,-,h3⟩:=h;have hz:xs.length=A.size:=by rw[h1];simp
 have e2:(xs.toArray.extract 0 xs.length)=xs.toArray:=by simp
 rw[e2,hz,Array.extract_size]at h3;exact h3.symm
def sumL(b:Book)(n:Int)(k:Nat):List Int→Int
 | []=>0
 |x::l=>(if b.aN x.toNat=k then b.lack n x.toNat else 0)+sumL b n k l
def sum2:List (Int×Int)→Int
 | []=>0
 |p::l=>p.2+sum2 l
structure PlanIs (b:Book) (n m:Nat) (cs:List Int):Prop where
 of:∀x∈cs,∃c:Nat,x=c∧c<b.cs.length∧((b.after n).cases c).state=0∧b.aN c<m
 nd:cs.Nodup
 fit:∀k,k<m→sumL b n k cs≤(b.after n).acc k
def mvOf(b:Book)(n:Int)(x:Int):Pay:=⟨2,n,b.aN x.toNat,b.lack n x.toNat,x.toNat⟩
structure MvAt (b:Book) (n:Nat) (l:List Int) (t:St):Prop where
 cs:∀c,c<b.cs.length→t.cases c=if(c:Int)∈l then⟨1,0,n,(b.fee c n).1⟩else(b.after n).cases c
 acc:∀k,t.acc k=(b.after n).acc k-sumL b n k l
def vcount(b:Book)(d:Int):List Pay→St→Nat
 | [],_=>0
 |p::L,s=>(if(p.day=d∧p.kind=2)∧¬okP p s then 1 else 0)+vcount b d L (mvsP b d s p)
end
section
open Go Go.RowKit Lift
def WG0(w0:World):Wm:=λ_ _ w=>Below w0.heap.size w0 w
theorem WG0.step{w0 w w':World}{D D':Nat→Bool}{x x':Tmp→Value}(h:WG0 w0 D x w)(hb:Below w.heap.size w w'):WG0 w0 D' x' w':=h.trans (hb.mono h.size)
end
section
open Go Go.RowKit Lift
def smP(p:Int×Int→Bool):List (Int×Int)→Int
 | []=>0
 |x::L=>(if p x=true then x.2 else 0)+smP p L
theorem kR(p:Int×Int→Bool):∀L L',smP p (L++L')=smP p L+smP p L'
 | [],L'=>by simp[smP]
 |x::L,L'=>by rw[List.cons_append,smP,kR p L L',smP];omega
def smT(t:Int)(p:Int×Int→Bool):List (Int×Int)→Int
 | []=>0
 |x::L=>(if p x=true then x.2-t else 0)+smT t p L
theorem nY{p:Int×Int→Bool}:∀{L:List (Int×Int)},(∀x∈L,0≤x.2∧x.2≤1000000)→0≤smP p L∧smP p L≤1000000 * L.length
 | [],_=>by simp[smP]
 |x::L,h=>by
  have h1:=h x (List.mem_cons_self ..);have h2:=nY (p:=p) (L:=L) λy hy=>h y (List.mem_cons_of_mem _ hy);rw[smP,aB];split<;>omega
def inL(l:List Int)(x:Int×Int):Bool:=decide (x.1∈l)
structure PvIs (cases proof:List Int) (L:List (Int×Int)) (a:Int) (i k s:Nat) (l h:Int):Prop where
 k:k=(L.take i).countP (inL cases)
 s:s=(L.take i).countP (inL proof)
 l:l=a - smP (inL cases) (L.take i)
 h:h=smP (inL proof) (L.take i)
 ok:∀j,j<i→(L.getD j (0,0)).1∈proof→(L.take j).any (fK (L.getD j (0,0)).2 proof)=false
theorem DU(L:List (Int×Int)){i:Nat}(hi:i<L.length):L.take (i+1)=L.take i++[L.getD i (0,0)]:=by
 rw[List.take_add_one,List.getElem?_eq_getElem hi];simp[List.getD_eq_getElem?_getD,List.getElem?_eq_getElem hi]
theorem pv_is{cases proof:List Int}{L:List (Int×Int)}{a:Int}(h0:∀x∈L,0≤x.2∧x.2≤1000000)(hL:L.length≤100)(a0:0≤a)(a1:a≤100000000000):∀{i:Nat},i≤L.length→∀{k s:Nat} {l h:Int},pv cases proof L a i=some (k,s,l,h)→PvIs cases proof L a i k s l h
 |0,_,k,s,l,h,e=>by
  cases e;exact⟨rfl,rfl,by simp[smP],rfl,λj hj=>absurd hj (by omega)⟩
 |i+1,hi,k,s,l,h,e=>by
  obtain⟨⟨x1,x2⟩,hx⟩:∃x,L.getD i (0,0)=x:=⟨_,rfl⟩
  cases e0:pv cases proof L a i with
  |none=>rw[OZ e0 (i+1) (by omega)]at e;cases e
  |some q=>
   obtain⟨k0,s0,l0,g0⟩:=q;have ih:=pv_is h0 hL a0 a1 (by omega) e0;rw[IE e0 hx]at e;have et:=DU L (i:=i) (by omega);rw[hx]at et;have hT:∀x∈L.take (i+1),0≤x.2∧x.2≤1000000:=λx hx=>h0 x (List.mem_of_mem_take hx);have hl:(L.take (i+1)).length≤100:=by rw[List.length_take];omega
   have b1:=nY (p:=inL cases) hT;have b2:=nY (p:=inL proof) hT;rw[et,kR,smP,smP]at b1 b2;rw[et]at hl;split at e
   ·cases e
   ·rename_i hno;simp only[Option.some.injEq,Prod.mk.injEq]at e;obtain⟨rfl,rfl,rfl,rfl⟩:=e;rw[ih.k,ih.s,ih.l,ih.h];refine⟨?_,?_,?_,?_,λj hj hp=>?_⟩
    ·rw[et,List.countP_append,List.countP_cons,List.countP_nil];simp only[inL,decide_eq_true_eq];split<;>omega
    ·rw[et,List.countP_append,List.countP_cons,List.countP_nil];simp only[inL,decide_eq_true_eq];split<;>omega
    ·rw[et,kR,smP,smP];simp only[inL,decide_eq_true_eq]at b1 ⊢;split
     ·rename_i hc;rw[if_pos hc]at b1;unfold wrap64;omega
     ·omega
    ·rw[et,kR,smP,smP];simp only[inL,decide_eq_true_eq]at b2 ⊢;split
     ·rename_i hc;rw[if_pos hc]at b2;unfold wrap64;omega
     ·omega
    ·by_cases hji:j=i
     ·subst hji;rw[hx]at hp ⊢;simp only at hp ⊢;simp only[Bool.and_eq_true,decide_eq_true_eq,not_and]at hno;simpa using hno hp
     ·exact ih.ok j (by omega) hp
structure RJ (b:Book) (n:Nat) (l:List Int):Prop where
 of:∀x∈l,∃c:Nat,x=c∧c<b.cs.length∧((b.after n).cases c).state=0
 nd:l.Nodup
def cntC(b:Book)(k:Nat)(l:List Int):Nat:=l.countP λx=>decide (b.aN x.toNat=k)
theorem FB{b:Book}{s:St}{k:Nat}{n:Int}:∀{m c:Nat},c<m→(s.cases c).state=0→b.aN c=k→((c:Int),wrap64 ((b.fee c n).1 - (s.cases c).held))∈b.lacks s k n m
 |0,c,h,_,_=>absurd h (by omega)
 |m+1,c,h,h1,h2=>by
  rw[iC];by_cases e:c=m
  ·subst e;refine List.mem_append_right _ ?_;rw[if_pos ⟨h1,h2⟩];simp
  ·exact List.mem_append_left _ (FB (by omega) h1 h2)
structure ShortIs (b:Book) (n c:Nat) (S:List (Int×Int)):Prop where
 of:∀p∈S,∃j:Nat,j<b.cs.length∧((b.after n).cases j).state=0∧b.aN j=c∧p=((j:Int),b.lack n j)
 all:∀j,j<b.cs.length→((b.after n).cases j).state=0→b.aN j=c→((j:Int),b.lack n j)∈S
 nd:(S.map (·.1)).Nodup
 le:∀x∈S,0≤x.2∧x.2≤1000000
 few:S.length≤100
 up:∀i j,i<j→j<S.length→(S.getD i (0,0)).2≤(S.getD j (0,0)).2
theorem UZ(xs:List (Int×Int)):∀i j,i<j→j<(sortL xs).length→((sortL xs).getD i (0,0)).2≤((sortL xs).getD j (0,0)).2:=by
 have h:=(Sort.insertionSort_holds (lt:=ltL) O6 xs.toArray 0 xs.length (Nat.zero_le _) (by simp)).2;have hz:=fF xs;unfold sortL at *;generalize Sort.insertionSort ltL xs.toArray 0 xs.length=A at *;intro i j hij hj;have hj':j<A.size:=by simpa using hj
 have hi':i<A.size:=by omega
 have:=h i j (Nat.zero_le _) hij (by rw[Array.length_toList]at hz;omega);rw[getElem!_pos A i hi',getElem!_pos A j hj']at this;have h2:ltI A[j].2 A[i].2=false:=this;rw[Ig,decide_eq_false_iff_not]at h2;have ei:A.toList.getD i (0,0)=A[i]:=by simp[List.getD_eq_getElem?_getD,hi']
 have ej:A.toList.getD j (0,0)=A[j]:=by simp[List.getD_eq_getElem?_getD,hj']
 rw[ei,ej];omega
theorem KR{b:Book}(hv:Valid b)(n c:Nat):ShortIs b n c (b.short (b.after n) n c):=by
 have hperm:=xu (b.lacks (b.after n) c n b.cs.length);have hof:∀p∈b.short (b.after n) n c,∃j:Nat,j<b.cs.length∧((b.after n).cases j).state=0∧b.aN j=c∧p=((j:Int),b.lack n j):=λp hp=>by
  obtain⟨j,h1,h2,h3,h4⟩:=qm (hperm.mem_iff.2 hp);exact⟨j,h1,h2,h3,by rw[h4,(oL hv h1 h2).2.2.2]⟩
 refine⟨hof,λj h1 h2 h3=>?_,(hperm.map (·.1)).nodup_iff.1 (zM b _ c n _),λp hp=>?_,?_,UZ _⟩
 ·have:=FB (n:=(n:Int)) h1 h2 h3;rw[(oL hv h1 h2).2.2.2]at this;exact hperm.mem_iff.1 this
 ·obtain⟨j,h1,h2,-,rfl⟩:=hof p hp;have:=oL hv h1 h2;simp only;omega
 ·have:=kJ b (b.after n) n c;have:=hv.nk;omega
structure MostAre (b:Book) (n:Nat) (L P:List Int):Prop where
 op:RJ b n L
 pr:b.proves (b.after n) n L P=true
 best:∀l,RJ b n l→∀k,k<b.aJ.length→sumL b n k l≤(b.after n).acc k→cntC b k l≤cntC b k L
 len:∀l p,RJ b n l→b.proves (b.after n) n l p=true→l.length=L.length
end
section
open Go Go.RowKit Lift
theorem Px{o:Oper}{a:Act}{w:World}{K:Act→World→Prop}{Q:Exit→Act→World→Prop}{t:Tmp}{y:Int}(hop:o.op=.buildSlice 44 1 #[(0,.tmp t)])(hs:a.eval (.tmp t)=.int .i64 y)(h:K (a.put o.dst (.slice (some ⟨w.heap.size,0,none⟩) 1 1)) (w.alloc (.cells #[.int .i64 y] 3))):o.wpIn Fz 0 Tryz.prog a w K Q:=by
 obtain⟨d,op,ty,ps,af,gd⟩:=o;simp only at hop h;subst hop;have hs':a.tmps[t]?.getD undef=.int .i64 y:=by
  rw[← aH];exact hs
 clear hs;gi_wp2
 all_goals exact h
structure WM (ib ia iv iA iB:Nat) (sb sa sv:Tmp) (NV N0:Nat) (w0:World) (BM BS BB:Nat) (ms ms' ss ss' bs:Array Value) (v v2:Value) (xs ys:List Int) (c:Int) (D:Nat→Bool) (x:Tmp→Value) (w:World):Prop where
 bel:Below NV w0 w
 m:Blk w BM 3 (if D iA=true then ms' else ms)
 s:Blk w BS 3 (if D iB=true then ss' else ss)
 b:Blk w BB 3 bs
 op:w.ownsRow N0 3 1 v2 ys.length (ints ys)
 ov:D ia=false→w.ownsRow N0 3 1 v xs.length (ints xs)
 ob:D ib=true→∃g,x sb=.slice (some ⟨g,0,none⟩) 1 1∧(D ia=false→N0≤g∧Blk w g 3 #[.int .i64 c])
 oa:D ia=true→w.ownsRow N0 3 1 (x sa) (xs.length+1) (ints (xs++[c]))∧((x sa).ownBlock=v.ownBlock∨∃g,(x sa).ownBlock=some g∧∀k,v2.ownBlock=some k→k≠g)
 ev:D iv=true→x sv=x sa∧D ia=true
 e0:D iv=false→x sv=v
section
variable {ib ia iv iA iB:Nat} {sb sa sv:Tmp} {NV N0:Nat} {w0 w w':World} {BM BS BB:Nat} {ms ms' ss ss' bs:Array Value} {v v2:Value} {xs ys:List Int} {c:Int} {D:Nat→Bool} {x:Tmp→Value}
theorem WM.start{x0:Tmp→Value}(hm:Blk w0 BM 3 ms)(hs:Blk w0 BS 3 ss)(hb:Blk w0 BB 3 bs)(ho:w0.ownsRow N0 3 1 v2 ys.length (ints ys))(hv:w0.ownsRow N0 3 1 v xs.length (ints xs))(hx:x0 sv=v) :
  WM ib ia iv iA iB sb sa sv NV N0 w0 BM BS BB ms ms' ss ss' bs v v2 xs ys c (λ_=>false) x0 { w0 with drawn:=w0.drawn+1 }:=
 ⟨⟨rfl,rfl,rfl,ay _,λ_ _=>rfl⟩,by rw[if_neg Bool.false_ne_true];exact hm,by rw[if_neg Bool.false_ne_true];exact hs,hb,ho,λ_=>hv,λh=>by(cases h),λh=>by(cases h),λh=>by(cases h),λ_=>hx⟩
theorem WM.pure(h:WM ib ia iv iA iB sb sa sv NV N0 w0 BM BS BB ms ms' ss ss' bs v v2 xs ys c D x w){i:Nat}(hi:i∉[ib,ia,iv,iA,iB]):WM ib ia iv iA iB sb sa sv NV N0 w0 BM BS BB ms ms' ss ss' bs v v2 xs ys c (aQ D i) x w:=by
 simp only[List.mem_cons,List.not_mem_nil,or_false,not_or]at hi;obtain⟨h1,h2,h3,h4,h5⟩:=hi;have e1:=aT (D:=D) (Ne.symm h1);have e2:=aT (D:=D) (Ne.symm h2);have e3:=aT (D:=D) (Ne.symm h3);have e4:=aT (D:=D) (Ne.symm h4);have e5:=aT (D:=D) (Ne.symm h5);exact⟨h.bel,by rw[e4];exact h.m,by rw[e5];exact h.s,h.b,h.op,by rw[e2];exact h.ov,by rw[e1,e2];exact h.ob,by rw[e2];exact h.oa,by rw[e3,e2];exact h.ev,by rw[e3];exact h.e0⟩
theorem WM.build(hok:[ib,ia,iv,iA,iB].Nodup∧[sb,sa,sv].Nodup)(hN:NV≤w0.heap.size)(hN0:N0≤w0.heap.size)(h:WM ib ia iv iA iB sb sa sv NV N0 w0 BM BS BB ms ms' ss ss' bs v v2 xs ys c D x w)(da:D ia=false) :
  WM ib ia iv iA iB sb sa sv NV N0 w0 BM BS BB ms ms' ss ss' bs v v2 xs ys c (aQ D ib) (iU x sb (.slice (some ⟨w.heap.size,0,none⟩) 1 1)) (w.alloc (.cells #[.int .i64 c] 3)):=by
 obtain⟨hi,hs⟩:=hok;simp only[List.nodup_cons,List.mem_cons,List.not_mem_nil,or_false,not_or,List.nodup_nil,and_true,not_false_eq_true]at hi hs;have ea:aQ D ib ia=D ia:=aT (Ne.symm hi.1.1);have ev:aQ D ib iv=D iv:=aT (Ne.symm hi.1.2.1);have eA:aQ D ib iA=D iA:=aT (Ne.symm hi.1.2.2.1);have eB:aQ D ib iB=D iB:=aT (Ne.symm hi.1.2.2.2);have hbl:Below w.heap.size w (w.alloc (.cells #[.int .i64 c] 3)):=(Below.refl _ w).alloc (ay _) _;have hsz:=h.bel.size;refine⟨h.bel.alloc (by omega) _,by rw[eA];exact h.m.below hbl,by rw[eB];exact h.s.below hbl,h.b.below hbl,h.op.alloc _,λq=>(h.ov (ea▸q)).alloc _,λ_=>⟨_,eH,λ_=>⟨by omega,Blk.new w _ _⟩⟩,λq=>nof (ea.trans da) q,λq=>?_,λq=>?_⟩
 ·rw[ev]at q;exact nof da (h.ev q).2
 ·rw[ev]at q;rw[dN (Ne.symm hs.1.2)];exact h.e0 q
theorem WM.app(hok:[ib,ia,iv,iA,iB].Nodup∧[sb,sa,sv].Nodup)(hN:NV≤N0)(hlt:BM<N0∧BS<N0∧BB<N0)(hN0:N0≤w0.heap.size)(hne:∀g,v.ownBlock=some g→v2.ownBlock≠some g)(h:WM ib ia iv iA iB sb sa sv NV N0 w0 BM BS BB ms ms' ss ss' bs v v2 xs ys c D x w)(da:D ia=false)
  {u:Value} (hown:w'.ownsRow N0 3 1 u (xs.length+1) (ints (xs++[c]))) (hg:w.grownBy w' v.ownBlock) (hat:u.ownBlock=v.ownBlock∨u.ownBlock=some w.heap.size) :
  WM ib ia iv iA iB sb sa sv NV N0 w0 BM BS BB ms ms' ss ss' bs v v2 xs ys c (aQ D ia) (iU x sa u) w':=by
 obtain⟨hi,hs⟩:=hok;simp only[List.nodup_cons,List.mem_cons,List.not_mem_nil,or_false,not_or,List.nodup_nil,and_true,not_false_eq_true]at hi hs;have eb:aQ D ia ib=D ib:=aT hi.1.1;have ev:aQ D ia iv=D iv:=aT (Ne.symm hi.2.1.1);have eA:aQ D ia iA=D iA:=aT (Ne.symm hi.2.1.2.1);have eB:aQ D ia iB=D iB:=aT (Ne.symm hi.2.1.2.2);have hsz:=h.bel.size;have hv:=h.ov da;have hge:∀k,v.ownBlock=some k→N0≤k:=λk e=>(mD hv k e)
 have st:∀{B:Nat} {ty:TypeId} {cs:Array Value},B<N0→Blk w B ty cs→Blk w' B ty cs:=λ{B ty cs} hB hb=>(hg.block B hb.lt λe=>by have:=hge B e.symm;omega).trans hb;have hbw:Below NV w w':=(eY hv hg (by omega)).mono hN;refine⟨h.bel.trans hbw,by rw[eA];exact st hlt.1 h.m,by rw[eB];exact st hlt.2.1 h.s,st hlt.2.2 h.b,?_,λq=>nof q bJ,λq=>?_,λ_=>⟨by rw[eH];exact hown,?_⟩,λq=>?_,λq=>?_⟩
 ·exact eu h.op λg o hg' ho=>(hg.block g (Array.getElem?_eq_some_iff.1 ho).1 λe=>hne g e.symm hg').trans ho
 ·rw[eb]at q;obtain⟨g,e,-⟩:=h.ob q;exact⟨g,by rw[dN hs.1.1];exact e,λq=>nof q bJ⟩
 ·rw[eH];refine hat.imp id λe=>⟨_,e,λk hk=>?_⟩
  have:=(h.op.lt k hk).2;omega
 ·rw[ev]at q;exact nof da (h.ev q).2
 ·rw[ev]at q;rw[dN (Ne.symm hs.2)];exact h.e0 q
theorem WM.move(hok:[ib,ia,iv,iA,iB].Nodup∧[sb,sa,sv].Nodup)(h:WM ib ia iv iA iB sb sa sv NV N0 w0 BM BS BB ms ms' ss ss' bs v v2 xs ys c D x w)(da:D ia=true) :
  WM ib ia iv iA iB sb sa sv NV N0 w0 BM BS BB ms ms' ss ss' bs v v2 xs ys c (aQ D iv) (iU x sv (x sa)) w:=by
 obtain⟨hi,hs⟩:=hok;simp only[List.nodup_cons,List.mem_cons,List.not_mem_nil,or_false,not_or,List.nodup_nil,and_true,not_false_eq_true]at hi hs;have eb:aQ D iv ib=D ib:=aT hi.1.2.1;have ea:aQ D iv ia=D ia:=aT hi.2.1.1;have eA:aQ D iv iA=D iA:=aT (Ne.symm hi.2.2.1.1);have eB:aQ D iv iB=D iB:=aT (Ne.symm hi.2.2.1.2);refine⟨h.bel,by rw[eA];exact h.m,by rw[eB];exact h.s,h.b,h.op,λq=>nof (ea.symm.trans q) da,λq=>?_,λ_=>?_,λ_=>⟨?_,ea.trans da⟩,λq=>nof q bJ⟩
 ·rw[eb]at q;obtain⟨g,e,-⟩:=h.ob q;exact⟨g,by rw[dN hs.1.2];exact e,λq=>nof (ea.symm.trans q) da⟩
 ·rw[dN hs.2];exact h.oa da
 ·rw[eH,dN hs.2]
end
structure W3 (i1 i2 i3:Nat) (s1 s2 s3:Tmp) (w0:World) (n:Nat) (D:Nat→Bool) (x:Tmp→Value) (w:World):Prop where
 bel:Below w0.heap.size w0 w
 a1:D i1=true→∃g,x s1=.slice (some ⟨g,0,none⟩) n n∧w0.heap.size≤g∧Blk w g 3 (nums (λ_=>0) n)
 a2:D i2=true→∃g,x s2=.slice (some ⟨g,0,none⟩) n n∧w0.heap.size≤g∧Blk w g 3 (nums (λ_=>0) n)
 a3:D i3=true→∃g,x s3=.slice (some ⟨g,0,none⟩) n n∧w0.heap.size≤g∧Blk w g 3 (nums (λ_=>0) n)
 n12:D i1=true→D i2=true→x s1≠x s2
 n13:D i1=true→D i3=true→x s1≠x s3
 n23:D i2=true→D i3=true→x s2≠x s3
section
variable {i1 i2 i3:Nat} {s1 s2 s3:Tmp} {w0 w w':World} {n:Nat} {D:Nat→Bool} {x:Tmp→Value}
theorem W3.start{x0:Tmp→Value}:W3 i1 i2 i3 s1 s2 s3 w0 n (λ_=>false) x0 { w0 with drawn:=w0.drawn+1 }:=
 ⟨⟨rfl,rfl,rfl,ay _,λ_ _=>rfl⟩,λh=>by(cases h),λh=>by(cases h),λh=>by(cases h),λh=>by(cases h),λh=>by(cases h),λh=>by(cases h)⟩
theorem W3.pure(h:W3 i1 i2 i3 s1 s2 s3 w0 n D x w){i:Nat}(hi:i∉[i1,i2,i3]):W3 i1 i2 i3 s1 s2 s3 w0 n (aQ D i) x w:=by
 simp only[List.mem_cons,List.not_mem_nil,or_false,not_or]at hi;obtain⟨h1,h2,h3⟩:=hi;have e1:=aT (D:=D) (Ne.symm h1);have e2:=aT (D:=D) (Ne.symm h2);have e3:=aT (D:=D) (Ne.symm h3);exact⟨h.bel,by rw[e1];exact h.a1,by rw[e2];exact h.a2,by rw[e3];exact h.a3,by rw[e1,e2];exact h.n12,by rw[e1,e3];exact h.n13,by rw[e2,e3];exact h.n23⟩
theorem W3.turn(h:W3 i1 i2 i3 s1 s2 s3 w0 n D x w):W3 i2 i3 i1 s2 s3 s1 w0 n D x w:=⟨h.bel,h.a2,h.a3,h.a1,h.n23,λp q e=>h.n12 q p e.symm,λp q e=>h.n13 q p e.symm⟩
end
def jJ(i j:Nat)(s t:Tmp)(D:Nat→Bool)(x:Tmp→Value):Prop:=D j=true→x t=x s∧D i=true
section
variable {i j k:Nat} {s t g:Tmp} {D:Nat→Bool} {x:Tmp→Value}
theorem jJ.start{x0:Tmp→Value}:jJ i j s t (λ_=>false) x0:=λh=>by cases h
theorem jJ.pure(h:jJ i j s t D x)(hk:k∉[i,j]):jJ i j s t (aQ D k) x:=by
 simp only[List.mem_cons,List.not_mem_nil,or_false,not_or]at hk;unfold jJ;rw[aT (Ne.symm hk.1),aT (Ne.symm hk.2)];exact h
theorem jJ.put(h:jJ i j s t D x)(hk:k∉[i,j])(hg:g∉[s,t]){u:Value}:jJ i j s t (aQ D k) (iU x g u):=by
 simp only[List.mem_cons,List.not_mem_nil,or_false,not_or]at hk hg;unfold jJ;rw[aT (Ne.symm hk.1),aT (Ne.symm hk.2),dN (Ne.symm hg.1),dN (Ne.symm hg.2)];exact h
theorem jJ.make(h:jJ i j s t D x)(hij:i≠j)(hd:D i=false){u:Value}:jJ i j s t (aQ D i) (iU x s u):=λq=>by
 rw[aT (Ne.symm hij)]at q;exact nof hd (h q).2
theorem jJ.copy(hij:i≠j)(hst:s≠t)(hd:D i=true):jJ i j s t (aQ D j) (iU x t (x s)):=λ_=>⟨by rw[eH,dN hst],by rw[aT hij];exact hd⟩
end
theorem W3.slots{i1 i2 i3:Nat}{s1 s2 s3:Tmp}{w0 w:World}{n:Nat}{D D':Nat→Bool}{x x':Tmp→Value}(h:W3 i1 i2 i3 s1 s2 s3 w0 n D x w)(e1:D' i1=D i1)(e2:D' i2=D i2)(e3:D' i3=D i3)(f1:x' s1=x s1)(f2:x' s2=x s2)(f3:x' s3=x s3):W3 i1 i2 i3 s1 s2 s3 w0 n D' x' w:=
 ⟨h.bel,by rw[e1,f1];exact h.a1,by rw[e2,f2];exact h.a2,by rw[e3,f3];exact h.a3,by rw[e1,e2,f1,f2];exact h.n12,by rw[e1,e3,f1,f3];exact h.n13,by rw[e2,e3,f2,f3];exact h.n23⟩
def selL(f:Nat→Bool)(m:Nat):List Int:=((List.range m).filter f).map λc:Nat=>(c:Int)
end
