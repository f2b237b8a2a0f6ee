/- Columns that grow side by side, whatever order a region draws. -/
import Derived.Test.YtnkejaohnhpbpaaGreatDoorA64
import Derived.Test.YtnkejaohnhpbpaaGreatDoorA76
set_option linter.all false
namespace Go.Proofs.YtnkejaohnhpbpaaGreatDoor
section
open Go Go.RowKit Lift
def pk:List (Tmp×Value)→Tmp→Value
 | [],_=>undef
 |p::l,t=>if t=p.1 then p.2 else pk l t
theorem gl8{P:Tmp→Prop}{a b c d e f g h:Tmp}(h1:P a)(h2:P b)(h3:P c)(h4:P d)(h5:P e)(h6:P f)(h7:P g)(h8:P h):∀x∈[a,b,c,d,e,f,g,h],P x:=λx hx=>by
 simp only[List.mem_cons,List.not_mem_nil,or_false]at hx;rcases hx with rfl|rfl|rfl|rfl|rfl|rfl|rfl|rfl<;>assumption
theorem gl6{P:Tmp→Prop}{a b c d e f:Tmp}(h1:P a)(h2:P b)(h3:P c)(h4:P d)(h5:P e)(h6:P f):∀x∈[a,b,c,d,e,f],P x:=λx hx=>by
 simp only[List.mem_cons,List.not_mem_nil,or_false]at hx;rcases hx with rfl|rfl|rfl|rfl|rfl|rfl<;>assumption
def zs(n:Nat):List Value:=List.replicate n (.int .i64 0)
theorem zs_succ(n:Nat):zs n++[.int .i64 0]=zs (n+1):=by unfold zs;rw[List.replicate_succ']
def rO(f:Nat→Value):Array Value:=#[f 0,f 1,f 2,f 3,f 4,f 5,f 6,f 7]
theorem fC(f:Nat→Value){i:Nat}(h:i<8):(rO f)[i]?=some (f i):=by
 rcases(show i=0∨i=1∨i=2∨i=3∨i=4∨i=5∨i=6∨i=7 by omega)with rfl|rfl|rfl|rfl|rfl|rfl|rfl|rfl<;>rfl
theorem Rf(f g:Nat→Value){i:Nat}(h:i<8){v:Value}(e:∀j,j<8→g j=if j=i then v else f j):(rO f).setIfInBounds i v=rO g:=by
 unfold rO;rw[e 0 (by omega),e 1 (by omega),e 2 (by omega),e 3 (by omega),e 4 (by omega),e 5 (by omega),e 6 (by omega),e 7 (by omega)];rcases(show i=0∨i=1∨i=2∨i=3∨i=4∨i=5∨i=6∨i=7 by omega)with rfl|rfl|rfl|rfl|rfl|rfl|rfl|rfl<;>rfl
theorem jg{F:Fence}{n:Nat}{w:World}{o:Oper}{a:Act}{K:Act→World→Prop}{Q:Exit→Act→World→Prop}(t e:TypeId)(s x:Operand)(hop:o.op=.call { callee:=.builtin .append,args:=#[s,x],argTypes:=#[t,t] })
  (ht:Tryz.prog.underlying t=some (.slice e)) (hinfo:(Tryz.prog.info? e).map (λi=>(i.zero,i.size,i.bytes))=some (some (.int .i64 0),1,8))
  {base k q:Nat} {v:Value} (hs:a.eval s=v) (hown:w.ownsRow base e 1 v k (zs k)) (hx:a.eval x=.slice (some ⟨q,0,none⟩) 1 1) (hq:w.cell? ⟨q,0,none⟩=some (.int .i64 0)) (hk:k+1≤1000000) (hb:base≤w.heap.size)
  (hK:∀v' w',w'.ownsRow base e 1 v' (k+1) (zs (k+1))→w.grownBy w' v.ownBlock→(v'.ownBlock=v.ownBlock∨v'.ownBlock=some w.heap.size)→K (a.put o.dst v') w'):o.wpIn F n Tryz.prog a w K Q:=by
 obtain⟨i0,hi0,hz0,hz1,hz2⟩:=info_parts hinfo;obtain⟨v',w',hrun,r1,r2,r3,r4⟩:=run_append_own_at (P:=Tryz.prog) w base t o.type e i0 _ 1 8 ht hi0 hz0 hz1 hz2 rfl (by decide) v k _ hown ⟨q,0,none⟩ 1 1 [.int .i64 0] rfl (λj u h=>by
  have hj:j=0:=by have:=(List.getElem?_eq_some_iff.1 h).1;simp at this;omega
  subst hj;cases h;exact hq) (λu h=>by simp only[List.mem_singleton]at h;subst h;rfl) (by unfold maxLen;omega) (by omega) hb
 rw[zs_succ]at r1;unfold Oper.wpIn;refine⟨?_,?_⟩
 ·simp[Oper.about,hop,resolve,Target.leads,Sem.run_pure]
 ·rw[Oper.semAt_plain F _ _ (by rw[hop];intro c hc';cases hc')];simp[execOp,hop,resolve,invoke,builtin,hs,hx,hrun,Result.andThen];exact hK v' w' r1 r2 r4
theorem LX{o:Oper}{a:Act}{w:World}{K:Act→World→Prop}{Q:Exit→Act→World→Prop}(hop:o.op=.buildSlice 99 1 #[(0,.const (.int .i64 0))])(h:K (a.put o.dst (.slice (some ⟨w.heap.size,0,none⟩) 1 1)) (w.alloc (.cells #[.int .i64 0] 34))):o.wpIn Fz 0 Tryz.prog a w K Q:=by
 obtain⟨d,op,ty,ps,af,gd⟩:=o;simp only at hop h;subst hop;gi_wp2
 all_goals exact h
theorem kM{o:Oper}{a:Act}{w:World}{K:Act→World→Prop}{Q:Exit→Act→World→Prop}(hop:o.op=.buildSlice 44 1 #[(0,.const (.int .i64 0))])(h:K (a.put o.dst (.slice (some ⟨w.heap.size,0,none⟩) 1 1)) (w.alloc (.cells #[.int .i64 0] 3))):o.wpIn Fz 0 Tryz.prog a w K Q:=by
 obtain⟨d,op,ty,ps,af,gd⟩:=o;simp only at hop h;subst hop;gi_wp2
 all_goals exact h
structure kX (T:Nat) (c:Nat→Value) (n:Nat→Nat) (w:World):Prop where
 row:∀i,i<7→w.ownsRow (T+1) (cty i) 1 (c i) (n i) (zs (n i))
 SY:∀i j,i<7→j<7→i≠j→∀q,(c i).ownBlock=some q→(c j).ownBlock≠some q
theorem kE{w:World}{N n size:Nat}{e:TypeId}{v:Value}{xs:List Value}(h:w.ownsRow N e size v n xs){q:Nat}(hq:v.ownBlock=some q):N≤q∧q<w.heap.size:=by
 rcases h.2 with⟨rfl,_⟩|⟨g,cap,cur,rfl,h1,h2,_⟩
 ·cases hq
 ·cases hq;exact⟨h1,(Array.getElem?_eq_some_iff.1 h2).1⟩
theorem Dw{w w':World}{N n size:Nat}{e:TypeId}{v u:Value}{xs:List Value}(h:w.ownsRow N e size v n xs)(hg:w.grownBy w' u.ownBlock)(hne:∀q,v.ownBlock=some q→u.ownBlock≠some q):w'.ownsRow N e size v n xs:=
 eu h λg o hv hh=>(hg.block g (Array.getElem?_eq_some_iff.1 hh).1 (Ne.symm (hne g hv))).trans hh
section
variable {T:Nat} {c:Nat→Value} {n:Nat→Nat} {w w':World}
theorem kX.below(h:kX T c n w)(hb:Below w.heap.size w w'):kX T c n w':=⟨λi hi=>cZ (h.row i hi) hb,h.SY⟩
end
structure Ln where
 m:Nat
 f0:Nat
 sb0:Nat
 JK:Nat
def Ln.in(L:Ln)(i:Nat):Prop:=L.f0≤i∧i<L.f0+L.m
instance (L:Ln) (i:Nat):Decidable (L.in i):=by unfold Ln.in;exact inferInstance
def Ln.cur(L:Ln)(c:Nat→Value)(D:Nat→Bool)(x:Tmp→Value)(i:Nat):Value:=if L.in i∧D (4 * (i-L.f0)+3)=true then x (L.sb0+4 * (i-L.f0)+1)else c i
def Ln.len(L:Ln)(n:Nat→Nat)(D:Nat→Bool)(i:Nat):Nat:=if L.in i∧D (4 * (i-L.f0)+3)=true then n i+1 else n i
def Ln.fld(L:Ln)(c:Nat→Value)(D:Nat→Bool)(x:Tmp→Value)(i:Nat):Value:=if L.in i∧D (L.JK+2 * (i-L.f0))=true then x (L.sb0+4 * (i-L.f0)+1)else c i
structure Ln.Ok (L:Ln):Prop where
 f:L.f0+L.m≤7
 s:L.JK=4 * L.m+1
structure WL (L:Ln) (T:Nat) (n:Nat→Nat) (c:Nat→Value) (w0:World) (D:Nat→Bool) (x:Tmp→Value) (w:World):Prop where
 bel:Below T w0 w
 blk:Blk w T 102 (rO (L.fld c D x))
 row:kX T (L.cur c D x) (L.len n D) w
 lit:∀j,j<L.m→D (4 * j+2)=true→D (4 * j+3)=false→∃q,x (L.sb0+4 * j)=.slice (some ⟨q,0,none⟩) 1 1∧T<q∧q<w.heap.size∧w.cell? ⟨q,0,none⟩=some (.int .i64 0)∧∀i,i<7→(L.cur c D x i).ownBlock≠some q
section
variable {L:Ln} {T:Nat} {n:Nat→Nat} {c:Nat→Value} {w0 w w':World} {D:Nat→Bool} {x:Tmp→Value}
theorem WL.start{x0:Tmp→Value}(hT:T<w0.heap.size)(hb:Blk w0 T 102 (rO c))(h:kX T c n w0):WL L T n c w0 (λ_=>false) x0 { w0 with drawn:=w0.drawn+1 }:=by
 have e1:L.cur c (λ_=>false) x0=c:=by funext i;simp[Ln.cur]
 have e2:L.len n (λ_=>false)=n:=by funext i;simp[Ln.len]
 have e3:L.fld c (λ_=>false) x0=c:=by funext i;simp[Ln.fld]
 exact⟨⟨rfl,rfl,rfl,ay _,λ_ _=>rfl⟩,by rw[e3];exact hb,by rw[e1,e2];exact h.below ⟨rfl,rfl,rfl,ay _,λ_ _=>rfl⟩,λj _ h=>by cases h⟩
theorem L8{D':Nat→Bool}{x':Tmp→Value}(e:∀i,L.in i→D' (4 * (i-L.f0)+3)=D (4 * (i-L.f0)+3))(f:∀i,L.in i→D (4 * (i-L.f0)+3)=true→x' (L.sb0+4 * (i-L.f0)+1)=x (L.sb0+4 * (i-L.f0)+1)):L.cur c D' x'=L.cur c D x:=by
 funext i
 unfold Ln.cur;by_cases h:L.in i
 ·rw[e i h];by_cases q:D (4 * (i - L.f0)+3)=true
  ·rw[if_pos ⟨h,q⟩,if_pos ⟨h,q⟩,f i h q]
  ·rw[if_neg λz=>q z.2,if_neg λz=>q z.2]
 ·rw[if_neg λz=>h z.1,if_neg λz=>h z.1]
theorem len_eq{D':Nat→Bool}(e:∀i,L.in i→D' (4 * (i-L.f0)+3)=D (4 * (i-L.f0)+3)):L.len n D'=L.len n D:=by
 funext i
 unfold Ln.len;by_cases h:L.in i
 ·rw[e i h]
 ·rw[if_neg λz=>h z.1,if_neg λz=>h z.1]
theorem MQ{D':Nat→Bool}{x':Tmp→Value}(e:∀i,L.in i→D' (L.JK+2 * (i-L.f0))=D (L.JK+2 * (i-L.f0)))(f:∀i,L.in i→D (L.JK+2 * (i-L.f0))=true→x' (L.sb0+4 * (i-L.f0)+1)=x (L.sb0+4 * (i-L.f0)+1)):L.fld c D' x'=L.fld c D x:=by
 funext i
 unfold Ln.fld;by_cases h:L.in i
 ·rw[e i h];by_cases q:D (L.JK+2 * (i - L.f0))=true
  ·rw[if_pos ⟨h,q⟩,if_pos ⟨h,q⟩,f i h q]
  ·rw[if_neg λz=>q z.2,if_neg λz=>q z.2]
 ·rw[if_neg λz=>h z.1,if_neg λz=>h z.1]
theorem fU{D:Nat→Bool}{i k:Nat}(h:k≠i):aQ D i k=D k:=by simp[aQ,h]
theorem WL.pure(h:WL L T n c w0 D x w){i:Nat}(hi:∀j,j<L.m→i≠4 * j+2∧i≠4 * j+3∧i≠L.JK+2 * j):WL L T n c w0 (aQ D i) x w:=by
 have e1:∀k,L.in k→aQ D i (4 * (k-L.f0)+3)=D (4 * (k-L.f0)+3):=λk hk=>fU (Ne.symm (hi (k-L.f0) (by unfold Ln.in at hk;omega)).2.1);have e2:∀k,L.in k→aQ D i (L.JK+2 * (k-L.f0))=D (L.JK+2 * (k-L.f0)):=λk hk=>fU (Ne.symm (hi (k-L.f0) (by unfold Ln.in at hk;omega)).2.2);have hc:L.cur c (aQ D i) x=L.cur c D x:=L8 e1 λ_ _ _=>rfl;refine⟨h.bel,by rw[MQ e2 λ_ _ _=>rfl];exact h.blk,by rw[hc,len_eq e1];exact h.row,λj hj h1 h2=>?_⟩;rw[fU (Ne.symm (hi j hj).1)]at h1;rw[fU (Ne.symm (hi j hj).2.1)]at h2;rw[hc];exact h.lit j hj h1 h2
theorem uU{x:Tmp→Value}{g k:Nat}{u:Value}(h:k≠g):iU x g u k=x k:=if_neg h
theorem WL.build(hL:L.Ok)(h:WL L T n c w0 D x w)(hT:T<w.heap.size){j:Nat}(hj:j<L.m){e:TypeId}:WL L T n c w0 (aQ D (4 * j+2)) (iU x (L.sb0+4 * j) (.slice (some ⟨w.heap.size,0,none⟩) 1 1)) (w.alloc (.cells #[.int .i64 0] e)):=by
 have hs:=hL.s;have e1:∀k,L.in k→aQ D (4 * j+2) (4 * (k-L.f0)+3)=D (4 * (k-L.f0)+3):=λk hk=>fU (by omega);have e2:∀k,L.in k→aQ D (4 * j+2) (L.JK+2 * (k-L.f0))=D (L.JK+2 * (k-L.f0)):=λk hk=>fU (by omega);have hc:L.cur c (aQ D (4 * j+2)) (iU x (L.sb0+4 * j) (.slice (some ⟨w.heap.size,0,none⟩) 1 1))=L.cur c D x:=L8 e1 λi hi _=>uU (by omega);have hb:=(Below.refl w.heap.size w).alloc (ay _) (.cells #[.int .i64 0] e);refine⟨h.bel.trans (hb.mono (Nat.le_of_lt hT)),?_,?_,λj' hj' h1 h2=>?_⟩
 ·rw[MQ e2 λi hi _=>uU (by omega)];exact h.blk.below hb
 ·rw[hc,len_eq e1];exact h.row.below hb
 ·rw[hc];by_cases q:j'=j
  ·subst q;refine⟨w.heap.size,if_pos rfl,hT,by simp,?_,λi hi z=>?_⟩
   ·rw[World.cell?_alloc_at _ _ _ _ rfl];rfl
   ·have:=(kE (h.row.row i hi) z).2;omega
  ·rw[fU (by omega)]at h1 h2;obtain⟨q',a1,a2,a3,a4,a5⟩:=h.lit j' hj' h1 h2;refine⟨q',by rw[uU (by omega)];exact a1,a2,by simp;omega,(hb.cell (p:=⟨q',0,none⟩) a3).trans a4,a5⟩
theorem WL.app(hL:L.Ok)(h:WL L T n c w0 D x w)(hT:T<w.heap.size)(hT0:T<w0.heap.size){j:Nat}(hj:j<L.m)(da:D (4 * j+3)=false)(ds:D (L.JK+2 * j)=false){u:Value}
  (hown:w'.ownsRow (T+1) (cty (L.f0+j)) 1 u (n (L.f0+j)+1) (zs (n (L.f0+j)+1))) (hg:w.grownBy w' (c (L.f0+j)).ownBlock) (hat:u.ownBlock=(c (L.f0+j)).ownBlock∨u.ownBlock=some w.heap.size) :
  WL L T n c w0 (aQ D (4 * j+3)) (iU x (L.sb0+4 * j+1) u) w':=by
 have hs:=hL.s;have hf:=hL.f;have hin:L.in (L.f0+j):=by unfold Ln.in;omega
 have hjj:L.f0+j-L.f0=j:=by omega
 have hcj:L.cur c D x (L.f0+j)=c (L.f0+j):=by unfold Ln.cur;rw[if_neg];rw[hjj,da];exact λz=>absurd z.2 (by decide)
 have hrj:=h.row.row (L.f0+j) (by omega);rw[hcj]at hrj;have hbel:Below (T+1) w w':=eY hrj hg (by omega);have hcn:∀i,i≠L.f0+j→L.cur c (aQ D (4 * j+3)) (iU x (L.sb0+4 * j+1) u) i=L.cur c D x i:=λi hi=>by
  unfold Ln.cur;by_cases q:L.in i
  ·have:i-L.f0≠j:=by unfold Ln.in at q;omega
   rw[fU (show 4 * (i-L.f0)+3≠4 * j+3 by omega),uU (show L.sb0+4 * (i-L.f0)+1≠L.sb0+4 * j+1 by omega)]
  ·rw[if_neg λz=>q z.1,if_neg λz=>q z.1]
 have hcs:L.cur c (aQ D (4 * j+3)) (iU x (L.sb0+4 * j+1) u) (L.f0+j)=u:=by
  unfold Ln.cur;rw[hjj,if_pos ⟨hin,bJ⟩];exact if_pos rfl
 have hln:∀i,i≠L.f0+j→L.len n (aQ D (4 * j+3)) i=L.len n D i:=λi hi=>by
  unfold Ln.len;by_cases q:L.in i
  ·have:i-L.f0≠j:=by unfold Ln.in at q;omega
   rw[fU (show 4 * (i-L.f0)+3≠4 * j+3 by omega)]
  ·rw[if_neg λz=>q z.1,if_neg λz=>q z.1]
 have hls:L.len n (aQ D (4 * j+3)) (L.f0+j)=n (L.f0+j)+1:=by
  unfold Ln.len;rw[hjj,if_pos ⟨hin,bJ⟩]
 have hoth:∀i,i<7→i≠L.f0+j→∀q,(L.cur c D x i).ownBlock=some q→(c (L.f0+j)).ownBlock≠some q:=λi hi hne q hq=>by
  have:=h.row.SY i (L.f0+j) hi (by omega) hne q hq;rwa[hcj]at this
 refine⟨h.bel.trans (hbel.mono (by omega)),?_,⟨λi hi=>?_,λa b ha hb hab q hq=>?_⟩,λj' hj' h1 h2=>?_⟩
 ·rw[MQ (D:=D) (x:=x) (λi hi=>fU (by omega)) (λi hi hd=>uU (λz=>by
   have:i-L.f0=j:=by omega
   rw[this,ds]at hd;cases hd))]
  exact h.blk.wE hbel (by omega)
 ·by_cases q:i=L.f0+j
  ·subst q;rw[hcs,hls];exact hown
  ·rw[hcn i q,hln i q];exact Dw (h.row.row i hi) hg (hoth i hi q)
 ·by_cases qa:a=L.f0+j
  ·subst qa;rw[hcs]at hq;rw[hcn b (Ne.symm hab)];intro z;rcases hat with e|e
   ·rw[e]at hq;exact hoth b hb (Ne.symm hab) q z hq
   ·rw[e]at hq;cases hq;have:=(kE (h.row.row b hb) z).2;omega
  ·rw[hcn a qa]at hq;by_cases qb:b=L.f0+j
   ·subst qb;rw[hcs];intro z;rcases hat with e|e
    ·rw[e]at z;exact hoth a ha qa q hq z
    ·rw[e]at z;cases z;have:=(kE (h.row.row a ha) hq).2;omega
   ·rw[hcn b qb];exact h.row.SY a b ha hb hab q hq
 ·rw[fU (by omega)]at h1;have hne:j'≠j:=λz=>by
   subst z;rw[bJ]at h2;cases h2
  rw[fU (by omega)]at h2;obtain⟨q,a1,a2,a3,a4,a5⟩:=h.lit j' hj' h1 h2;have hq5:(c (L.f0+j)).ownBlock≠some q:=by have:=a5 (L.f0+j) (by omega);rwa[hcj]at this
  refine⟨q,by rw[uU (by omega)];exact a1,a2,aA a3 hg.size,?_,λi hi z=>?_⟩
  ·unfold World.cell? at a4 ⊢;rw[hg.block q a3 (Ne.symm hq5)];exact a4
  ·by_cases qi:i=L.f0+j
   ·subst qi;rw[hcs]at z;rcases hat with e|e
    ·exact hq5 (e▸z)
    ·rw[e]at z;cases z;omega
   ·rw[hcn i qi]at z;exact a5 i hi z
theorem WL.store(hL:L.Ok)(h:WL L T n c w0 D x w){j:Nat}(hj:j<L.m)(da:D (4 * j+3)=true):WL L T n c w0 (aQ D (L.JK+2 * j)) x (w.setCell ⟨T,L.f0+j,none⟩ (x (L.sb0+4 * j+1))):=by
 have hs:=hL.s;have hf:=hL.f;have hin:L.in (L.f0+j):=by unfold Ln.in;omega
 have hjj:L.f0+j-L.f0=j:=by omega
 have e1:∀k,L.in k→aQ D (L.JK+2 * j) (4 * (k-L.f0)+3)=D (4 * (k-L.f0)+3):=λk hk=>fU (by unfold Ln.in at hk;omega);have hc:L.cur c (aQ D (L.JK+2 * j)) x=L.cur c D x:=L8 e1 λ_ _ _=>rfl;refine⟨h.bel.setCell (p:=⟨T,L.f0+j,none⟩) (ay _) _,?_,⟨λi hi=>?_,by rw[hc];exact h.row.SY⟩,λj' hj' h1 h2=>?_⟩
 ·have:=h.blk.kQ (L.f0+j) (x (L.sb0+4 * j+1));rwa[Rf (L.fld c D x) (L.fld c (aQ D (L.JK+2 * j)) x) (by omega) (λi hi=>?_)]at this;unfold Ln.fld;by_cases q:i=L.f0+j
  ·subst q;rw[hjj,if_pos ⟨hin,bJ⟩,if_pos rfl]
  ·rw[if_neg q];by_cases z:L.in i
   ·rw[fU (by unfold Ln.in at z;omega)]
   ·rw[if_neg λy=>z y.1,if_neg λy=>z y.1]
 ·rw[hc,len_eq e1];exact lH (h.row.row i hi) λz=>by have:=(kE (h.row.row i hi) z).1;omega
 ·rw[fU (by omega)]at h1 h2;rw[hc];obtain⟨q,a1,a2,a3,a4,a5⟩:=h.lit j' hj' h1 h2;refine⟨q,a1,a2,by simpa[World.setCell]using a3,?_,a5⟩;have hb:=(Below.refl T w).setCell (p:=⟨T,L.f0+j,none⟩) (ay _) (x (L.sb0+4 * j+1));unfold World.cell? at a4 ⊢;rw[Below.heap_setCell w ⟨T,L.f0+j,none⟩ _ q (by simp only;omega)];exact a4
end
end
section
open Go Go.RowKit Lift
theorem Tryz.info34:(Tryz.prog.info? 34).map (λi=>(i.zero,i.size,i.bytes))=some (some (.int .i64 0),1,8):=by kernel_rfl
theorem Tryz.info4b:(Tryz.prog.info? 4).map (λi=>(i.zero,i.size,i.bytes))=some (some (.bool false),1,1):=by kernel_rfl
theorem ED{n:Nat}(hn:n≤10)(w:World):(Instr.makeSlice 100 (.int .i64 n) (.int .i64 n)).run Tryz.prog w=.ok (.slice (some ⟨w.heap.size,0,none⟩) n n) (w.alloc (.cells (Array.replicate n (.bool false)) 4)):=by
 obtain⟨i0,hi,hz0,hz1,hz2⟩:=info_parts Tryz.info4b;have:=run_make (P:=Tryz.prog) w 100 4 i0 _ Tryz.underlying100 hi hz0 .i64 .i64 n n (by omega) (Int.le_refl _) (by rw[hz2];omega) (by omega);rw[hz1]at this;have e:madeCells (Value.bool false).cells (n * 1)=Array.replicate n (.bool false):=by
  apply Array.ext_getElem?;intro k;by_cases hk:k<n
  ·simp[madeCells,Value.cells,hk,Nat.mod_one]
  ·rw[Array.getElem?_eq_none (by rw[size_madeCells];omega),Array.getElem?_eq_none (by simp;omega)]
 simp only[Int.toNat_natCast]at this;rw[e]at this;exact this
theorem load102{w:World}{B:Nat}{o0 o1 o2 o3 o4 o5 o6 o7:Option Addr}{n0 d0 n1 d1 n2 d2 n3 d3 n4 d4 n5 d5 n6 d6 n7 d7:Nat}(h:Blk w B 102 #[.slice o0 n0 d0,.slice o1 n1 d1,.slice o2 n2 d2,.slice o3 n3 d3,.slice o4 n4 d4,.slice o5 n5 d5,.slice o6 n6 d6,.slice o7 n7 d7]):(loadVar 102 ⟨B,0,none⟩).run Tryz.prog w=.ok (.agg #[.slice o0 n0 d0,.slice o1 n1 d1,.slice o2 n2 d2,.slice o3 n3 d3,.slice o4 n4 d4,.slice o5 n5 d5,.slice o6 n6 d6,.slice o7 n7 d7]) w:=by
 have c0:=h.cell 0;have c1:=h.cell 1;have c2:=h.cell 2;have c3:=h.cell 3;have c4:=h.cell 4;have c5:=h.cell 5;have c6:=h.cell 6;have c7:=h.cell 7;simp at c0 c1 c2 c3 c4 c5 c6 c7;have hs:=Tryz.sizeOf102;have ha:=Tryz.isAgg102;simp[loadVar,go_sem,c0,c1,c2,c3,c4,c5,c6,c7,hs,ha,loadCells,loadCellsFrom,Addr.add]
theorem Blk.put8{w:World}{B:Nat}{a0 a1 a2 a3 a4 a5 a6 a7:Value}(h:Blk w B 102 #[a0,a1,a2,a3,a4,a5,a6,a7])(v0 v1 v2 v3 v4 v5 v6 v7:Value):Blk ((((((((w.setCell ⟨B,0,none⟩ v0).setCell ⟨B,1,none⟩ v1).setCell ⟨B,2,none⟩ v2).setCell ⟨B,3,none⟩ v3).setCell ⟨B,4,none⟩ v4).setCell ⟨B,5,none⟩ v5).setCell ⟨B,6,none⟩ v6).setCell ⟨B,7,none⟩ v7) B 102 #[v0,v1,v2,v3,v4,v5,v6,v7]:=by
 have:=(((((((h.kQ 0 v0).kQ 1 v1).kQ 2 v2).kQ 3 v3).kQ 4 v4).kQ 5 v5).kQ 6 v6).kQ 7 v7;simpa only[aj,au,ak]using this
theorem bP.off{N:Nat}{R:RW}{b:Book}{s:St}{w:World}(h:bP N R b s w){B:Nat}(hB:¬R.has b B)(j:Nat)(v:Value):bP N R b s (w.setCell ⟨B,j,none⟩ v):=
 ⟨h.ge,h.ne,h.at_,λk hk q=>(h.col k hk q).set (λz=>hB ⟨k,hk,q,z⟩) v⟩
theorem bP.raise{N M:Nat}{R:RW}{b:Book}{s:St}{w:World}(h:bP N R b s w)(g:∀j,j<8→0<cnt b j→M≤R.B j):bP M R b s w:=⟨g,h.ne,h.at_,h.col⟩
theorem zJ(x:Int):∀l:List Int,(wR x l).length≤l.length+1
 | []=>by simp[wR]
 |y::l=>by
  unfold wR;split
  ·simp
  ·split
   ·simp
   ·have:=zJ x l;simp only[aB];omega
theorem oK:∀l:List Int,(l.foldr wR []).length≤l.length
 | []=>by simp
 |x::l=>by
  have h1:=oK l;have h2:=zJ x (l.foldr wR []);rw[List.foldr_cons,aB];omega
theorem MH{b:Book}(hv:Valid b):b.bD.length≤17:=by
 have h1:=oK b.dH;have h2:=hv.nk;have h3:=hv.np;unfold Book.bD;unfold Book.dH at h1 ⊢;simp only[aB,List.length_append,List.length_map]at h1;omega
theorem kX.set7{T:Nat}{c:Nat→Value}{n:Nat→Nat}{w:World}(h:kX T c n w)(o:Obj)(j:Nat)(v:Value):kX T c n ((w.alloc o).setCell ⟨T,j,none⟩ v):=
 ⟨λi hi=>lH ((h.row i hi).alloc _) λz=>by have:=(kE (h.row i hi) z).1;omega,h.SY⟩
theorem KP{fn:Func}{p:Tmp}{ty:TypeId}(h:fn.results=#[.cell p ty])(tmps:Array Value)(P:Program)(w:World) :
  (results fn tmps).run P w=((asAddr (tmps.getD p undef)).run P w).andThen λa w₁=>(loadVar ty a).run P w₁:=by
 simp only[results,h];simp[Sem.run_bind,Result.andThen]
theorem nU{w:World}{N n:Nat}{e:TypeId}{v:Value}(h:w.ownsRow N e 1 v (n+1) (zs (n+1))):∃g c,v=.slice (some ⟨g,0,none⟩) (n+1) c:=by
 rcases h.2 with⟨_,h0⟩|⟨g,cap,cur,rfl,_⟩
 ·omega
 ·exact⟨g,cap,rfl⟩
theorem UL{w:World}{N n:Nat}{e:TypeId}{v:Value}(h:w.ownsRow N e 1 v n (zs n)):∃t:Option Addr×Nat×Nat,v=.slice t.1 n t.2.1∧(0<n→t.1=some ⟨t.2.2,0,none⟩∧v.ownBlock=some t.2.2∧N≤t.2.2∧Col w t.2.2 e n λ_=>.int .i64 0):=by
 rcases h.2 with⟨rfl,h0⟩|⟨g,cap,cur,rfl,h1,h2,h3,h4,h5,h6⟩
 ·subst h0;exact⟨(none,0,0),rfl,λq=>absurd q (by decide)⟩
 ·refine⟨(some ⟨g,0,none⟩,cap,g),rfl,λ_=>⟨rfl,rfl,h1,cur,h2,λi hi=>?_⟩⟩;rw[Nat.mul_one]at h6;have:(cur.toList.take n)[i]?=some (.int .i64 0):=by rw[h6];unfold zs;rw[List.getElem?_replicate,if_pos hi]
  rw[List.getElem?_take_of_lt hi,Array.getElem?_toList]at this;exact this
theorem bP.make{T V:Nat}{b:Book}{c:Nat→Value}{w:World}(h:kX T c (λi=>if i<4 then b.cs.length else b.aJ.length) w)(hV:T<V)(hc:0<b.ps.length→Col w V 4 b.ps.length λ_=>.bool false)(hne:∀i,i<7→(c i).ownBlock≠some V) :
  ∃R:RW,bP (T+1) R b St.init w∧(∀i,i<7→c i=.slice (R.o i) (cnt b i) (R.c i))∧R.o 7=some ⟨V,0,none⟩∧R.c 7=b.ps.length:=by
 have hn:∀i,i<7→(if i<4 then b.cs.length else b.aJ.length)=cnt b i:=λi hi=>by
  unfold cnt;by_cases q:i<4
  ·rw[if_pos q,if_pos q]
  ·rw[if_neg q,if_neg q,if_pos hi]
 have hx:∀i,∃t:Option Addr×Nat×Nat,i<7→c i=.slice t.1 (cnt b i) t.2.1∧(0<cnt b i→t.1=some ⟨t.2.2,0,none⟩∧(c i).ownBlock=some t.2.2∧T+1≤t.2.2∧Col w t.2.2 (cty i) (cnt b i) λ_=>.int .i64 0):=λi=>by
  by_cases q:i<7
  ·have:=h.row i q;rw[hn i q]at this;obtain⟨t,ht⟩:=UL this;exact⟨t,λ_=>ht⟩
  ·exact⟨(none,0,0),λz=>absurd z q⟩
 have hy:=λi=>Classical.choose_spec (hx i);generalize hf:(λi=>Classical.choose (hx i))=f at hy;have hy':∀i,i<7→c i=.slice (f i).1 (cnt b i) (f i).2.1∧(0<cnt b i→(f i).1=some ⟨(f i).2.2,0,none⟩∧(c i).ownBlock=some (f i).2.2∧T+1≤(f i).2.2∧Col w (f i).2.2 (cty i) (cnt b i) λ_=>.int .i64 0):=λi hi=>by
  have e:Classical.choose (hx i)=f i:=congrFun hf i;have:=hy i hi;rwa[e]at this
 refine⟨⟨λi=>if i=7 then some ⟨V,0,none⟩else(f i).1,λi=>if i=7 then b.ps.length else(f i).2.1,λi=>if i=7 then V else(f i).2.2⟩,⟨λj hj q=>?_,λi j hi hj hij qi qj=>?_,λj hj q=>?_,λj hj q=>?_⟩,λi hi=>?_,rfl,rfl⟩
 ·simp only;by_cases e:j=7
  ·rw[if_pos e];omega
  ·rw[if_neg e];exact((hy' j (by omega)).2 q).2.2.1
 ·simp only;by_cases e:i=7
  ·subst e;rw[if_pos rfl,if_neg (Ne.symm hij)];intro z;exact hne j (by omega) (by rw[((hy' j (by omega)).2 qj).2.1,z])
  ·rw[if_neg e];by_cases e2:j=7
   ·subst e2;rw[if_pos rfl];intro z;exact hne i (by omega) (by rw[((hy' i (by omega)).2 qi).2.1,z])
   ·rw[if_neg e2];intro z;exact h.SY i j (by omega) (by omega) hij _ ((hy' i (by omega)).2 qi).2.1 (by rw[z];exact((hy' j (by omega)).2 qj).2.1)
 ·simp only;by_cases e:j=7
  ·rw[if_pos e,if_pos e]
  ·rw[if_neg e,if_neg e];exact((hy' j (by omega)).2 q).1
 ·simp only;by_cases e:j=7
  ·subst e;rw[if_pos rfl];refine(hc q).congr λi _=>?_;simp[cval,St.init]
  ·rw[if_neg e];refine((hy' j (by omega)).2 q).2.2.2.congr λi _=>?_;rcases(show j=0∨j=1∨j=2∨j=3∨j=4∨j=5∨j=6 by omega)with rfl|rfl|rfl|rfl|rfl|rfl|rfl<;>rfl
 ·simp only;rw[if_neg (by omega),if_neg (by omega)];exact(hy' i hi).1
section
variable {L:Ln} {c:Nat→Value} {n:Nat→Nat} {D:Nat→Bool} {x:Tmp→Value}
theorem qU{i j:Nat}(e:L.f0+j=i)(h:D (L.JK+2 * j)=false):L.fld c D x i=c i:=by
 unfold Ln.fld;rw[if_neg];rw[show i-L.f0=j by omega,h];exact λz=>absurd z.2 (by decide)
theorem qO{i j:Nat}(e:L.f0+j=i)(h:D (4 * j+3)=false):L.cur c D x i=c i:=by
 unfold Ln.cur;rw[if_neg];rw[show i-L.f0=j by omega,h];exact λz=>absurd z.2 (by decide)
theorem qY{i j:Nat}(e:L.f0+j=i)(h:D (4 * j+3)=false):L.len n D i=n i:=by
 unfold Ln.len;rw[if_neg];rw[show i-L.f0=j by omega,h];exact λz=>absurd z.2 (by decide)
theorem wG{i j:Nat}(e:L.f0+j=i)(hj:j<L.m)(h:D (4 * j+3)=true):L.cur c D x i=x (L.sb0+4 * j+1):=by
 unfold Ln.cur;rw[if_pos ⟨by unfold Ln.in;omega,by rw[show i-L.f0=j by omega];exact h⟩,show i-L.f0=j by omega]
theorem wX{i j:Nat}(e:L.f0+j=i)(hj:j<L.m)(h:D (4 * j+3)=true):L.len n D i=n i+1:=by
 unfold Ln.len;rw[if_pos ⟨by unfold Ln.in;omega,by rw[show i-L.f0=j by omega];exact h⟩]
theorem WL.done{T:Nat}{w0 w:World}{K:Nat}(hL:L.Ok)(hK:6 * L.m≤K)(h:WL L T n c w0 (λj=>decide (j<K)) x w):∃c',Blk w T 102 (rO c')∧kX T c' (λi=>if L.in i then n i+1 else n i) w:=by
 refine⟨L.cur c (λj=>decide (j<K)) x,?_,?_⟩
 ·have e:L.fld c (λj=>decide (j<K)) x=L.cur c (λj=>decide (j<K)) x:=by
   funext i
   unfold Ln.fld Ln.cur;by_cases q:L.in i
   ·have q2:=q;unfold Ln.in at q2;have hs:=hL.s;rw[if_pos ⟨q,decide_eq_true (by omega)⟩,if_pos ⟨q,decide_eq_true (by omega)⟩]
   ·rw[if_neg λz=>q z.1,if_neg λz=>q z.1]
  rw[← e];exact h.blk
 ·have e:L.len n (λj=>decide (j<K))=λi=>if L.in i then n i+1 else n i:=by
   funext i
   unfold Ln.len;by_cases q:L.in i
   ·have q2:=q;unfold Ln.in at q2;rw[if_pos ⟨q,decide_eq_true (by omega)⟩,if_pos q]
   ·rw[if_neg λz=>q z.1,if_neg q]
  rw[← e];exact h.row
end
set_option maxRecDepth 1000000 in
set_option maxHeartbeats 16000000 in
theorem RS{N:Nat}{l:Lay}{b:Book}{w:World}(hbk:dQ N l b w)(hf:Full b){n:Int}(h0:0≤n)(h1:n≤9999) :
  CallsIn Fz 0 Tryz.prog 58 #[l.val b,.int .i64 n] w λe w'=>∃R:RW,e=.returned (.agg (R.arr b))∧bP w.heap.size R b (b.after n) w'∧Below w.heap.size w w':=by
 have hv:=hf.v;have ha:b.aligned:=hf.mv;have hnp:=hv.np;have hnc:=hv.nc;have hnk:=hv.nk;have hb1:Below w.heap.size w (w.alloc (.cells (l.arr b) 27)):=(Below.refl _ w).alloc (ay _) _;have hb2:Below w.heap.size w ((w.alloc (.cells (l.arr b) 27)).alloc (.cells #[.slice none 0 0,.slice none 0 0,.slice none 0 0,.slice none 0 0,.slice none 0 0,.slice none 0 0,.slice none 0 0,.slice none 0 0] 102)):=hb1.alloc (by simp) _;have hb3:Below w.heap.size w (((w.alloc (.cells (l.arr b) 27)).alloc (.cells #[.slice none 0 0,.slice none 0 0,.slice none 0 0,.slice none 0 0,.slice none 0 0,.slice none 0 0,.slice none 0 0,.slice none 0 0] 102)).alloc (.cells #[.slice none 0 0,.slice none 0 0,.slice none 0 0,.slice none 0 0,.slice none 0 0,.slice none 0 0,.slice none 0 0,.slice none 0 0] 102)):=hb2.alloc (by simp;omega) _;have hA:=((Blk.new w (l.arr b) 27).below ((Below.refl _ _).alloc (o:=.cells #[.slice none 0 0,.slice none 0 0,.slice none 0 0,.slice none 0 0,.slice none 0 0,.slice none 0 0,.slice none 0 0,.slice none 0 0] 102) (ay _))).below ((Below.refl _ _).alloc (o:=.cells #[.slice none 0 0,.slice none 0 0,.slice none 0 0,.slice none 0 0,.slice none 0 0,.slice none 0 0,.slice none 0 0,.slice none 0 0] 102) (ay _));have hZ:=(Blk.new (w.alloc (.cells (l.arr b) 27)) #[.slice none 0 0,.slice none 0 0,.slice none 0 0,.slice none 0 0,.slice none 0 0,.slice none 0 0,.slice none 0 0,.slice none 0 0] 102).below ((Below.refl _ _).alloc (o:=.cells #[.slice none 0 0,.slice none 0 0,.slice none 0 0,.slice none 0 0,.slice none 0 0,.slice none 0 0,.slice none 0 0,.slice none 0 0] 102) (ay _));have hT:=Blk.new ((w.alloc (.cells (l.arr b) 27)).alloc (.cells #[.slice none 0 0,.slice none 0 0,.slice none 0 0,.slice none 0 0,.slice none 0 0,.slice none 0 0,.slice none 0 0,.slice none 0 0] 102)) #[.slice none 0 0,.slice none 0 0,.slice none 0 0,.slice none 0 0,.slice none 0 0,.slice none 0 0,.slice none 0 0,.slice none 0 0] 102;rw[World.size_alloc]at hZ;rw[World.size_alloc,World.size_alloc]at hT;have hbk1:=hbk.below (hb3.mono hbk.hN);have Rx:=hbk.hN;clear hb1 hb2 hbk;unfold Lay.val;gi_enter Tryz.func58,Tryz.ntmps58
 gi_wp2;generalize ((w.alloc _).alloc _).alloc _=W at *;obtain⟨T,hTe⟩:∃T,w.heap.size+1+1=T:=⟨_,rfl⟩
 rw[hTe]at hT ⊢;have hAT:w.heap.size<T:=by omega
 have hZT:w.heap.size+1<T:=by omega
 have a0:=hA.cell 0;have a1:=hA.cell 1;have a2:=hA.cell 2;have a3:=hA.cell 3;simp at a0 a1 a2 a3;have kU:=hA.lt;have hT0:Blk W T 102 (rO λ_=>.slice none 0 0):=hT;have hrow0:kX T (λ_=>.slice none 0 0) (λi=>if i<4 then 0 else 0) W:=⟨λi hi=>by
  have:=World.ownsRow_nil W (T+1) (cty i) 1;by_cases z:i<4<;>simpa[z,zs]using this,λi j _ _ _ q h=>by cases h⟩
 clear hT;gi_loopw [6] (λi wr=>∃(k:Nat) (c:Nat→Value),k≤b.cs.length∧i=.int .i64 k∧Blk wr T 102 (rO c)∧kX T c (λi=>if i<4 then k else 0) wr∧Below T W wr) (λi _=>b.cs.length-(intOf i).toNat)
 case atStart=>exact⟨0,_,Nat.zero_le _,rfl,hT0,hrow0,Below.refl _ _⟩
 case round=>
  obtain⟨k,c,hk,rfl,hT,hrow,hB⟩:=hrel;have hAr:=hA.wE hB hAT;have Ei:=hT.lt;clear a0 a1 a2 a3 kU;have a0:=hAr.cell 0;have a1:=hAr.cell 1;have a2:=hAr.cell 2;have a3:=hAr.cell 3;simp at a0 a1 a2 a3;have kU:=hAr.lt;by_cases hl:k<b.cs.length
  ·gi_wp2_with fail
   clear a0 a1 a2 a3 kU;refine aV rfl mixed (by kernel_rfl) (WL ⟨4,0,18,17⟩ T (λi=>if i<4 then k else 0) c wr) [18,19,22,23,26,27,30,31] (x₀:=pk [(18,u18),(19,u19),(22,u22),(23,u23),(26,u26),(27,u27),(30,u30),(31,u31)]) (gl8 rfl rfl rfl rfl rfl rfl rfl rfl) (WL.start Ei hT hrow) ?_;simp only[aC,aB,aF,Nat.reduceAdd,List.range,List.range.loop];refine dA (u0:=pk [(18,u18),(19,u19),(22,u22),(23,u23),(26,u26),(27,u27),(30,u30),(31,u31)]) rfl (λ_=>rfl) (by decide) (gl8 rfl rfl rfl rfl rfl rfl rfl rfl) ?_;apply ah;refine⟨λD x w' hm hW K Q hK=>?_,?_⟩
   ·skip;simp only[Lift.Act.bC,List.foldl_cons,List.foldl_nil,aj,au,ak];gi_wp2;exact hW.pure (by decide)
   apply ah;refine⟨λx=>?_,?_⟩
   ·simp only[Lift.Act.bC,List.foldl_cons,List.foldl_nil,aj,au,ak,Act.put];rfl
   refine dA (u0:=pk [(18,u18),(19,u19),(22,u22),(23,u23),(26,u26),(27,u27),(30,u30),(31,u31)]) rfl (λ_=>rfl) (by decide) (gl8 rfl rfl rfl rfl rfl rfl rfl rfl) ?_;apply ah;refine⟨λD x w' hm hW K Q hK=>?_,?_⟩
   ·have ds:=hm.2.2 17 (by kernel_rfl);have z:=hW.blk.cell 0;have uI:=hW.blk.lt;rw[fC _ (by omega),qU (j:=0) rfl ds]at z;simp only[Lift.Act.bC,List.foldl_cons,List.foldl_nil,aj,au,ak];gi_wp2;exact hW.pure (by decide)
   apply ah;refine⟨λx=>?_,?_⟩
   ·simp only[Lift.Act.bC,List.foldl_cons,List.foldl_nil,aj,au,ak,Act.put];rfl
   refine fH 18 (by decide) rfl (λ_=>rfl) rfl rfl (λD x w' hm hW K Q hK=>LX rfl (hK _ _ (WL.build ⟨by decide,rfl⟩ hW hW.blk.lt (j:=0) (by decide)))) ?_;refine fH 19 (by decide) rfl (λ_=>rfl) rfl rfl (λD x w' hm hW K Q hK=>?_) ?_
   ·have ds:=hm.2.2 17 (by kernel_rfl);have q1:=hm.2.1 2 (by kernel_rfl);obtain⟨q,x1,x2,x3,x4,x5⟩:=hW.lit 0 (by decide) q1 hm.1;have hown:=hW.row.row 0 (by omega);rw[qO (j:=0) rfl hm.1,qY (j:=0) rfl hm.1]at hown;simp only[Lift.Act.bC,List.foldl_cons,List.foldl_nil,aj,au,ak]at hK ⊢;exact jg 99 34 (.tmp 17) (.tmp 18) rfl Tryz.underlying99 Tryz.info34 rfl hown x1 x4 (by simp;omega) hW.blk.lt λv' w'' h1 h2 h3=>hK v' w'' (WL.app ⟨by decide,rfl⟩ hW hW.blk.lt Ei (j:=0) (by decide) hm.1 ds h1 h2 h3)
   refine dA (u0:=pk [(18,u18),(19,u19),(22,u22),(23,u23),(26,u26),(27,u27),(30,u30),(31,u31)]) rfl (λ_=>rfl) (by decide) (gl8 rfl rfl rfl rfl rfl rfl rfl rfl) ?_;apply ah;refine⟨λD x w' hm hW K Q hK=>?_,?_⟩
   ·skip;simp only[Lift.Act.bC,List.foldl_cons,List.foldl_nil,aj,au,ak];gi_wp2;exact hW.pure (by decide)
   apply ah;refine⟨λx=>?_,?_⟩
   ·simp only[Lift.Act.bC,List.foldl_cons,List.foldl_nil,aj,au,ak,Act.put];rfl
   refine dA (u0:=pk [(18,u18),(19,u19),(22,u22),(23,u23),(26,u26),(27,u27),(30,u30),(31,u31)]) rfl (λ_=>rfl) (by decide) (gl8 rfl rfl rfl rfl rfl rfl rfl rfl) ?_;apply ah;refine⟨λD x w' hm hW K Q hK=>?_,?_⟩
   ·have ds:=hm.2.2 19 (by kernel_rfl);have z:=hW.blk.cell 1;have uI:=hW.blk.lt;rw[fC _ (by omega),qU (j:=1) rfl ds]at z;simp only[Lift.Act.bC,List.foldl_cons,List.foldl_nil,aj,au,ak];gi_wp2;exact hW.pure (by decide)
   apply ah;refine⟨λx=>?_,?_⟩
   ·simp only[Lift.Act.bC,List.foldl_cons,List.foldl_nil,aj,au,ak,Act.put];rfl
   refine fH 22 (by decide) rfl (λ_=>rfl) rfl rfl (λD x w' hm hW K Q hK=>kM rfl (hK _ _ (WL.build ⟨by decide,rfl⟩ hW hW.blk.lt (j:=1) (by decide)))) ?_;refine fH 23 (by decide) rfl (λ_=>rfl) rfl rfl (λD x w' hm hW K Q hK=>?_) ?_
   ·have ds:=hm.2.2 19 (by kernel_rfl);have q1:=hm.2.1 6 (by kernel_rfl);obtain⟨q,x1,x2,x3,x4,x5⟩:=hW.lit 1 (by decide) q1 hm.1;have hown:=hW.row.row 1 (by omega);rw[qO (j:=1) rfl hm.1,qY (j:=1) rfl hm.1]at hown;simp only[Lift.Act.bC,List.foldl_cons,List.foldl_nil,aj,au,ak]at hK ⊢;exact jg 44 3 (.tmp 21) (.tmp 22) rfl Tryz.underlying44 Tryz.pY rfl hown x1 x4 (by simp;omega) hW.blk.lt λv' w'' h1 h2 h3=>hK v' w'' (WL.app ⟨by decide,rfl⟩ hW hW.blk.lt Ei (j:=1) (by decide) hm.1 ds h1 h2 h3)
   refine dA (u0:=pk [(18,u18),(19,u19),(22,u22),(23,u23),(26,u26),(27,u27),(30,u30),(31,u31)]) rfl (λ_=>rfl) (by decide) (gl8 rfl rfl rfl rfl rfl rfl rfl rfl) ?_;apply ah;refine⟨λD x w' hm hW K Q hK=>?_,?_⟩
   ·skip;simp only[Lift.Act.bC,List.foldl_cons,List.foldl_nil,aj,au,ak];gi_wp2;exact hW.pure (by decide)
   apply ah;refine⟨λx=>?_,?_⟩
   ·simp only[Lift.Act.bC,List.foldl_cons,List.foldl_nil,aj,au,ak,Act.put];rfl
   refine dA (u0:=pk [(18,u18),(19,u19),(22,u22),(23,u23),(26,u26),(27,u27),(30,u30),(31,u31)]) rfl (λ_=>rfl) (by decide) (gl8 rfl rfl rfl rfl rfl rfl rfl rfl) ?_;apply ah;refine⟨λD x w' hm hW K Q hK=>?_,?_⟩
   ·have ds:=hm.2.2 21 (by kernel_rfl);have z:=hW.blk.cell 2;have uI:=hW.blk.lt;rw[fC _ (by omega),qU (j:=2) rfl ds]at z;simp only[Lift.Act.bC,List.foldl_cons,List.foldl_nil,aj,au,ak];gi_wp2;exact hW.pure (by decide)
   apply ah;refine⟨λx=>?_,?_⟩
   ·simp only[Lift.Act.bC,List.foldl_cons,List.foldl_nil,aj,au,ak,Act.put];rfl
   refine fH 26 (by decide) rfl (λ_=>rfl) rfl rfl (λD x w' hm hW K Q hK=>kM rfl (hK _ _ (WL.build ⟨by decide,rfl⟩ hW hW.blk.lt (j:=2) (by decide)))) ?_;refine fH 27 (by decide) rfl (λ_=>rfl) rfl rfl (λD x w' hm hW K Q hK=>?_) ?_
   ·have ds:=hm.2.2 21 (by kernel_rfl);have q1:=hm.2.1 10 (by kernel_rfl);obtain⟨q,x1,x2,x3,x4,x5⟩:=hW.lit 2 (by decide) q1 hm.1;have hown:=hW.row.row 2 (by omega);rw[qO (j:=2) rfl hm.1,qY (j:=2) rfl hm.1]at hown;simp only[Lift.Act.bC,List.foldl_cons,List.foldl_nil,aj,au,ak]at hK ⊢;exact jg 44 3 (.tmp 25) (.tmp 26) rfl Tryz.underlying44 Tryz.pY rfl hown x1 x4 (by simp;omega) hW.blk.lt λv' w'' h1 h2 h3=>hK v' w'' (WL.app ⟨by decide,rfl⟩ hW hW.blk.lt Ei (j:=2) (by decide) hm.1 ds h1 h2 h3)
   refine dA (u0:=pk [(18,u18),(19,u19),(22,u22),(23,u23),(26,u26),(27,u27),(30,u30),(31,u31)]) rfl (λ_=>rfl) (by decide) (gl8 rfl rfl rfl rfl rfl rfl rfl rfl) ?_;apply ah;refine⟨λD x w' hm hW K Q hK=>?_,?_⟩
   ·skip;simp only[Lift.Act.bC,List.foldl_cons,List.foldl_nil,aj,au,ak];gi_wp2;exact hW.pure (by decide)
   apply ah;refine⟨λx=>?_,?_⟩
   ·simp only[Lift.Act.bC,List.foldl_cons,List.foldl_nil,aj,au,ak,Act.put];rfl
   refine dA (u0:=pk [(18,u18),(19,u19),(22,u22),(23,u23),(26,u26),(27,u27),(30,u30),(31,u31)]) rfl (λ_=>rfl) (by decide) (gl8 rfl rfl rfl rfl rfl rfl rfl rfl) ?_;apply ah;refine⟨λD x w' hm hW K Q hK=>?_,?_⟩
   ·have ds:=hm.2.2 23 (by kernel_rfl);have z:=hW.blk.cell 3;have uI:=hW.blk.lt;rw[fC _ (by omega),qU (j:=3) rfl ds]at z;simp only[Lift.Act.bC,List.foldl_cons,List.foldl_nil,aj,au,ak];gi_wp2;exact hW.pure (by decide)
   apply ah;refine⟨λx=>?_,?_⟩
   ·simp only[Lift.Act.bC,List.foldl_cons,List.foldl_nil,aj,au,ak,Act.put];rfl
   refine fH 30 (by decide) rfl (λ_=>rfl) rfl rfl (λD x w' hm hW K Q hK=>kM rfl (hK _ _ (WL.build ⟨by decide,rfl⟩ hW hW.blk.lt (j:=3) (by decide)))) ?_;refine fH 31 (by decide) rfl (λ_=>rfl) rfl rfl (λD x w' hm hW K Q hK=>?_) ?_
   ·have ds:=hm.2.2 23 (by kernel_rfl);have q1:=hm.2.1 14 (by kernel_rfl);obtain⟨q,x1,x2,x3,x4,x5⟩:=hW.lit 3 (by decide) q1 hm.1;have hown:=hW.row.row 3 (by omega);rw[qO (j:=3) rfl hm.1,qY (j:=3) rfl hm.1]at hown;simp only[Lift.Act.bC,List.foldl_cons,List.foldl_nil,aj,au,ak]at hK ⊢;exact jg 44 3 (.tmp 29) (.tmp 30) rfl Tryz.underlying44 Tryz.pY rfl hown x1 x4 (by simp;omega) hW.blk.lt λv' w'' h1 h2 h3=>hK v' w'' (WL.app ⟨by decide,rfl⟩ hW hW.blk.lt Ei (j:=3) (by decide) hm.1 ds h1 h2 h3)
   refine dA (u0:=pk [(18,u18),(19,u19),(22,u22),(23,u23),(26,u26),(27,u27),(30,u30),(31,u31)]) rfl (λ_=>rfl) (by decide) (gl8 rfl rfl rfl rfl rfl rfl rfl rfl) ?_;apply ah;refine⟨λD x w' hm hW K Q hK=>?_,?_⟩
   ·skip;simp only[Lift.Act.bC,List.foldl_cons,List.foldl_nil,aj,au,ak];gi_wp2;exact hW.pure (by decide)
   apply ah;refine⟨λx=>?_,?_⟩
   ·simp only[Lift.Act.bC,List.foldl_cons,List.foldl_nil,aj,au,ak,Act.put];rfl
   refine jv rfl (λ_=>rfl) rfl (λD x w' hm hW K Q hK=>?_) ?_
   ·have da:=hm.2.1 3 (by kernel_rfl);have hown:=hW.row.row 0 (by omega);rw[wG (j:=0) rfl (by decide) da,wX (j:=0) rfl (by decide) da]at hown;obtain⟨gr,cr,hx⟩:=nU hown;have z:=hW.blk.cell 0;have y:=hW.blk.frozen 0;have uI:=hW.blk.lt;rw[fC _ (by omega)]at z;have hst:=WL.store ⟨by decide,rfl⟩ hW (j:=0) (by decide) da
    try simp only at hst hx
    rw[hx]at hst;simp only[Lift.Act.bC,List.foldl_cons,List.foldl_nil,aj,au,ak,hx]at hK ⊢;gi_wp2
    all_goals exact hst
   refine dA (u0:=pk [(18,u18),(19,u19),(22,u22),(23,u23),(26,u26),(27,u27),(30,u30),(31,u31)]) rfl (λ_=>rfl) (by decide) (gl8 rfl rfl rfl rfl rfl rfl rfl rfl) ?_;apply ah;refine⟨λD x w' hm hW K Q hK=>?_,?_⟩
   ·skip;simp only[Lift.Act.bC,List.foldl_cons,List.foldl_nil,aj,au,ak];gi_wp2;exact hW.pure (by decide)
   apply ah;refine⟨λx=>?_,?_⟩
   ·simp only[Lift.Act.bC,List.foldl_cons,List.foldl_nil,aj,au,ak,Act.put];rfl
   refine jv rfl (λ_=>rfl) rfl (λD x w' hm hW K Q hK=>?_) ?_
   ·have da:=hm.2.1 7 (by kernel_rfl);have hown:=hW.row.row 1 (by omega);rw[wG (j:=1) rfl (by decide) da,wX (j:=1) rfl (by decide) da]at hown;obtain⟨gr,cr,hx⟩:=nU hown;have z:=hW.blk.cell 1;have y:=hW.blk.frozen 1;have uI:=hW.blk.lt;rw[fC _ (by omega)]at z;have hst:=WL.store ⟨by decide,rfl⟩ hW (j:=1) (by decide) da
    try simp only at hst hx
    rw[hx]at hst;simp only[Lift.Act.bC,List.foldl_cons,List.foldl_nil,aj,au,ak,hx]at hK ⊢;gi_wp2
    all_goals exact hst
   refine dA (u0:=pk [(18,u18),(19,u19),(22,u22),(23,u23),(26,u26),(27,u27),(30,u30),(31,u31)]) rfl (λ_=>rfl) (by decide) (gl8 rfl rfl rfl rfl rfl rfl rfl rfl) ?_;apply ah;refine⟨λD x w' hm hW K Q hK=>?_,?_⟩
   ·skip;simp only[Lift.Act.bC,List.foldl_cons,List.foldl_nil,aj,au,ak];gi_wp2;exact hW.pure (by decide)
   apply ah;refine⟨λx=>?_,?_⟩
   ·simp only[Lift.Act.bC,List.foldl_cons,List.foldl_nil,aj,au,ak,Act.put];rfl
   refine jv rfl (λ_=>rfl) rfl (λD x w' hm hW K Q hK=>?_) ?_
   ·have da:=hm.2.1 11 (by kernel_rfl);have hown:=hW.row.row 2 (by omega);rw[wG (j:=2) rfl (by decide) da,wX (j:=2) rfl (by decide) da]at hown;obtain⟨gr,cr,hx⟩:=nU hown;have z:=hW.blk.cell 2;have y:=hW.blk.frozen 2;have uI:=hW.blk.lt;rw[fC _ (by omega)]at z;have hst:=WL.store ⟨by decide,rfl⟩ hW (j:=2) (by decide) da
    try simp only at hst hx
    rw[hx]at hst;simp only[Lift.Act.bC,List.foldl_cons,List.foldl_nil,aj,au,ak,hx]at hK ⊢;gi_wp2
    all_goals exact hst
   refine dA (u0:=pk [(18,u18),(19,u19),(22,u22),(23,u23),(26,u26),(27,u27),(30,u30),(31,u31)]) rfl (λ_=>rfl) (by decide) (gl8 rfl rfl rfl rfl rfl rfl rfl rfl) ?_;apply ah;refine⟨λD x w' hm hW K Q hK=>?_,?_⟩
   ·skip;simp only[Lift.Act.bC,List.foldl_cons,List.foldl_nil,aj,au,ak];gi_wp2;exact hW.pure (by decide)
   apply ah;refine⟨λx=>?_,?_⟩
   ·simp only[Lift.Act.bC,List.foldl_cons,List.foldl_nil,aj,au,ak,Act.put];rfl
   refine jv rfl (λ_=>rfl) rfl (λD x w' hm hW K Q hK=>?_) ?_
   ·have da:=hm.2.1 15 (by kernel_rfl);have hown:=hW.row.row 3 (by omega);rw[wG (j:=3) rfl (by decide) da,wX (j:=3) rfl (by decide) da]at hown;obtain⟨gr,cr,hx⟩:=nU hown;have z:=hW.blk.cell 3;have y:=hW.blk.frozen 3;have uI:=hW.blk.lt;rw[fC _ (by omega)]at z;have hst:=WL.store ⟨by decide,rfl⟩ hW (j:=3) (by decide) da
    try simp only at hst hx
    rw[hx]at hst;simp only[Lift.Act.bC,List.foldl_cons,List.foldl_nil,aj,au,ak,hx]at hK ⊢;gi_wp2
    all_goals exact hst
   intro x w5 hW;have hB5:=hB.trans hW.bel;obtain⟨c',hT',hrow'⟩:=WL.done ⟨by decide,rfl⟩ (by decide) hW;have hrow2:kX T c' (λi=>if i<4 then k+1 else 0) w5:=by
    have e:(λi=>if((⟨4,0,18,17⟩:Ln).in i)then(λi=>if i<4 then k else 0) i+1 else(λi=>if i<4 then k else 0) i)=λi=>if i<4 then k+1 else 0:=by
     funext i
     simp only[Ln.in];by_cases z:i<4<;>simp[z]<;>omega
    rw[← e];exact hrow'
   clear hW hrow' hrow hT;simp only[Lift.Act.bC,List.foldl_cons,List.foldl_nil,aj,au,ak];generalize x 18=y18;generalize x 19=y19;generalize x 22=y22;generalize x 23=y23;generalize x 26=y26;generalize x 27=y27;generalize x 30=y30;generalize x 31=y31;gi_wp2;go_roundw
   case rel=>exact⟨k+1,c',by omega,by go_num,hT',hrow2,hB5⟩
   case measure=>simp[intOf];omega
  ·obtain rfl:k=b.cs.length:=by omega
   have hB1:=hB;gi_wp2;gi_loopw [7] (λi wr=>∃(k:Nat) (c:Nat→Value),k≤b.aJ.length∧i=.int .i64 k∧Blk wr T 102 (rO c)∧kX T c (λi=>if i<4 then b.cs.length else if i<7 then k else 0) wr∧Below T W wr) (λi _=>b.aJ.length-(intOf i).toNat)
   case atStart=>exact⟨0,c,Nat.zero_le _,rfl,hT,⟨λi hi=>by have q:=hrow.row i hi;by_cases z:i<4<;>simpa[z,hi]using q,hrow.SY⟩,hB1⟩
   case round=>
    obtain⟨k,c,hk,rfl,hT,hrow,hB⟩:=hrel;have hAr:=hA.wE hB hAT;have Ei:=hT.lt;clear a0 a1 a2 a3 kU;have a0:=hAr.cell 0;have a1:=hAr.cell 1;have a2:=hAr.cell 2;have a3:=hAr.cell 3;simp at a0 a1 a2 a3;have kU:=hAr.lt;by_cases hl:k<b.aJ.length
    ·gi_wp2_with fail
     clear a0 a1 a2 a3 kU;refine aV rfl mixed (by kernel_rfl) (WL ⟨3,4,45,13⟩ T (λi=>if i<4 then b.cs.length else if i<7 then k else 0) c wr) [45,46,49,50,53,54] (x₀:=pk [(45,u45),(46,u46),(49,u49),(50,u50),(53,u53),(54,u54)]) (gl6 rfl rfl rfl rfl rfl rfl) (WL.start Ei hT hrow) ?_;simp only[aC,aB,aF,Nat.reduceAdd,List.range,List.range.loop];refine dA (u0:=pk [(45,u45),(46,u46),(49,u49),(50,u50),(53,u53),(54,u54)]) rfl (λ_=>rfl) (by decide) (gl6 rfl rfl rfl rfl rfl rfl) ?_;apply ah;refine⟨λD x w' hm hW K Q hK=>?_,?_⟩
     ·skip;simp only[Lift.Act.bC,List.foldl_cons,List.foldl_nil,aj,au,ak];gi_wp2;exact hW.pure (by decide)
     apply ah;refine⟨λx=>?_,?_⟩
     ·simp only[Lift.Act.bC,List.foldl_cons,List.foldl_nil,aj,au,ak,Act.put];rfl
     refine dA (u0:=pk [(45,u45),(46,u46),(49,u49),(50,u50),(53,u53),(54,u54)]) rfl (λ_=>rfl) (by decide) (gl6 rfl rfl rfl rfl rfl rfl) ?_;apply ah;refine⟨λD x w' hm hW K Q hK=>?_,?_⟩
     ·have ds:=hm.2.2 13 (by kernel_rfl);have z:=hW.blk.cell 4;have uI:=hW.blk.lt;rw[fC _ (by omega),qU (j:=0) rfl ds]at z;simp only[Lift.Act.bC,List.foldl_cons,List.foldl_nil,aj,au,ak];gi_wp2;exact hW.pure (by decide)
     apply ah;refine⟨λx=>?_,?_⟩
     ·simp only[Lift.Act.bC,List.foldl_cons,List.foldl_nil,aj,au,ak,Act.put];rfl
     refine fH 45 (by decide) rfl (λ_=>rfl) rfl rfl (λD x w' hm hW K Q hK=>kM rfl (hK _ _ (WL.build ⟨by decide,rfl⟩ hW hW.blk.lt (j:=0) (by decide)))) ?_;refine fH 46 (by decide) rfl (λ_=>rfl) rfl rfl (λD x w' hm hW K Q hK=>?_) ?_
     ·have ds:=hm.2.2 13 (by kernel_rfl);have q1:=hm.2.1 2 (by kernel_rfl);obtain⟨q,x1,x2,x3,x4,x5⟩:=hW.lit 0 (by decide) q1 hm.1;have hown:=hW.row.row 4 (by omega);rw[qO (j:=0) rfl hm.1,qY (j:=0) rfl hm.1]at hown;simp only[Lift.Act.bC,List.foldl_cons,List.foldl_nil,aj,au,ak]at hK ⊢;exact jg 44 3 (.tmp 44) (.tmp 45) rfl Tryz.underlying44 Tryz.pY rfl hown x1 x4 (by simp;omega) hW.blk.lt λv' w'' h1 h2 h3=>hK v' w'' (WL.app ⟨by decide,rfl⟩ hW hW.blk.lt Ei (j:=0) (by decide) hm.1 ds h1 h2 h3)
     refine dA (u0:=pk [(45,u45),(46,u46),(49,u49),(50,u50),(53,u53),(54,u54)]) rfl (λ_=>rfl) (by decide) (gl6 rfl rfl rfl rfl rfl rfl) ?_;apply ah;refine⟨λD x w' hm hW K Q hK=>?_,?_⟩
     ·skip;simp only[Lift.Act.bC,List.foldl_cons,List.foldl_nil,aj,au,ak];gi_wp2;exact hW.pure (by decide)
     apply ah;refine⟨λx=>?_,?_⟩
     ·simp only[Lift.Act.bC,List.foldl_cons,List.foldl_nil,aj,au,ak,Act.put];rfl
     refine dA (u0:=pk [(45,u45),(46,u46),(49,u49),(50,u50),(53,u53),(54,u54)]) rfl (λ_=>rfl) (by decide) (gl6 rfl rfl rfl rfl rfl rfl) ?_;apply ah;refine⟨λD x w' hm hW K Q hK=>?_,?_⟩
     ·have ds:=hm.2.2 15 (by kernel_rfl);have z:=hW.blk.cell 5;have uI:=hW.blk.lt;rw[fC _ (by omega),qU (j:=1) rfl ds]at z;simp only[Lift.Act.bC,List.foldl_cons,List.foldl_nil,aj,au,ak];gi_wp2;exact hW.pure (by decide)
     apply ah;refine⟨λx=>?_,?_⟩
     ·simp only[Lift.Act.bC,List.foldl_cons,List.foldl_nil,aj,au,ak,Act.put];rfl
     refine fH 49 (by decide) rfl (λ_=>rfl) rfl rfl (λD x w' hm hW K Q hK=>kM rfl (hK _ _ (WL.build ⟨by decide,rfl⟩ hW hW.blk.lt (j:=1) (by decide)))) ?_;refine fH 50 (by decide) rfl (λ_=>rfl) rfl rfl (λD x w' hm hW K Q hK=>?_) ?_
     ·have ds:=hm.2.2 15 (by kernel_rfl);have q1:=hm.2.1 6 (by kernel_rfl);obtain⟨q,x1,x2,x3,x4,x5⟩:=hW.lit 1 (by decide) q1 hm.1;have hown:=hW.row.row 5 (by omega);rw[qO (j:=1) rfl hm.1,qY (j:=1) rfl hm.1]at hown;simp only[Lift.Act.bC,List.foldl_cons,List.foldl_nil,aj,au,ak]at hK ⊢;exact jg 44 3 (.tmp 48) (.tmp 49) rfl Tryz.underlying44 Tryz.pY rfl hown x1 x4 (by simp;omega) hW.blk.lt λv' w'' h1 h2 h3=>hK v' w'' (WL.app ⟨by decide,rfl⟩ hW hW.blk.lt Ei (j:=1) (by decide) hm.1 ds h1 h2 h3)
     refine dA (u0:=pk [(45,u45),(46,u46),(49,u49),(50,u50),(53,u53),(54,u54)]) rfl (λ_=>rfl) (by decide) (gl6 rfl rfl rfl rfl rfl rfl) ?_;apply ah;refine⟨λD x w' hm hW K Q hK=>?_,?_⟩
     ·skip;simp only[Lift.Act.bC,List.foldl_cons,List.foldl_nil,aj,au,ak];gi_wp2;exact hW.pure (by decide)
     apply ah;refine⟨λx=>?_,?_⟩
     ·simp only[Lift.Act.bC,List.foldl_cons,List.foldl_nil,aj,au,ak,Act.put];rfl
     refine dA (u0:=pk [(45,u45),(46,u46),(49,u49),(50,u50),(53,u53),(54,u54)]) rfl (λ_=>rfl) (by decide) (gl6 rfl rfl rfl rfl rfl rfl) ?_;apply ah;refine⟨λD x w' hm hW K Q hK=>?_,?_⟩
     ·have ds:=hm.2.2 17 (by kernel_rfl);have z:=hW.blk.cell 6;have uI:=hW.blk.lt;rw[fC _ (by omega),qU (j:=2) rfl ds]at z;simp only[Lift.Act.bC,List.foldl_cons,List.foldl_nil,aj,au,ak];gi_wp2;exact hW.pure (by decide)
     apply ah;refine⟨λx=>?_,?_⟩
     ·simp only[Lift.Act.bC,List.foldl_cons,List.foldl_nil,aj,au,ak,Act.put];rfl
     refine fH 53 (by decide) rfl (λ_=>rfl) rfl rfl (λD x w' hm hW K Q hK=>kM rfl (hK _ _ (WL.build ⟨by decide,rfl⟩ hW hW.blk.lt (j:=2) (by decide)))) ?_;refine fH 54 (by decide) rfl (λ_=>rfl) rfl rfl (λD x w' hm hW K Q hK=>?_) ?_
     ·have ds:=hm.2.2 17 (by kernel_rfl);have q1:=hm.2.1 10 (by kernel_rfl);obtain⟨q,x1,x2,x3,x4,x5⟩:=hW.lit 2 (by decide) q1 hm.1;have hown:=hW.row.row 6 (by omega);rw[qO (j:=2) rfl hm.1,qY (j:=2) rfl hm.1]at hown;simp only[Lift.Act.bC,List.foldl_cons,List.foldl_nil,aj,au,ak]at hK ⊢;exact jg 44 3 (.tmp 52) (.tmp 53) rfl Tryz.underlying44 Tryz.pY rfl hown x1 x4 (by simp;omega) hW.blk.lt λv' w'' h1 h2 h3=>hK v' w'' (WL.app ⟨by decide,rfl⟩ hW hW.blk.lt Ei (j:=2) (by decide) hm.1 ds h1 h2 h3)
     refine dA (u0:=pk [(45,u45),(46,u46),(49,u49),(50,u50),(53,u53),(54,u54)]) rfl (λ_=>rfl) (by decide) (gl6 rfl rfl rfl rfl rfl rfl) ?_;apply ah;refine⟨λD x w' hm hW K Q hK=>?_,?_⟩
     ·skip;simp only[Lift.Act.bC,List.foldl_cons,List.foldl_nil,aj,au,ak];gi_wp2;exact hW.pure (by decide)
     apply ah;refine⟨λx=>?_,?_⟩
     ·simp only[Lift.Act.bC,List.foldl_cons,List.foldl_nil,aj,au,ak,Act.put];rfl
     refine jv rfl (λ_=>rfl) rfl (λD x w' hm hW K Q hK=>?_) ?_
     ·have da:=hm.2.1 3 (by kernel_rfl);have hown:=hW.row.row 4 (by omega);rw[wG (j:=0) rfl (by decide) da,wX (j:=0) rfl (by decide) da]at hown;obtain⟨gr,cr,hx⟩:=nU hown;have z:=hW.blk.cell 4;have y:=hW.blk.frozen 4;have uI:=hW.blk.lt;rw[fC _ (by omega)]at z;have hst:=WL.store ⟨by decide,rfl⟩ hW (j:=0) (by decide) da
      try simp only at hst hx
      rw[hx]at hst;simp only[Lift.Act.bC,List.foldl_cons,List.foldl_nil,aj,au,ak,hx]at hK ⊢;gi_wp2
      all_goals exact hst
     refine dA (u0:=pk [(45,u45),(46,u46),(49,u49),(50,u50),(53,u53),(54,u54)]) rfl (λ_=>rfl) (by decide) (gl6 rfl rfl rfl rfl rfl rfl) ?_;apply ah;refine⟨λD x w' hm hW K Q hK=>?_,?_⟩
     ·skip;simp only[Lift.Act.bC,List.foldl_cons,List.foldl_nil,aj,au,ak];gi_wp2;exact hW.pure (by decide)
     apply ah;refine⟨λx=>?_,?_⟩
     ·simp only[Lift.Act.bC,List.foldl_cons,List.foldl_nil,aj,au,ak,Act.put];rfl
     refine jv rfl (λ_=>rfl) rfl (λD x w' hm hW K Q hK=>?_) ?_
     ·have da:=hm.2.1 7 (by kernel_rfl);have hown:=hW.row.row 5 (by omega);rw[wG (j:=1) rfl (by decide) da,wX (j:=1) rfl (by decide) da]at hown;obtain⟨gr,cr,hx⟩:=nU hown;have z:=hW.blk.cell 5;have y:=hW.blk.frozen 5;have uI:=hW.blk.lt;rw[fC _ (by omega)]at z;have hst:=WL.store ⟨by decide,rfl⟩ hW (j:=1) (by decide) da
      try simp only at hst hx
      rw[hx]at hst;simp only[Lift.Act.bC,List.foldl_cons,List.foldl_nil,aj,au,ak,hx]at hK ⊢;gi_wp2
      all_goals exact hst
     refine dA (u0:=pk [(45,u45),(46,u46),(49,u49),(50,u50),(53,u53),(54,u54)]) rfl (λ_=>rfl) (by decide) (gl6 rfl rfl rfl rfl rfl rfl) ?_;apply ah;refine⟨λD x w' hm hW K Q hK=>?_,?_⟩
     ·skip;simp only[Lift.Act.bC,List.foldl_cons,List.foldl_nil,aj,au,ak];gi_wp2;exact hW.pure (by decide)
     apply ah;refine⟨λx=>?_,?_⟩
     ·simp only[Lift.Act.bC,List.foldl_cons,List.foldl_nil,aj,au,ak,Act.put];rfl
     refine jv rfl (λ_=>rfl) rfl (λD x w' hm hW K Q hK=>?_) ?_
     ·have da:=hm.2.1 11 (by kernel_rfl);have hown:=hW.row.row 6 (by omega);rw[wG (j:=2) rfl (by decide) da,wX (j:=2) rfl (by decide) da]at hown;obtain⟨gr,cr,hx⟩:=nU hown;have z:=hW.blk.cell 6;have y:=hW.blk.frozen 6;have uI:=hW.blk.lt;rw[fC _ (by omega)]at z;have hst:=WL.store ⟨by decide,rfl⟩ hW (j:=2) (by decide) da
      try simp only at hst hx
      rw[hx]at hst;simp only[Lift.Act.bC,List.foldl_cons,List.foldl_nil,aj,au,ak,hx]at hK ⊢;gi_wp2
      all_goals exact hst
     intro x w5 hW;have hB5:=hB.trans hW.bel;obtain⟨c',hT',hrow'⟩:=WL.done ⟨by decide,rfl⟩ (by decide) hW;have hrow2:kX T c' (λi=>if i<4 then b.cs.length else if i<7 then k+1 else 0) w5:=by
      have e:(λi=>if((⟨3,4,45,13⟩:Ln).in i)then(λi=>if i<4 then b.cs.length else if i<7 then k else 0) i+1 else(λi=>if i<4 then b.cs.length else if i<7 then k else 0) i)=λi=>if i<4 then b.cs.length else if i<7 then k+1 else 0:=by
       funext i
       simp only[Ln.in];by_cases z:i<4
       ·simp[z];omega
       ·by_cases z2:i<7<;>simp[z,z2]<;>omega
      rw[← e];exact hrow'
     clear hW hrow' hrow hT;simp only[Lift.Act.bC,List.foldl_cons,List.foldl_nil,aj,au,ak];generalize x 45=y45;generalize x 46=y46;generalize x 49=y49;generalize x 50=y50;generalize x 53=y53;generalize x 54=y54;gi_wp2;go_roundw
     case rel=>exact⟨k+1,c',by omega,by go_num,hT',hrow2,hB5⟩
     case measure=>simp[intOf];omega
    ·obtain rfl:k=b.aJ.length:=by omega
     have hTT:=hT.lt;have hAx:=(hAr.below ((Below.refl _ _).alloc (ay _) (.cells (Array.replicate b.ps.length (.bool false)) 4))).set (g:=T) (j:=7) (Nat.ne_of_gt hAT) (.slice (some ⟨wr.heap.size,0,none⟩) b.ps.length b.ps.length);have hZx:=((hZ.wE hB hZT).below ((Below.refl _ _).alloc (ay _) (.cells (Array.replicate b.ps.length (.bool false)) 4))).set (g:=T) (j:=7) (Nat.ne_of_gt hZT) (.slice (some ⟨wr.heap.size,0,none⟩) b.ps.length b.ps.length);have hB3:Below T W ((wr.alloc (.cells (Array.replicate b.ps.length (.bool false)) 4)).setCell ⟨T,7,none⟩ (.slice (some ⟨wr.heap.size,0,none⟩) b.ps.length b.ps.length)):=(hB.alloc (Nat.le_of_lt hTT) _).setCell (p:=⟨T,7,none⟩) (ay _) _;have hrow3:kX T c (λi=>if i<4 then b.cs.length else b.aJ.length) ((wr.alloc (.cells (Array.replicate b.ps.length (.bool false)) 4)).setCell ⟨T,7,none⟩ (.slice (some ⟨wr.heap.size,0,none⟩) b.ps.length b.ps.length)):=kX.set7 ⟨λi hi=>by have q:=hrow.row i hi;by_cases z:i<4<;>simpa[z,hi]using q,hrow.SY⟩ _ _ _;have hcol:Col ((wr.alloc (.cells (Array.replicate b.ps.length (.bool false)) 4)).setCell ⟨T,7,none⟩ (.slice (some ⟨wr.heap.size,0,none⟩) b.ps.length b.ps.length)) wr.heap.size 4 b.ps.length λ_=>.bool false:=by
      refine Col.set ⟨_,Blk.new wr (Array.replicate b.ps.length (.bool false)) 4,λi hi=>?_⟩ (Nat.ne_of_lt hTT) _;simp[hi]
     obtain⟨R,G3,hRc,pO,hR7c⟩:=bP.make hrow3 hTT (λ_=>hcol) (λi hi z=>by have:=(kE (hrow.row i hi) z).2;omega);have ji:=(hT.below ((Below.refl _ _).alloc (ay _) (.cells (Array.replicate b.ps.length (.bool false)) 4))).kQ 7 (.slice (some ⟨wr.heap.size,0,none⟩) b.ps.length b.ps.length);have D7:Blk ((wr.alloc (.cells (Array.replicate b.ps.length (.bool false)) 4)).setCell ⟨T,7,none⟩ (.slice (some ⟨wr.heap.size,0,none⟩) b.ps.length b.ps.length)) T 102 (R.arr b):=by
      have q0:c 0=.slice (R.o 0) b.cs.length (R.c 0):=hRc 0 (by omega);have q1:c 1=.slice (R.o 1) b.cs.length (R.c 1):=hRc 1 (by omega);have q2:c 2=.slice (R.o 2) b.cs.length (R.c 2):=hRc 2 (by omega);have q3:c 3=.slice (R.o 3) b.cs.length (R.c 3):=hRc 3 (by omega);have q4:c 4=.slice (R.o 4) b.aJ.length (R.c 4):=hRc 4 (by omega);have q5:c 5=.slice (R.o 5) b.aJ.length (R.c 5):=hRc 5 (by omega);have q6:c 6=.slice (R.o 6) b.aJ.length (R.c 6):=hRc 6 (by omega);have e:(rO c).setIfInBounds 7 (.slice (some ⟨wr.heap.size,0,none⟩) b.ps.length b.ps.length)=R.arr b:=by
       unfold rO RW.arr;rw[q0,q1,q2,q3,q4,q5,q6,pO,hR7c];rfl
      rw[e]at ji;exact ji
     have t7:=hT.cell 7;have y7:=hT.frozen 7;rw[fC _ (by omega)]at t7;have hmk:∀w,(Instr.makeSlice 100 (.int .i64 b.ps.length) (.int .i64 b.ps.length)).run Tryz.prog w=_:=ED hnp;clear hrow hrow3 hcol hRc pO hR7c ji;have eW:=World.setCell_alloc_past (w:=wr) (.cells (Array.replicate b.ps.length (.bool false)) 4) T 7 (.slice (some ⟨wr.heap.size,0,none⟩) b.ps.length b.ps.length) hTT;rw[eW]at hAx hZx hB3 G3 D7;clear eW;gi_wp2;have HMK:=Lib.hid hmk;clear hmk t7 y7 a0 a1 a2 a3 kU;generalize (wr.setCell _ _).alloc _=W3 at *;have hA3:=hAx;have hZ3:=hZx;have hBw:Below w.heap.size w W3:=hb3.trans (hB3.mono (by omega));have TN:=hbk1.below (hB3.mono (by omega));have fO:∀q,R.has b q→T+1≤q:=λq z=>G3.least z;have OJ:∀q,R.has b q→N≤q:=λq z=>by have:=fO q z;omega
     have hleastW:∀q,R.has b q→w.heap.size≤q:=λq z=>by have:=fO q z;omega
     have hfA:¬R.has b w.heap.size:=λz=>by have:=fO _ z;omega
     have hfZ:¬R.has b (w.heap.size+1):=λz=>by have:=fO _ z;omega
     have pU:¬R.has b T:=λz=>by have:=fO _ z;omega
     have hNT:N≤T+1:=by omega
     have hsz3:w.heap.size≤W3.heap.size:=hBw.size;clear hB3 hAx hZx hB hB1;have a0:=hA3.cell 0;have a1:=hA3.cell 1;have a2:=hA3.cell 2;have a3:=hA3.cell 3;simp at a0 a1 a2 a3;have kU:=hA3.lt;gi_loopw [8] (λv wr=>∃k:Nat,k≤b.bD.length∧v=.int .i64 (b.ev k)∧(∀j,j<k→b.ev j≤n)∧bP (T+1) R b (b.upTo k) wr∧dW b (100000 * (k:Int)) (b.upTo k)∧Tch (R.has b) W3 wr) (λv _=>(11000-intOf v).toNat)
     case atStart=>exact⟨0,Nat.zero_le _,by rw[(Book.ev_zero hv).1],λj h=>absurd h (by omega),G3,by have:=dW.init b;simpa[Book.upTo]using this,Tch.refl _ _⟩
     case round=>
      obtain⟨k,hk,rfl,AP,G,hS,hTt⟩:=hrel;have hAr:=hA3.tch hTt hfA;have hRr:=D7.tch hTt pU;have hbr:=TN.below (hTt.below TN.hN OJ);by_cases hd:b.ev k≤n
      ·have hlt:k<b.bD.length:=Classical.byContradiction λq=>by
        rw[Book.MC (by omega)]at hd;omega
       have hev:b.bD.length≤17:=MH hv;have hda:=PG (N:=N) hbr hv ha (G.lower hNT) hS (by omega) (by omega) (b.ev k);rw[← Book.Gj hlt]at hda;have hla:=λ{w'} (h:dQ N l b w')=>Uo h hv (b.ev k);rw[hv.Un hlt]at hla;have hS2:Hid (dW b (100000 * ((k+1:Nat):Int)) (b.upTo (k+1))):=by
        rw[Book.Gj hlt];have:=hS.pG hv ha (b.ev k) (by omega) (by omega);rw[show 100000 * ((k+1:Nat):Int)=100000 * (k:Int)+100000 by omega];exact this
       have hbef:Hid (∀j,j<k+1→b.ev j≤n):=λj hj=>by
        by_cases q:j=k
        ·subst q;exact hd
        ·exact AP j (by omega)
       have hm:b.ev k<b.ev (k+1):=by
        by_cases q:k+1<b.bD.length
        ·exact Book.EY (by omega) q
        ·rw[Book.MC (show b.bD.length≤k+1 by omega)];omega
       unfold Lay.val at hda hla;obtain⟨d2,hd2⟩:∃d2,b.ev (k+1)=d2:=⟨_,rfl⟩
       rw[hd2]at hla hm;obtain⟨d,hdd⟩:∃d,b.ev k=d:=⟨_,rfl⟩
       rw[hdd]at hd hda hla hm ⊢;have HD2:=Lib.hid hd2;have hGge:=Lib.hid G.ge;clear hdd hd2 AP hS hev;have a0:=hAr.cell 0;have a1:=hAr.cell 1;have a2:=hAr.cell 2;have a3:=hAr.cell 3;simp at a0 a1 a2 a3;have kU:=hAr.lt;have r0:=hRr.cell 0;have r1:=hRr.cell 1;have r2:=hRr.cell 2;have r3:=hRr.cell 3;have r4:=hRr.cell 4;have r5:=hRr.cell 5;have r6:=hRr.cell 6;have r7:=hRr.cell 7;simp at r0 r1 r2 r3 r4 r5 r6 r7;have lD:=hRr.lt
       gi_wp2_with (first
        |(gi_at_call 95;with_reducible refine hda.mono ?_;rintro e w5 ⟨rfl,G5,qW⟩;have zG:=hAr.tch qW hfA;have hbk5:=hbr.below (qW.below hbr.hN OJ);clear a0 a1 a2 a3 kU;clear r0 r1 r2 r3 r4 r5 r6 r7 lD;have a0:=zG.cell 0;have a1:=zG.cell 1;have a2:=zG.cell 2;have a3:=zG.cell 3;simp at a0 a1 a2 a3;have kU:=zG.lt)
        |(gi_at_call 94;with_reducible refine(hla hbk5).mono ?_;rintro e w6 ⟨rfl,hb6⟩))
       go_roundw
       case rel=>exact⟨k+1,by omega,by rw[HD2.out],hbef.out,(bP.raise G5 hGge.out).same hb6,hS2.out,hTt.trans (qW.trans (Tch.of_below hb6))⟩
       case measure=>simp only[intOf];omega
      ·have hend:b.upTo k=b.after n:=Book.Oj hk AP (by omega);rw[hend]at G;have I8:=hZ3.tch hTt hfZ;clear AP hend hS;have r0:=hRr.cell 0;have r1:=hRr.cell 1;have r2:=hRr.cell 2;have r3:=hRr.cell 3;have r4:=hRr.cell 4;have r5:=hRr.cell 5;have r6:=hRr.cell 6;have r7:=hRr.cell 7;simp at r0 r1 r2 r3 r4 r5 r6 r7;have lD:=hRr.lt;have z0:=I8.cell 0;have z1:=I8.cell 1;have z2:=I8.cell 2;have z3:=I8.cell 3;have z4:=I8.cell 4;have z5:=I8.cell 5;have z6:=I8.cell 6;have z7:=I8.cell 7;have y0:=I8.frozen 0;have y1:=I8.frozen 1;have y2:=I8.frozen 2;have y3:=I8.frozen 3;have y4:=I8.frozen 4;have y5:=I8.frozen 5;have y6:=I8.frozen 6;have y7:=I8.frozen 7;simp at z0 z1 z2 z3 z4 z5 z6 z7;have ltZ:=I8.lt;have hfin:=I8.put8 (.slice (R.o 0) b.cs.length (R.c 0)) (.slice (R.o 1) b.cs.length (R.c 1)) (.slice (R.o 2) b.cs.length (R.c 2)) (.slice (R.o 3) b.cs.length (R.c 3)) (.slice (R.o 4) b.aJ.length (R.c 4)) (.slice (R.o 5) b.aJ.length (R.c 5)) (.slice (R.o 6) b.aJ.length (R.c 6)) (.slice (R.o 7) b.ps.length (R.c 7));have hG8:=(((((((G.off hfZ 0 (.slice (R.o 0) b.cs.length (R.c 0))).off hfZ 1 (.slice (R.o 1) b.cs.length (R.c 1))).off hfZ 2 (.slice (R.o 2) b.cs.length (R.c 2))).off hfZ 3 (.slice (R.o 3) b.cs.length (R.c 3))).off hfZ 4 (.slice (R.o 4) b.aJ.length (R.c 4))).off hfZ 5 (.slice (R.o 5) b.aJ.length (R.c 5))).off hfZ 6 (.slice (R.o 6) b.aJ.length (R.c 6))).off hfZ 7 (.slice (R.o 7) b.ps.length (R.c 7));have Rt:=((((((((hBw.trans (hTt.below hsz3 hleastW)).setCell (p:=⟨w.heap.size+1,0,none⟩) (by simp) (.slice (R.o 0) b.cs.length (R.c 0))).setCell (p:=⟨w.heap.size+1,1,none⟩) (by simp) (.slice (R.o 1) b.cs.length (R.c 1))).setCell (p:=⟨w.heap.size+1,2,none⟩) (by simp) (.slice (R.o 2) b.cs.length (R.c 2))).setCell (p:=⟨w.heap.size+1,3,none⟩) (by simp) (.slice (R.o 3) b.cs.length (R.c 3))).setCell (p:=⟨w.heap.size+1,4,none⟩) (by simp) (.slice (R.o 4) b.aJ.length (R.c 4))).setCell (p:=⟨w.heap.size+1,5,none⟩) (by simp) (.slice (R.o 5) b.aJ.length (R.c 5))).setCell (p:=⟨w.heap.size+1,6,none⟩) (by simp) (.slice (R.o 6) b.aJ.length (R.c 6))).setCell (p:=⟨w.heap.size+1,7,none⟩) (by simp) (.slice (R.o 7) b.ps.length (R.c 7));gi_wp2
       (try simp only[Exit.inBlock,Exit.then])
       refine bodyPost_ret (v:=.agg (R.arr b)) ?_ rfl ⟨R,rfl,hG8.lower (by omega),Rt⟩;rw[KP rfl];simp[asAddr,Result.andThen,load102 hfin]
end
