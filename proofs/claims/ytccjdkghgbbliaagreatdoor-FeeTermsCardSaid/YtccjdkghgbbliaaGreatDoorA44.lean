/- A region that draws its order and holds calls beside leavers, walked once in the text's order, with slots not known ahead. Nothing of the program stands here. -/
import Derived.Test.YtccjdkghgbbliaaGreatDoorA43
set_option linter.all false
namespace Go.Proofs.YtccjdkghgbbliaaGreatDoor
section
namespace Lift
set_option maxHeartbeats 1000000
set_option maxRecDepth 10000
open Go Go.Conc
abbrev Wmr:=(Nat→Bool)→(Tmp→Value)→World→Blks→Prop
section
variable [Keep] {P:Program} {F:FuncId→Prop} {ops:Array Oper} {Q:Qr}
variable (P F ops)in
def PX(W:Wmr)(gl:List Tmp)(i:Nat)(o:Oper)(a:Act)(v:Value):Prop:=
 (∀S,PW (fen F) 0 P ops (λD x w=>W D x w S) gl i o a v)∨
 ((∀g∈gl,o.dst≠some g)∧∃(f:FuncId) (fn:Func) (body:Code) (args:Array Operand) (ats:Array TypeId),o.op=.call { callee:=.value (.func f),args,argTypes:=ats }∧P.funcs[f]?=some fn∧(fn.name == "runtime.NumGoroutine")=false∧fn.body=some body∧
   ∀D x w S,jS ops D i→W D x w S→CallsR P F f (args.map (Act.bU a gl x).eval) w S (λu w' S'=>u=v∧W (bI D i) x w' S'))
variable (P F ops)in
def kP(W:Wmr)(gl:List Tmp):List Nat→Act→(Act→Prop)→Prop
 | [],a,R=>R a
 |i::rest,a,R=>∃o,ops[i]?=some o∧
   (((∀x,Region.wanted o (yielded ops (Act.bU a gl x).tmps)=true)∧∃v,PX P F ops W gl i o a v∧kP W gl rest (a.put o.dst v) R)∨
    ((∀x,Region.wanted o (yielded ops (Act.bU a gl x).tmps)=false)∧(∀g∈gl,o.dst≠some g)∧(∀x w f,o.about P w (Act.bU a gl x).eval=some f→F f)∧(∀D x w S,jS ops D i→W D x w S→W (bI D i) x w S)∧kP W gl rest (a.put o.dst undef) R))
variable (P F ops)in
def PL(W:Wmr)(gl:List Tmp)(i:Nat)(a:Act)(v:Value):Prop:=∃o,ops[i]?=some o∧
 (((∀x,Region.wanted o (yielded ops (Act.bU a gl x).tmps)=true)∧PX P F ops W gl i o a v)∨
  ((∀x,Region.wanted o (yielded ops (Act.bU a gl x).tmps)=false)∧(∀g∈gl,o.dst≠some g)∧(∀x w f,o.about P w (Act.bU a gl x).eval=some f→F f)∧(∀D x w S,jS ops D i→W D x w S→W (bI D i) x w S)∧v=undef))
theorem JH{W:Wmr}{gl:List Tmp}{R:Act→Prop}:∀(k s:Nat) (a:Act),kP P F ops W gl (List.range' s k) a R→
  ∃(vals:Nat→Value) (acts:Nat→Act),acts s=a∧(∀i,s≤i→i<s+k→acts (i+1)=(acts i).put (eF ops i) (vals i)∧PL P F ops W gl i (acts i) (vals i))∧R (acts (s+k)):=by
 intro k
 induction k with
 |zero=>intro s a h;exact⟨λ_=>undef,λ_=>a,rfl,λi h1 h2=>by omega,h⟩
 |succ k ih=>
  intro s a h;rw[List.range'_succ]at h;obtain⟨o,ho,h⟩:=h;have hd:eF ops s=o.dst:=by simp[eF,ho]
  have:∃v,PL P F ops W gl s a v∧kP P F ops W gl (List.range' (s+1) k) (a.put o.dst v) R:=by
   rcases h with⟨hw,v,h1,h2⟩|⟨hw,h0,h1,h3,h2⟩
   ·exact⟨v,⟨o,ho,.inl ⟨hw,h1⟩⟩,h2⟩
   ·exact⟨undef,⟨o,ho,.inr ⟨hw,h0,h1,h3,rfl⟩⟩,h2⟩
  obtain⟨v,hg,h2⟩:=this;obtain⟨vals,acts,e,hall,hR⟩:=ih (s+1) _ h2;refine⟨λj=>if j=s then v else vals j,λj=>if j=s then a else acts j,by simp,λi h1 h2=>?_,?_⟩
  ·by_cases hi:i=s
   ·subst hi;simp only[if_pos];rw[if_neg (by omega),e,hd];exact⟨rfl,hg⟩
   ·simp only[if_neg hi];rw[if_neg (by omega)];exact hall i (by omega) (by omega)
  ·show R (if s+(k+1)=s then a else acts (s+(k+1)))
   rw[if_neg (by omega),show s+(k+1)=s+1+k by omega];exact hR
theorem wF(H:Fit P F){id:Nat}{a₀:Act}{w₀:World}{S₀:Blks}(hm:P.follows .mixedOrders=true)(ht:textual ops=true)(W:Wmr)(gl:List Tmp)(hτ:∀D x w S τ d,W D x w S→W D x (bD w τ d) S)
  {x₀:Tmp→Value} (hg0:∀g∈gl,a₀.tmps[g]?=some (x₀ g)) (h0:W (λ_=>false) x₀ w₀ S₀)
  (h:kP P F ops W gl (List.range ops.size) a₀ (λa=>∀x w S,W (λj=>decide (j<ops.size)) x w S→Q .normal (Act.bU a gl x) w S)):wpR P F (.region id ops true) Q a₀ w₀ S₀:=by
 rw[List.range_eq_range']at h;obtain⟨vals,acts,rfl,hall,hR⟩:=JH ops.size 0 a₀ h;rw[Nat.zero_add]at hR
 refine qQ H hm (wZ (σ:=World×Blks) (gl:=gl) (x₀:=x₀) (s₀:=(w₀,S₀)) ht (λD x s=>W D x s.1 s.2) (λfuel l a s=>P8 P F ops Q fuel l a s.1 s.2) (λa s=>Q .normal a s.1 s.2) (λi K a s=>opR P F ops i (λa' w' S'=>K a' (w',S')) a s.1 s.2)
  (λi hi=>(hall i (Nat.zero_le _) (by omega)).1) (λl a s h1 h2=>⟨h1,h2⟩) (λfuel l a s h1 h2=>⟨h1,h2⟩) (λi o ho hns D x s a K hmay hW hsz hev hwant hK=>?_) (λx s hW=>hR x s.1 s.2 hW) hg0 h0)
 obtain⟨w,S⟩:=s;have hi:i<ops.size:=(Array.getElem?_eq_some_iff.1 ho).1;obtain⟨_,o',ho',hg⟩:=hall i (Nat.zero_le _) (by omega);rw[ho]at ho';cases ho';intro rest Q' hk;rcases hg with⟨hw,hst⟩|⟨hw,hdg,hab,hkeep,hv⟩
 ·rcases hst with hst|⟨hng,f,fn,body,args,ats,hop,hf,hname,hb,hst⟩
  ·exact wY H ho (by rw[hwant];exact hw x) (K:=λa' w'=>K a' (w',S)) (λτ d=>lM (F:=fen F) rfl hns hsz hev (hst S D x (bD w τ d) hmay (hτ _ _ _ _ τ d hW)) λu w' hT=>hK u (w',S) hT) λa' w' q=>hk a' w' S q
  ·have hargs:args.map a.eval=args.map (Act.bU (acts i) gl x).eval:=by
    apply Array.map_congr_left;intro y hy;exact hev y (by rw[hop];simp[Op.operands,Call.operands,hy])
   have hc:=hst D x w S hmay hW;rw[← hargs]at hc;exact wX H ho (by rw[hwant];exact hw x) hop hf hname hb hc λu w' S' ⟨e,hW'⟩=>hk _ _ _ (hK u (w',S') ⟨λg hg hd=>absurd hd (hng g hg),λ_=>⟨e,hW'⟩⟩)
 ·exact sZ H ho (by rw[hwant];exact hw x) (λτ d f hf=>hab x (bD w τ d) f (by rw[← hf];exact(about_congr o _ hev).symm)) (hk _ _ _ (hK _ (w,S) ⟨λg hg hd=>absurd hd (hdg g hg),λ_=>⟨hv.symm,hkeep D x w S hmay hW⟩⟩))
section
variable {W:Wmr} {gl:List Tmp} {i:Nat} {rest:List Nat} {a:Act} {R:Act→Prop} {o:Oper}
theorem Qw(v:Value)(ho:ops[i]?=some o)(hw:∀x,Region.wanted o (yielded ops (Act.bU a gl x).tmps)=true)(hd:∀g∈gl,o.dst≠some g)
  (hs:∀D x w S,jS ops D i→W D x w S→∀K Q,(∀w',W (bI D i) x w' S→K ((Act.bU a gl x).put o.dst v) w')→o.wpIn (fen F) 0 P (Act.bU a gl x) w K Q) (hr:kP P F ops W gl rest (a.put o.dst v) R):kP P F ops W gl (i::rest) a R:=
 ⟨o,ho,.inl ⟨hw,v,.inl λS D x w hm hW=>hs D x w S hm hW _ _ λw' hw'=>⟨v,rfl,λg hg h=>absurd h (hd g hg),λ_=>⟨rfl,hw'⟩⟩,hr⟩⟩
theorem Qx{u0:Value}(g:Tmp)(hgl:g∈gl)(ho:ops[i]?=some o)(hw:∀x,Region.wanted o (yielded ops (Act.bU a gl x).tmps)=true)(hd:o.dst=some g)
  (hs:∀D x w S,jS ops D i→W D x w S→∀K Q,(∀u w',W (bI D i) (uP x g u) w' S→K ((Act.bU a gl x).put (some g) u) w')→o.wpIn (fen F) 0 P (Act.bU a gl x) w K Q) (hr:kP P F ops W gl rest (a.put o.dst u0) R):kP P F ops W gl (i::rest) a R:=
 ⟨o,ho,.inl ⟨hw,u0,.inl λS D x w hm hW=>hs D x w S hm hW _ _ λu w' hw'=>⟨u,by rw[hd],λk _ h=>by(rw[hd]at h;cases h;exact hw'),λh=>absurd hd (h g hgl)⟩,hr⟩⟩
theorem JG(v:Value){f:FuncId}{fn:Func}{body:Code}{args:Array Operand}{ats:Array TypeId}(ho:ops[i]?=some o)(hop:o.op=.call { callee:=.value (.func f),args,argTypes:=ats })(hw:∀x,Region.wanted o (yielded ops (Act.bU a gl x).tmps)=true)(hd:∀g∈gl,o.dst≠some g)
  (hf:P.funcs[f]?=some fn) (hname:(fn.name == "runtime.NumGoroutine")=false) (hb:fn.body=some body)
  (hs:∀D x w S,jS ops D i→W D x w S→CallsR P F f (args.map (Act.bU a gl x).eval) w S (λu w' S'=>u=v∧W (bI D i) x w' S')) (hr:kP P F ops W gl rest (a.put o.dst v) R):kP P F ops W gl (i::rest) a R:=
 ⟨o,ho,.inl ⟨hw,v,.inr ⟨hd,f,fn,body,args,ats,hop,hf,hname,hb,hs⟩,hr⟩⟩
end
end
end Lift
end
section
set_option maxHeartbeats 1000000
set_option maxRecDepth 10000
set_option maxHeartbeats 16000000
set_option maxRecDepth 100000
open Go Go.Conc Go.RowKit Lift
def aN.wit(b:aN)(k:Nat)(cl du:Int):aN:=b.nZ k { b.aP k with classes:=cl,due:=du }
theorem rW{b:aN}(hR:b.Right)(hst:∀p∈b.ps,p.kind≠2){k:Nat}(hk:k<b.cs.length){cl du:Int}(hc:0≤cl∧cl≤45)(hd:0≤du∧du≤9999):(b.wit k cl du).Right:=by
 have h:=hR.k (b.aP k) (by rw[dN hk];exact List.getElem_mem _);exact Lp hR hst hk rfl ⟨h.1,hc,hd,h.2.2.2.1,h.2.2.2.2⟩
theorem wit_wit{b:aN}{k:Nat}(hk:k<b.cs.length)(cl du cl' Qy:Int):(b.wit k cl du).wit k cl' Qy=b.wit k cl' Qy:=by
 have e:(b.wit k cl du).aP k={ b.aP k with classes:=cl,due:=du }:=by
  unfold aN.wit aN.nZ aN.aP;simp only[List.getD_eq_getElem?_getD];rw[List.getElem?_set_self hk];rfl
 show(b.wit k cl du).nZ k { (b.wit k cl du).aP k with classes:=cl',due:=Qy }=_
 rw[e];unfold aN.wit aN.nZ;rw[List.set_set]
theorem Pq{b:aN}(hR:b.Right)(hst:∀p∈b.ps,p.kind≠2){k:Nat}(hk:k<b.cs.length){c1 d1 c2 d2:Int}(h1:0≤c1∧c1≤45)(h2:0≤c2∧c2≤45)(hd1:0≤d1∧d1≤9999)(hd2:0≤d2∧d2≤9999)(hc:c2≤c1)(hd:d1≤d2) :
  ∀c,c<(b.wit k c1 d1).to.cs.length→(b.wit k c1 d1).to.keeps c=true→(b.wit k c2 d2).to.keeps c=true∧(((b.wit k c2 d2).to.after 9999).cases c).day≤(((b.wit k c1 d1).to.after 9999).cases c).day:=by
 have hk':k<(b.wit k c1 d1).cs.length:=by unfold aN.wit aN.nZ;simpa using hk
 have e:(b.wit k c1 d1).aP k={ b.aP k with classes:=c1,due:=d1 }:=by
  unfold aN.wit aN.nZ aN.aP;simp only[List.getD_eq_getElem?_getD];rw[List.getElem?_set_self hk];rfl
 have hw:=wit_wit hk c1 d1 c2 d2;have hR1:=rW hR hst hk h1 hd1;have hR2:=rW hR hst hk h2 hd2;rw[← hw]at hR2 ⊢;exact Lm hR1 hst hk' hR2 rfl (by rw[e];exact hc) (by rw[e];exact hd) (by rw[e];simp only;omega) (by rw[e];exact Int.le_refl _)
theorem LU(b:aN)(k:Nat)(cl du:Int):(b.wit k cl du).cs.length=b.cs.length:=by simp[aN.wit,aN.nZ]
def xC(l:Lay)(b:aN)(v:Value)(w:World):Prop:=∃g c,v=.agg (({ l with kb:=some ⟨g,0,none⟩,kc:=c }:Lay).bG b)∧bQ w.heap.size { l with kb:=some ⟨g,0,none⟩,kc:=c } b w
theorem xC.grow{l:Lay}{b:aN}{v:Value}{w w':World}(h:xC l b v w)(hg:Grow w.heap.size w w'):xC l b v w':=by
 obtain⟨g,c,e,hb⟩:=h;have:=hb.grow hg;exact⟨g,c,e,aj _,this.cs.mono this.hN,this.ts.mono this.hN,this.ks.mono this.hN,this.ps.mono this.hN⟩
theorem Jj{N:Nat}{l:Lay}{b:aN}{w:World}(hbk:bQ N l b w)(hR:b.Right){k:Nat}(hk:k<b.cs.length)(cl du:Int) :
  CallsIn Fz 0 Tryz.prog 14 #[.agg (l.bG b),.int .i64 k,.int .i64 cl,.int .i64 du] w λe w'=>(∃v,e=.returned v∧xC l (b.wit k cl du) v w')∧Below w.heap.size w w':=
 (with_in hbk hR hk cl du).mono λe w' ⟨g,c,h1,h2,h3⟩=>⟨⟨_,h1,g,c,rfl,h2⟩,h3⟩
section
variable [Keep] {ops:Array Oper} {W:Wmr} {gl:List Tmp} {i:Nat} {rest:List Nat} {a:Act} {R:Act→Prop} {o:Oper}
theorem nC{u0:Tmp→Value}(ho:ops[i]?=some o)(hw:∀x,Region.wanted o (yielded ops (Act.bU a gl x).tmps)=true)(hd:∀g∈gl,o.dst≠some g)(hu:∀g∈gl,a.tmps[g]?=some (u0 g))
  (hr:∃af:(Tmp→Value)→Act,(∀D x w S,jS ops D i→W D x w S→∀K Q,(∀w',W (bI D i) x w' S→K (af x) w')→o.wpIn Fz 0 Tryz.prog (Act.bU a gl x) w K Q)∧∃v,(∀x,af x=(Act.bU a gl x).put o.dst v)∧kP Tryz.prog Inside ops W gl rest (af u0) R):kP Tryz.prog Inside ops W gl (i::rest) a R:=by
 obtain⟨af,hs,v,e,hr⟩:=hr;refine Qw v ho hw hd (λD x w S hm hW K Q hK=>hs D x w S hm hW K Q λw' hw'=>by rw[e];exact hK w' hw') ?_;have:=e u0;rw[D9 hu]at this;rw[← this];exact hr
theorem Dx{u0:Value}(g:Tmp)(hgl:g∈gl)(ho:ops[i]?=some o)(hw:∀x,Region.wanted o (yielded ops (Act.bU a gl x).tmps)=true)(hd:o.dst=some g)(hu:a.tmps[g]?=some u0)
  (hs:∀D x w S,jS ops D i→W D x w S→∀K Q,(∀u w',W (bI D i) (uP x g u) w' S→K ((Act.bU a gl x).put (some g) u) w')→o.wpIn Fz 0 Tryz.prog (Act.bU a gl x) w K Q) (hr:kP Tryz.prog Inside ops W gl rest a R):kP Tryz.prog Inside ops W gl (i::rest) a R:=by
 refine Qx (u0:=u0) g hgl ho hw hd hs ?_;have:a.put o.dst u0=a:=by
  rw[hd];obtain⟨t,d⟩:=a;simp only[Act.put]
  congr 1
  apply Array.ext_getElem?;intro k;by_cases h:g=k
  ·subst h;rw[Array.getElem?_setIfInBounds_self_of_lt (Array.getElem?_eq_some_iff.1 hu).1];exact hu.symm
  ·rw[aB h]
 rw[this];exact hr
end
end
section
set_option maxHeartbeats 1000000
set_option maxRecDepth 10000
set_option maxHeartbeats 16000000
set_option maxRecDepth 100000
open Go Go.RowKit Go.ChangeShapes Go.WideShapes Go.Deep Go.Joins
theorem Tc{α:Type}{W:World}{a:Addr}{size:Nat}{row:α→List Value}(P:α→Prop)(n:Nat)(h0:∀x,∃v,(row x)[0]?=some v)(h:∀i,i<n→∃x:α,P x∧∀j v,(row x)[j]?=some v→W.cell? (a.add (i * size+j))=some v) :
  ∃xs:List α,xs.length=n∧bg W.heap.size (some a) size (xs.map row) W∧∀x∈xs,P x:=by
 have h':∀i,i<n→∃x:{ x:α // P x },∀j v,(row x.1)[j]?=some v→W.cell? (a.add (i * size+j))=some v:=λi hi=>let ⟨x,hp,hx⟩:=h i hi;⟨⟨x,hp⟩,hx⟩;obtain⟨xs,e1,e2⟩:=FY (α:={ x:α // P x }) (row:=λx=>row x.1) n (λx=>h0 x.1) h';refine⟨xs.map (·.1),by simp[e1],?_,λx hx=>?_⟩
 ·rw[List.map_map];exact e2
 ·obtain⟨y,_,rfl⟩:=List.mem_map.1 hx;exact y.2
section
variable {H:Type} {enc:TypeId×Value→H} {W:World} {spare:Nat→Bool}
theorem jD{α:Type}{t e:TypeId}{fuel size:Nat}{v:Value}{x:DataW H×List MemPlace}{row:α→List Value}(P:α→Prop)(ht:Tryz.prog.underlying t=some (.slice e))(hC:Tryz.prog.cellsOf e=size)
  (h:DataW.trod enc Tryz.prog W 0 spare true fuel t [v]=some x) (h0:∀x,∃v,(row x)[0]?=some v)
  (hrow:∀(cs:List Value) (n:Nat) (y:DataW H×List MemPlace),cs.length=size→DataW.trod enc Tryz.prog W 0 spare true n e cs=some y→∃x,row x=cs∧P x) :
  ∃(a:Option Addr) (cap:Nat) (xs:List α),v=.slice a xs.length cap∧bg W.heap.size a size (xs.map row) W∧∀x∈xs,P x:=by
 rcases open_slice ht h with⟨hcs,_⟩|⟨a,len,cap,m,n,D,Pl,hcs,_,hl,hm,hmm,_,hi⟩
 ·obtain rfl:v=.slice none 0 0:=by simpa using hcs
  exact⟨none,0,[],rfl,(λi r hr=>by simp at hr),λx hx=>by cases hx⟩
 ·obtain rfl:v=.slice (some a) len cap:=by simpa using hcs
  have hlm:len≤m:=by rw[hmm];split<;>omega
  obtain⟨xs,e1,e3,e4⟩:=Tc (W:=W) (a:=a) (size:=size) (row:=row) P len h0 λi him=>by
   obtain⟨cs',hc,ht'⟩:=hi i (by omega);rw[hC]at hc;obtain⟨_,hcl,hat⟩:=World.cells?_some hc;obtain⟨x,hx,hp⟩:=hrow cs' _ _ hcl ht';refine⟨x,hp,λj v hv=>?_⟩;rw[hx]at hv;have hjl:j<size:=by have:=(List.getElem?_eq_some_iff.1 hv).1;omega
   have:=hat j hjl;rw[Go.Deep.add_add]at this;rw[this,hv]
  subst e1;exact⟨some a,cap,xs,rfl,e3,e4⟩
theorem JX{t:TypeId}{fs:Array Field}{fuel:Nat}{cs:List Value}{x:DataW H×List MemPlace}(ht:Tryz.prog.underlying t=some (.struct fs))(h:DataW.trod enc Tryz.prog W 0 spare true fuel t cs=some x) :
  ∃n,∀(i:Nat) (f:Field),fs[i]?=some f→∃y,DataW.trod enc Tryz.prog W 0 spare true n f.type ((cs.drop f.offset).take (Tryz.prog.cellsOf f.type))=some y:=by
 obtain⟨xs,n,_,_,_,hl,hf⟩:=DataW.trod_struct ht h;refine⟨n,λi f hi=>?_⟩;have hil:i<xs.length:=by rw[hl];exact(Array.getElem?_eq_some_iff.1 hi).1
 exact⟨xs[i],(hf i f hi).trans (List.getElem?_eq_getElem hil)⟩
theorem jI{t:TypeId}{fs:Array Field}{fuel:Nat}{cs:List Value}{x:DataW H×List MemPlace}(ht:Tryz.prog.underlying t=some (.struct fs))(h:DataW.trod enc Tryz.prog W 0 spare true fuel t cs=some x) :
  ∃n,∀(i ty off k:Nat),(fs[i]?).map (λf=>(f.type,f.offset))=some (ty,off)→Tryz.prog.cellsOf ty=k→∃y,DataW.trod enc Tryz.prog W 0 spare true n ty ((cs.drop off).take k)=some y:=by
 obtain⟨n,hn⟩:=JX ht h;refine⟨n,λi ty off k hf hk=>?_⟩;obtain⟨f,hi,he⟩:=Option.map_eq_some_iff.1 hf;cases he;subst hk;exact hn i f hi
theorem fJ{fuel:Nat}{c:Value}{y:DataW H×List MemPlace}(h:DataW.trod enc Tryz.prog W 0 spare true fuel 3 [c]=some y):∃n:Int,c=.int .i64 n:=by
 obtain⟨n,e,_,_⟩:=DataW.trod_int Tryz.underlying3 h;exact⟨n,by simpa using e⟩
theorem Pn{fuel:Nat}{c:Value}{y:DataW H×List MemPlace}(h:DataW.trod enc Tryz.prog W 0 spare true fuel 32 [c]=some y):∃n:Int,c=.int .i64 n:=by
 obtain⟨n,e,_,_⟩:=DataW.trod_int (show Tryz.prog.underlying 32=some (.int .i64) by kernel_rfl) h;exact⟨n,by simpa using e⟩
theorem Tq{fuel:Nat}{c:Value}{y:DataW H×List MemPlace}(h:DataW.trod enc Tryz.prog W 0 spare true fuel 9 [c]=some y):∃s:ByteArray,c=.string s:=by
 obtain⟨s,e,_,_⟩:=DataW.trod_string Tryz.underlying9 h;exact⟨s,by simpa using e⟩
theorem und84:Tryz.prog.underlying 84=some (.struct (Tryz.prog.fieldsOf 84)):=by kernel_rfl
theorem und34:Tryz.prog.underlying 34=some (.struct (Tryz.prog.fieldsOf 34)):=by kernel_rfl
theorem und51:Tryz.prog.underlying 51=some (.struct (Tryz.prog.fieldsOf 51)):=by kernel_rfl
theorem und58:Tryz.prog.underlying 58=some (.struct (Tryz.prog.fieldsOf 58)):=by kernel_rfl
theorem und180:Tryz.prog.underlying 180=some (.struct (Tryz.prog.fieldsOf 180)):=by kernel_rfl
theorem und225:Tryz.prog.underlying 225=some (.struct (Tryz.prog.fieldsOf 225)):=by kernel_rfl
theorem und31:Tryz.prog.underlying 31=some (.struct (Tryz.prog.fieldsOf 31)):=by kernel_rfl
theorem und37:Tryz.prog.underlying 37=some (.struct (Tryz.prog.fieldsOf 37)):=by kernel_rfl
theorem vg:Tryz.prog.cellsOf 3=1:=by kernel_rfl
theorem cel32:Tryz.prog.cellsOf 32=1:=by kernel_rfl
theorem cel9:Tryz.prog.cellsOf 9=1:=by kernel_rfl
theorem Dv:Tryz.prog.cellsOf 34=2:=by kernel_rfl
theorem cel31:Tryz.prog.cellsOf 31=2:=by kernel_rfl
theorem cel28:Tryz.prog.cellsOf 28=1:=by kernel_rfl
theorem cel29:Tryz.prog.cellsOf 29=1:=by kernel_rfl
theorem cel35:Tryz.prog.cellsOf 35=1:=by kernel_rfl
theorem cel54:Tryz.prog.cellsOf 54=1:=by kernel_rfl
theorem cel55:Tryz.prog.cellsOf 55=1:=by kernel_rfl
theorem cel56:Tryz.prog.cellsOf 56=1:=by kernel_rfl
theorem cel58:Tryz.prog.cellsOf 58=4:=by kernel_rfl
theorem cel180:Tryz.prog.cellsOf 180=3:=by kernel_rfl
theorem cel225:Tryz.prog.cellsOf 225=2:=by kernel_rfl
theorem cel51:Tryz.prog.cellsOf 51=6:=by kernel_rfl
theorem cel84:Tryz.prog.cellsOf 84=2:=by kernel_rfl
theorem Ti{n:Nat}{y:DataW H×List MemPlace}(cs:List Value)(hl:cs.length=2)(h:DataW.trod enc Tryz.prog W 0 spare true n 84 cs=some y):∃x:uT,x.row=cs∧True:=by
 obtain⟨m,hm⟩:=jI und84 h
 match cs,hl with
 | [c0,c1],_=>
  obtain⟨_,h0⟩:=hm 0 3 0 1 (by kernel_rfl) vg;obtain⟨_,h1⟩:=hm 1 3 1 1 (by kernel_rfl) vg;obtain⟨a,rfl⟩:=fJ h0;obtain⟨b,rfl⟩:=fJ h1;exact⟨⟨a,b⟩,rfl,trivial⟩
theorem pap_row{n:Nat}{y:DataW H×List MemPlace}(cs:List Value)(hl:cs.length=2)(h:DataW.trod enc Tryz.prog W 0 spare true n 225 cs=some y):∃x:pI,x.row=cs∧True:=by
 obtain⟨m,hm⟩:=jI und225 h
 match cs,hl with
 | [c0,c1],_=>
  obtain⟨_,h0⟩:=hm 0 3 0 1 (by kernel_rfl) vg;obtain⟨_,h1⟩:=hm 1 3 1 1 (by kernel_rfl) vg;obtain⟨a,rfl⟩:=fJ h0;obtain⟨b,rfl⟩:=fJ h1;exact⟨⟨a,b⟩,rfl,trivial⟩
theorem kM{n:Nat}{y:DataW H×List MemPlace}{c0 c1:Value}(h:DataW.trod enc Tryz.prog W 0 spare true n 34 [c0,c1]=some y):∃a b:Int,c0=.int .i64 a∧c1=.int .i64 b:=by
 obtain⟨m,hm⟩:=jI und34 h;obtain⟨_,h0⟩:=hm 0 3 0 1 (by kernel_rfl) vg;obtain⟨_,h1⟩:=hm 1 32 1 1 (by kernel_rfl) cel32;obtain⟨a,rfl⟩:=fJ h0;obtain⟨b,rfl⟩:=Pn h1;exact⟨a,b,rfl,rfl⟩
theorem due_row{n:Nat}{y:DataW H×List MemPlace}(cs:List Value)(hl:cs.length=6)(h:DataW.trod enc Tryz.prog W 0 spare true n 51 cs=some y):∃x:Gn,x.row=cs∧True:=by
 obtain⟨m,hm⟩:=jI und51 h
 match cs,hl with
 | [c0,c1,c2,c3,c4,c5],_=>
  obtain⟨_,h0⟩:=hm 0 3 0 1 (by kernel_rfl) vg;obtain⟨_,h1⟩:=hm 1 34 1 2 (by kernel_rfl) Dv;obtain⟨_,h3⟩:=hm 2 3 3 1 (by kernel_rfl) vg;obtain⟨_,h4⟩:=hm 3 3 4 1 (by kernel_rfl) vg;obtain⟨_,h5⟩:=hm 4 3 5 1 (by kernel_rfl) vg;obtain⟨a,rfl⟩:=fJ h0;obtain⟨b,c,rfl,rfl⟩:=kM h1;obtain⟨d,rfl⟩:=fJ h3;obtain⟨e,rfl⟩:=fJ h4;obtain⟨f,rfl⟩:=fJ h5;exact⟨⟨a,b,c,d,e,f⟩,rfl,trivial⟩
theorem DL{fuel:Nat}{v:Value}{x:DataW H×List MemPlace}(h:DataW.trod enc Tryz.prog W 0 spare true fuel 28 [v]=some x):∃(a:Option Addr) (cap:Nat) (xs:List Int),v=.slice a xs.length cap∧bg W.heap.size a 1 (jZ xs) W:=by
 obtain⟨a,k,xs,e,hr,_⟩:=jD (row:=λi:Int=>[.int .i64 i]) (λ_=>True) (show Tryz.prog.underlying 28=some (.slice 3) by kernel_rfl) vg (size:=1) h (λx=>⟨_,rfl⟩) λcs n y hl hy=>by
  match cs,hl with
  | [c],_=>
   obtain⟨i,rfl⟩:=fJ hy;exact⟨i,rfl,trivial⟩
 exact⟨a,k,xs,e,hr⟩
theorem clm_row{n:Nat}{y:DataW H×List MemPlace}(cs:List Value)(hl:cs.length=3)(h:DataW.trod enc Tryz.prog W 0 spare true n 180 cs=some y):∃x:mJ,x.row=cs∧ou W.heap.size x W:=by
 obtain⟨m,hm⟩:=jI und180 h
 match cs,hl with
 | [c0,c1,c2],_=>
  obtain⟨_,h0⟩:=hm 0 3 0 1 (by kernel_rfl) vg;obtain⟨_,h1⟩:=hm 1 3 1 1 (by kernel_rfl) vg;obtain⟨_,h2⟩:=hm 2 28 2 1 (by kernel_rfl) cel28;obtain⟨a,rfl⟩:=fJ h0;obtain⟨b,rfl⟩:=fJ h1;obtain⟨p,k,xs,rfl,hr⟩:=DL h2;exact⟨⟨a,b,p,xs,k⟩,rfl,⟨hr⟩⟩
theorem app_row{n:Nat}{y:DataW H×List MemPlace}(cs:List Value)(hl:cs.length=4)(h:DataW.trod enc Tryz.prog W 0 spare true n 58 cs=some y):∃x:zu,x.row=cs∧Dj W.heap.size x W:=by
 obtain⟨m,hm⟩:=jI und58 h
 match cs,hl with
 | [c0,c1,c2,c3],_=>
  obtain⟨_,h0⟩:=hm 0 9 0 1 (by kernel_rfl) cel9;obtain⟨_,h1⟩:=hm 1 55 1 1 (by kernel_rfl) cel55;obtain⟨_,h2⟩:=hm 2 56 2 1 (by kernel_rfl) cel56;obtain⟨_,h3⟩:=hm 3 54 3 1 (by kernel_rfl) cel54;obtain⟨s,rfl⟩:=Tq h0;obtain⟨a1,k1,x1,rfl,r1,_⟩:=jD (row:=pI.row) (λ_=>True) (show Tryz.prog.underlying 55=some (.slice 225) by kernel_rfl) cel225 (size:=2) h1 (λx=>⟨_,rfl⟩) λcs n y hl hy=>pap_row cs hl hy;obtain⟨a2,k2,x2,rfl,r2,p2⟩:=jD (row:=mJ.row) (λx=>ou W.heap.size x W) (show Tryz.prog.underlying 56=some (.slice 180) by kernel_rfl) cel180 (size:=3) h2 (λx=>⟨_,rfl⟩) λcs n y hl hy=>clm_row cs hl hy;obtain⟨a3,k3,x3,rfl,r3,_⟩:=jD (row:=Gn.row) (λ_=>True) (show Tryz.prog.underlying 54=some (.slice 51) by kernel_rfl) cel51 (size:=6) h3 (λx=>⟨_,rfl⟩) λcs n y hl hy=>due_row cs hl hy;exact⟨⟨s,a1,x1,k1,a2,x2,k2,a3,x3,k3⟩,rfl,⟨r1,r2,p2,r3⟩⟩
theorem Qi{n:Nat}{y:DataW H×List MemPlace}{c0 c1:Value}(h:DataW.trod enc Tryz.prog W 0 spare true n 31 [c0,c1]=some y) :
  ∃(la:Option Addr) (lc:Nat) (ls:List Int) (sa:Option Addr) (sc:Nat) (ss:List uT),c0=.slice la ls.length lc∧c1=.slice sa ss.length sc∧bg W.heap.size la 1 (jZ ls) W∧bg W.heap.size sa 2 (ss.map uT.row) W:=by
 obtain⟨m,hm⟩:=jI und31 h;obtain⟨_,h0⟩:=hm 0 28 0 1 (by kernel_rfl) cel28;obtain⟨_,h1⟩:=hm 1 29 1 1 (by kernel_rfl) cel29;obtain⟨p,k,xs,e,hr⟩:=DL h0;obtain⟨a1,k1,x1,e1,r1,_⟩:=jD (row:=uT.row) (λ_=>True) (show Tryz.prog.underlying 29=some (.slice 84) by kernel_rfl) cel84 (size:=2) h1 (λx=>⟨_,rfl⟩) λcs n y hl hy=>Ti cs hl hy;exact⟨p,k,xs,a1,k1,x1,e,e1,hr,r1⟩
theorem array15{cs:Array Value}(h:cs.size=15):∃c0 c1 c2 c3 c4 c5 c6 c7 c8 c9 c10 c11 c12 c13 c14,cs=#[c0,c1,c2,c3,c4,c5,c6,c7,c8,c9,c10,c11,c12,c13,c14]:=by
 obtain⟨l⟩:=cs
 match l,h with
 | [c0,c1,c2,c3,c4,c5,c6,c7,c8,c9,c10,c11,c12,c13,c14],_=>exact⟨c0,c1,c2,c3,c4,c5,c6,c7,c8,c9,c10,c11,c12,c13,c14,rfl⟩
theorem QO{n:Nat}{y:DataW H×List MemPlace}{c0 c1 c2 c3 c4 c5 c6 c7 c8 c9 c10 c11 c12 c13 c14:Value}(h:DataW.trod enc Tryz.prog W 0 spare true n 37 [c0,c1,c2,c3,c4,c5,c6,c7,c8,c9,c10,c11,c12,c13,c14]=some y) :
  ∃f:bM,(#[c0,c1,c2,c3,c4,c5,c6,c7,c8,c9,c10,c11,c12,c13,c14]:Array Value)=f.arr∧fP W.heap.size f W:=by
 obtain⟨m,hm⟩:=jI und37 h;obtain⟨_,h0⟩:=hm 0 31 0 2 (by kernel_rfl) cel31;obtain⟨_,h1⟩:=hm 1 3 2 1 (by kernel_rfl) vg;obtain⟨_,h2⟩:=hm 2 34 3 2 (by kernel_rfl) Dv;obtain⟨_,h3⟩:=hm 3 34 5 2 (by kernel_rfl) Dv;obtain⟨_,h4⟩:=hm 4 34 7 2 (by kernel_rfl) Dv;obtain⟨_,h5⟩:=hm 5 34 9 2 (by kernel_rfl) Dv;obtain⟨_,h6⟩:=hm 6 34 11 2 (by kernel_rfl) Dv;obtain⟨_,h7⟩:=hm 7 3 13 1 (by kernel_rfl) vg;obtain⟨_,h8⟩:=hm 8 35 14 1 (by kernel_rfl) cel35;obtain⟨la,lc,ls,sa,sc,ss,rfl,rfl,r1,r2⟩:=Qi h0;obtain⟨k,rfl⟩:=fJ h1;obtain⟨t0,u0,rfl,rfl⟩:=kM h2;obtain⟨t1,u1,rfl,rfl⟩:=kM h3;obtain⟨t2,u2,rfl,rfl⟩:=kM h4;obtain⟨t3,u3,rfl,rfl⟩:=kM h5;obtain⟨t4,u4,rfl,rfl⟩:=kM h6;obtain⟨i,rfl⟩:=fJ h7;obtain⟨a,c,xs,rfl,r3,p3⟩:=jD (row:=zu.row) (λx=>Dj W.heap.size x W) (show Tryz.prog.underlying 35=some (.slice 58) by kernel_rfl) cel58 (size:=4) h8 (λx=>⟨_,rfl⟩) λcs n y hl hy=>app_row cs hl hy;exact⟨⟨la,ls,lc,sa,ss,sc,k,t0,u0,t1,u1,t2,u2,t3,u3,t4,u4,i,a,xs,c⟩,rfl,⟨aj _,r1,r2⟩,r3,p3⟩
theorem OL{b0:Nat}{r:Reach}{v:Value}{d:DataW H}{p:List MemPlace}(hv:Value.okWide Tryz.prog W r b0 37 v)(h:DataW.Trod enc Tryz.prog W 0 spare true 37 v d p):∃f:bM,v=.agg f.arr∧fP W.heap.size f W:=by
 obtain⟨cs,rfl,hsz⟩:=okWide_struct und37 hv;obtain⟨c0,c1,c2,c3,c4,c5,c6,c7,c8,c9,c10,c11,c12,c13,c14,rfl⟩:=array15 (hsz.trans (by kernel_rfl));obtain⟨fuel,hf⟩:=h;obtain⟨f,e,hF⟩:=QO (by simpa[Value.cells]using hf);exact⟨f,by rw[e],hF⟩
end
end
