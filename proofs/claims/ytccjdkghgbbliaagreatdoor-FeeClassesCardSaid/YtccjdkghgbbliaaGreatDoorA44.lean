/- A region that draws its order and holds calls beside leavers, walked once in the text's order, with slots not known ahead. Nothing of the program stands here. -/
import Derived.Test.YtccjdkghgbbliaaGreatDoorA43
set_option linter.all false
namespace Go.Proofs.YtccjdkghgbbliaaGreatDoor
section
namespace Lift
set_option maxHeartbeats 1000000
set_option maxRecDepth 10000
open Go Go.Conc
abbrev Wmr:=(Nat→Bool)→(Tmp→Value)→World→Blks→Prop
section
variable [Keep] {P:Program} {F:FuncId→Prop} {ops:Array Oper} {Q:Qr}
variable (P F ops)in
def QL(W:Wmr)(gl:List Tmp)(i:Nat)(o:Oper)(a:Act)(v:Value):Prop:=
 (∀S,QK (fen F) 0 P ops (λD x w=>W D x w S) gl i o a v)∨
 ((∀g∈gl,o.dst≠some g)∧∃(f:FuncId) (fn:Func) (body:Code) (args:Array Operand) (ats:Array TypeId),o.op=.call { callee:=.value (.func f),args,argTypes:=ats }∧P.funcs[f]?=some fn∧(fn.name == "runtime.NumGoroutine")=false∧fn.body=some body∧
   ∀D x w S,jZ ops D i→W D x w S→CallsR P F f (args.map (Act.bQ a gl x).eval) w S (λu w' S'=>u=v∧W (bK D i) x w' S'))
variable (P F ops)in
def kV(W:Wmr)(gl:List Tmp):List Nat→Act→(Act→Prop)→Prop
 | [],a,R=>R a
 |i::rest,a,R=>∃o,ops[i]?=some o∧
   (((∀x,Region.wanted o (yielded ops (Act.bQ a gl x).tmps)=true)∧∃v,QL P F ops W gl i o a v∧kV W gl rest (a.put o.dst v) R)∨
    ((∀x,Region.wanted o (yielded ops (Act.bQ a gl x).tmps)=false)∧(∀g∈gl,o.dst≠some g)∧(∀x w f,o.about P w (Act.bQ a gl x).eval=some f→F f)∧(∀D x w S,jZ ops D i→W D x w S→W (bK D i) x w S)∧kV W gl rest (a.put o.dst undef) R))
variable (P F ops)in
def QE(W:Wmr)(gl:List Tmp)(i:Nat)(a:Act)(v:Value):Prop:=∃o,ops[i]?=some o∧
 (((∀x,Region.wanted o (yielded ops (Act.bQ a gl x).tmps)=true)∧QL P F ops W gl i o a v)∨
  ((∀x,Region.wanted o (yielded ops (Act.bQ a gl x).tmps)=false)∧(∀g∈gl,o.dst≠some g)∧(∀x w f,o.about P w (Act.bQ a gl x).eval=some f→F f)∧(∀D x w S,jZ ops D i→W D x w S→W (bK D i) x w S)∧v=undef))
theorem KN{W:Wmr}{gl:List Tmp}{R:Act→Prop}:∀(k s:Nat) (a:Act),kV P F ops W gl (List.range' s k) a R→
  ∃(vals:Nat→Value) (acts:Nat→Act),acts s=a∧(∀i,s≤i→i<s+k→acts (i+1)=(acts i).put (eH ops i) (vals i)∧QE P F ops W gl i (acts i) (vals i))∧R (acts (s+k)):=by
 intro k
 induction k with
 |zero=>intro s a h;exact⟨λ_=>undef,λ_=>a,rfl,λi h1 h2=>by omega,h⟩
 |succ k ih=>
  intro s a h;rw[List.range'_succ]at h;obtain⟨o,ho,h⟩:=h;have hd:eH ops s=o.dst:=by simp[eH,ho]
  have:∃v,QE P F ops W gl s a v∧kV P F ops W gl (List.range' (s+1) k) (a.put o.dst v) R:=by
   rcases h with⟨hw,v,h1,h2⟩|⟨hw,h0,h1,h3,h2⟩
   ·exact⟨v,⟨o,ho,.inl ⟨hw,h1⟩⟩,h2⟩
   ·exact⟨undef,⟨o,ho,.inr ⟨hw,h0,h1,h3,rfl⟩⟩,h2⟩
  obtain⟨v,hg,h2⟩:=this;obtain⟨vals,acts,e,hall,hR⟩:=ih (s+1) _ h2;refine⟨λj=>if j=s then v else vals j,λj=>if j=s then a else acts j,by simp,λi h1 h2=>?_,?_⟩
  ·by_cases hi:i=s
   ·subst hi;simp only[if_pos];rw[if_neg (by omega),e,hd];exact⟨rfl,hg⟩
   ·simp only[if_neg hi];rw[if_neg (by omega)];exact hall i (by omega) (by omega)
  ·show R (if s+(k+1)=s then a else acts (s+(k+1)))
   rw[if_neg (by omega),show s+(k+1)=s+1+k by omega];exact hR
theorem ni(H:Fit P F){id:Nat}{a₀:Act}{w₀:World}{S₀:Blks}(hm:P.follows .mixedOrders=true)(ht:textual ops=true)(W:Wmr)(gl:List Tmp)(hτ:∀D x w S τ d,W D x w S→W D x (bH w τ d) S)
  {x₀:Tmp→Value} (hg0:∀g∈gl,a₀.tmps[g]?=some (x₀ g)) (h0:W (λ_=>false) x₀ w₀ S₀)
  (h:kV P F ops W gl (List.range ops.size) a₀ (λa=>∀x w S,W (λj=>decide (j<ops.size)) x w S→Q .normal (Act.bQ a gl x) w S)):wpR P F (.region id ops true) Q a₀ w₀ S₀:=by
 rw[List.range_eq_range']at h;obtain⟨vals,acts,rfl,hall,hR⟩:=KN ops.size 0 a₀ h;rw[Nat.zero_add]at hR
 refine rJ H hm (xJ (σ:=World×Blks) (gl:=gl) (x₀:=x₀) (s₀:=(w₀,S₀)) ht (λD x s=>W D x s.1 s.2) (λfuel l a s=>QU P F ops Q fuel l a s.1 s.2) (λa s=>Q .normal a s.1 s.2) (λi K a s=>opR P F ops i (λa' w' S'=>K a' (w',S')) a s.1 s.2)
  (λi hi=>(hall i (Nat.zero_le _) (by omega)).1) (λl a s h1 h2=>⟨h1,h2⟩) (λfuel l a s h1 h2=>⟨h1,h2⟩) (λi o ho hns D x s a K hmay hW hsz hev hwant hK=>?_) (λx s hW=>hR x s.1 s.2 hW) hg0 h0)
 obtain⟨w,S⟩:=s;have hi:i<ops.size:=(Array.getElem?_eq_some_iff.1 ho).1;obtain⟨_,o',ho',hg⟩:=hall i (Nat.zero_le _) (by omega);rw[ho]at ho';cases ho';intro rest Q' hk;rcases hg with⟨hw,hst⟩|⟨hw,hdg,hab,hkeep,hv⟩
 ·rcases hst with hst|⟨hng,f,fn,body,args,ats,hop,hf,hname,hb,hst⟩
  ·exact xI H ho (by rw[hwant];exact hw x) (K:=λa' w'=>K a' (w',S)) (λτ d=>mF (F:=fen F) rfl hns hsz hev (hst S D x (bH w τ d) hmay (hτ _ _ _ _ τ d hW)) λu w' hT=>hK u (w',S) hT) λa' w' q=>hk a' w' S q
  ·have hargs:args.map a.eval=args.map (Act.bQ (acts i) gl x).eval:=by
    apply Array.map_congr_left;intro y hy;exact hev y (by rw[hop];simp[Op.operands,Call.operands,hy])
   have hc:=hst D x w S hmay hW;rw[← hargs]at hc;exact xH H ho (by rw[hwant];exact hw x) hop hf hname hb hc λu w' S' ⟨e,hW'⟩=>hk _ _ _ (hK u (w',S') ⟨λg hg hd=>absurd hd (hng g hg),λ_=>⟨e,hW'⟩⟩)
 ·exact uj H ho (by rw[hwant];exact hw x) (λτ d f hf=>hab x (bH w τ d) f (by rw[← hf];exact(about_congr o _ hev).symm)) (hk _ _ _ (hK _ (w,S) ⟨λg hg hd=>absurd hd (hdg g hg),λ_=>⟨hv.symm,hkeep D x w S hmay hW⟩⟩))
section
variable {W:Wmr} {gl:List Tmp} {i:Nat} {rest:List Nat} {a:Act} {R:Act→Prop} {o:Oper}
theorem Ip(v:Value)(ho:ops[i]?=some o)(hw:∀x,Region.wanted o (yielded ops (Act.bQ a gl x).tmps)=true)(hd:∀g∈gl,o.dst≠some g)
  (hs:∀D x w S,jZ ops D i→W D x w S→∀K Q,(∀w',W (bK D i) x w' S→K ((Act.bQ a gl x).put o.dst v) w')→o.wpIn (fen F) 0 P (Act.bQ a gl x) w K Q) (hr:kV P F ops W gl rest (a.put o.dst v) R):kV P F ops W gl (i::rest) a R:=
 ⟨o,ho,.inl ⟨hw,v,.inl λS D x w hm hW=>hs D x w S hm hW _ _ λw' hw'=>⟨v,rfl,λg hg h=>absurd h (hd g hg),λ_=>⟨rfl,hw'⟩⟩,hr⟩⟩
theorem Ro{u0:Value}(g:Tmp)(hgl:g∈gl)(ho:ops[i]?=some o)(hw:∀x,Region.wanted o (yielded ops (Act.bQ a gl x).tmps)=true)(hd:o.dst=some g)
  (hs:∀D x w S,jZ ops D i→W D x w S→∀K Q,(∀u w',W (bK D i) (mO x g u) w' S→K ((Act.bQ a gl x).put (some g) u) w')→o.wpIn (fen F) 0 P (Act.bQ a gl x) w K Q) (hr:kV P F ops W gl rest (a.put o.dst u0) R):kV P F ops W gl (i::rest) a R:=
 ⟨o,ho,.inl ⟨hw,u0,.inl λS D x w hm hW=>hs D x w S hm hW _ _ λu w' hw'=>⟨u,by rw[hd],λk _ h=>by(rw[hd]at h;cases h;exact hw'),λh=>absurd hd (h g hgl)⟩,hr⟩⟩
end
end
end Lift
end
section
set_option maxHeartbeats 1000000
set_option maxRecDepth 10000
set_option maxHeartbeats 16000000
set_option maxRecDepth 100000
open Go Go.Conc Go.RowKit Lift
def aJ.wit(b:aJ)(k:Nat)(cl du:Int):aJ:=b.nM k { b.aP k with classes:=cl,due:=du }
theorem kT{b:aJ}(hR:b.Right)(hst:∀p∈b.ps,p.kind≠2){k:Nat}(hk:k<b.cs.length){cl du:Int}(hc:0≤cl∧cl≤45)(hd:0≤du∧du≤9999):(b.wit k cl du).Right:=by
 have h:=hR.k (b.aP k) (by rw[dS hk];exact List.getElem_mem _);exact MP hR hst hk rfl ⟨h.1,hc,hd,h.2.2.2.1,h.2.2.2.2⟩
theorem wit_wit{b:aJ}{k:Nat}(hk:k<b.cs.length)(cl du cl' Rt:Int):(b.wit k cl du).wit k cl' Rt=b.wit k cl' Rt:=by
 have e:(b.wit k cl du).aP k={ b.aP k with classes:=cl,due:=du }:=by
  unfold aJ.wit aJ.nM aJ.aP;simp only[List.getD_eq_getElem?_getD];rw[List.getElem?_set_self hk];rfl
 show(b.wit k cl du).nM k { (b.wit k cl du).aP k with classes:=cl',due:=Rt }=_
 rw[e];unfold aJ.wit aJ.nM;rw[List.set_set]
theorem Qp{b:aJ}(hR:b.Right)(hst:∀p∈b.ps,p.kind≠2){k:Nat}(hk:k<b.cs.length){c1 d1 c2 d2:Int}(h1:0≤c1∧c1≤45)(h2:0≤c2∧c2≤45)(hd1:0≤d1∧d1≤9999)(hd2:0≤d2∧d2≤9999)(hc:c2≤c1)(hd:d1≤d2) :
  ∀c,c<(b.wit k c1 d1).to.cs.length→(b.wit k c1 d1).to.keeps c=true→(b.wit k c2 d2).to.keeps c=true∧(((b.wit k c2 d2).to.after 9999).cases c).day≤(((b.wit k c1 d1).to.after 9999).cases c).day:=by
 have hk':k<(b.wit k c1 d1).cs.length:=by unfold aJ.wit aJ.nM;simpa using hk
 have e:(b.wit k c1 d1).aP k={ b.aP k with classes:=c1,due:=d1 }:=by
  unfold aJ.wit aJ.nM aJ.aP;simp only[List.getD_eq_getElem?_getD];rw[List.getElem?_set_self hk];rfl
 have hw:=wit_wit hk c1 d1 c2 d2;have hR1:=kT hR hst hk h1 hd1;have hR2:=kT hR hst hk h2 hd2;rw[← hw]at hR2 ⊢;exact MO hR1 hst hk' hR2 rfl (by rw[e];exact hc) (by rw[e];exact hd) (by rw[e];simp only;omega) (by rw[e];exact Int.le_refl _)
theorem vH(b:aJ)(k:Nat)(cl du:Int):(b.wit k cl du).cs.length=b.cs.length:=by simp[aJ.wit,aJ.nM]
def qy(l:Lay)(b:aJ)(v:Value)(w:World):Prop:=∃g c,v=.agg (({ l with kb:=some ⟨g,0,none⟩,kc:=c }:Lay).bP b)∧bW w.heap.size { l with kb:=some ⟨g,0,none⟩,kc:=c } b w
theorem qy.grow{l:Lay}{b:aJ}{v:Value}{w w':World}(h:qy l b v w)(hg:Grow w.heap.size w w'):qy l b v w':=by
 obtain⟨g,c,e,hb⟩:=h;have:=hb.grow hg;exact⟨g,c,e,ak _,this.cs.mono this.hN,this.ts.mono this.hN,this.ks.mono this.hN,this.ps.mono this.hN⟩
section
variable [Keep] {ops:Array Oper} {W:Wmr} {gl:List Tmp} {i:Nat} {rest:List Nat} {a:Act} {R:Act→Prop} {o:Oper}
theorem iI{u0:Tmp→Value}(ho:ops[i]?=some o)(hw:∀x,Region.wanted o (yielded ops (Act.bQ a gl x).tmps)=true)(hd:∀g∈gl,o.dst≠some g)(hu:∀g∈gl,a.tmps[g]?=some (u0 g))
  (hr:∃af:(Tmp→Value)→Act,(∀D x w S,jZ ops D i→W D x w S→∀K Q,(∀w',W (bK D i) x w' S→K (af x) w')→o.wpIn Fz 0 Tryz.prog (Act.bQ a gl x) w K Q)∧∃v,(∀x,af x=(Act.bQ a gl x).put o.dst v)∧kV Tryz.prog Inside ops W gl rest (af u0) R):kV Tryz.prog Inside ops W gl (i::rest) a R:=by
 obtain⟨af,hs,v,e,hr⟩:=hr;refine Ip v ho hw hd (λD x w S hm hW K Q hK=>hs D x w S hm hW K Q λw' hw'=>by rw[e];exact hK w' hw') ?_;have:=e u0;rw[EI hu]at this;rw[← this];exact hr
theorem iJ{u0:Value}(g:Tmp)(hgl:g∈gl)(ho:ops[i]?=some o)(hw:∀x,Region.wanted o (yielded ops (Act.bQ a gl x).tmps)=true)(hd:o.dst=some g)(hu:a.tmps[g]?=some u0)
  (hs:∀D x w S,jZ ops D i→W D x w S→∀K Q,(∀u w',W (bK D i) (mO x g u) w' S→K ((Act.bQ a gl x).put (some g) u) w')→o.wpIn Fz 0 Tryz.prog (Act.bQ a gl x) w K Q) (hr:kV Tryz.prog Inside ops W gl rest a R):kV Tryz.prog Inside ops W gl (i::rest) a R:=by
 refine Ro (u0:=u0) g hgl ho hw hd hs ?_;have:a.put o.dst u0=a:=by
  rw[hd];obtain⟨t,d⟩:=a;simp only[Act.put]
  congr 1
  apply Array.ext_getElem?;intro k;by_cases h:g=k
  ·subst h;rw[Array.getElem?_setIfInBounds_self_of_lt (Array.getElem?_eq_some_iff.1 hu).1];exact hu.symm
  ·rw[aB h]
 rw[this];exact hr
end
end
section
set_option maxHeartbeats 1000000
set_option maxRecDepth 10000
set_option maxHeartbeats 16000000
set_option maxRecDepth 100000
open Go Go.RowKit Go.ChangeShapes Go.WideShapes Go.Deep Go.Joins
theorem Uh{α:Type}{W:World}{a:Addr}{size:Nat}{row:α→List Value}(P:α→Prop)(n:Nat)(h0:∀x,∃v,(row x)[0]?=some v)(h:∀i,i<n→∃x:α,P x∧∀j v,(row x)[j]?=some v→W.cell? (a.add (i * size+j))=some v) :
  ∃xs:List α,xs.length=n∧bC W.heap.size (some a) size (xs.map row) W∧∀x∈xs,P x:=by
 have h':∀i,i<n→∃x:{ x:α // P x },∀j v,(row x.1)[j]?=some v→W.cell? (a.add (i * size+j))=some v:=λi hi=>let ⟨x,hp,hx⟩:=h i hi;⟨⟨x,hp⟩,hx⟩;obtain⟨xs,e1,e2⟩:=GU (α:={ x:α // P x }) (row:=λx=>row x.1) n (λx=>h0 x.1) h';refine⟨xs.map (·.1),by simp[e1],?_,λx hx=>?_⟩
 ·rw[List.map_map];exact e2
 ·obtain⟨y,_,rfl⟩:=List.mem_map.1 hx;exact y.2
section
variable {H:Type} {enc:TypeId×Value→H} {W:World} {spare:Nat→Bool}
theorem lU{α:Type}{t e:TypeId}{fuel size:Nat}{v:Value}{x:DataW H×List MemPlace}{row:α→List Value}(P:α→Prop)(ht:Tryz.prog.underlying t=some (.slice e))(hC:Tryz.prog.cellsOf e=size)
  (h:DataW.trod enc Tryz.prog W 0 spare true fuel t [v]=some x) (h0:∀x,∃v,(row x)[0]?=some v)
  (hrow:∀(cs:List Value) (n:Nat) (y:DataW H×List MemPlace),cs.length=size→DataW.trod enc Tryz.prog W 0 spare true n e cs=some y→∃x,row x=cs∧P x) :
  ∃(a:Option Addr) (cap:Nat) (xs:List α),v=.slice a xs.length cap∧bC W.heap.size a size (xs.map row) W∧∀x∈xs,P x:=by
 rcases open_slice ht h with⟨hcs,_⟩|⟨a,len,cap,m,n,D,Pl,hcs,_,hl,hm,hmm,_,hi⟩
 ·obtain rfl:v=.slice none 0 0:=by simpa using hcs
  exact⟨none,0,[],rfl,(λi r hr=>by simp at hr),λx hx=>by cases hx⟩
 ·obtain rfl:v=.slice (some a) len cap:=by simpa using hcs
  have hlm:len≤m:=by rw[hmm];split<;>omega
  obtain⟨xs,e1,e3,e4⟩:=Uh (W:=W) (a:=a) (size:=size) (row:=row) P len h0 λi him=>by
   obtain⟨cs',hc,ht'⟩:=hi i (by omega);rw[hC]at hc;obtain⟨_,hcl,hat⟩:=World.cells?_some hc;obtain⟨x,hx,hp⟩:=hrow cs' _ _ hcl ht';refine⟨x,hp,λj v hv=>?_⟩;rw[hx]at hv;have hjl:j<size:=by have:=(List.getElem?_eq_some_iff.1 hv).1;omega
   have:=hat j hjl;rw[Go.Deep.add_add]at this;rw[this,hv]
  subst e1;exact⟨some a,cap,xs,rfl,e3,e4⟩
theorem La{t:TypeId}{fs:Array Field}{fuel:Nat}{cs:List Value}{x:DataW H×List MemPlace}(ht:Tryz.prog.underlying t=some (.struct fs))(h:DataW.trod enc Tryz.prog W 0 spare true fuel t cs=some x) :
  ∃n,∀(i:Nat) (f:Field),fs[i]?=some f→∃y,DataW.trod enc Tryz.prog W 0 spare true n f.type ((cs.drop f.offset).take (Tryz.prog.cellsOf f.type))=some y:=by
 obtain⟨xs,n,_,_,_,hl,hf⟩:=DataW.trod_struct ht h;refine⟨n,λi f hi=>?_⟩;have hil:i<xs.length:=by rw[hl];exact(Array.getElem?_eq_some_iff.1 hi).1
 exact⟨xs[i],(hf i f hi).trans (List.getElem?_eq_getElem hil)⟩
theorem qF{t:TypeId}{fs:Array Field}{fuel:Nat}{cs:List Value}{x:DataW H×List MemPlace}(ht:Tryz.prog.underlying t=some (.struct fs))(h:DataW.trod enc Tryz.prog W 0 spare true fuel t cs=some x) :
  ∃n,∀(i ty off k:Nat),(fs[i]?).map (λf=>(f.type,f.offset))=some (ty,off)→Tryz.prog.cellsOf ty=k→∃y,DataW.trod enc Tryz.prog W 0 spare true n ty ((cs.drop off).take k)=some y:=by
 obtain⟨n,hn⟩:=La ht h;refine⟨n,λi ty off k hf hk=>?_⟩;obtain⟨f,hi,he⟩:=Option.map_eq_some_iff.1 hf;cases he;subst hk;exact hn i f hi
theorem jS{fuel:Nat}{c:Value}{y:DataW H×List MemPlace}(h:DataW.trod enc Tryz.prog W 0 spare true fuel 3 [c]=some y):∃n:Int,c=.int .i64 n:=by
 obtain⟨n,e,_,_⟩:=DataW.trod_int Tryz.underlying3 h;exact⟨n,by simpa using e⟩
theorem Um{fuel:Nat}{c:Value}{y:DataW H×List MemPlace}(h:DataW.trod enc Tryz.prog W 0 spare true fuel 9 [c]=some y):∃s:ByteArray,c=.string s:=by
 obtain⟨s,e,_,_⟩:=DataW.trod_string Tryz.underlying9 h;exact⟨s,by simpa using e⟩
theorem zZ:Tryz.prog.cellsOf 3=1:=by kernel_rfl
theorem cel9:Tryz.prog.cellsOf 9=1:=by kernel_rfl
end
end
