/- A book of fees that comes in as an argument, opened: its rows as they lie in memory. -/
import Derived.Lib.SmallJoins
import Derived.Conc.LeavingOf
import Derived.Test.YtnkejaohnhpbpaaGreatDoorTie
import Derived.LaidMore
import Derived.Lay
import Derived.Test.YtnkejaohnhpbpaaGreatDoorA15
import Derived.Test.YtnkejaohnhpbpaaGreatDoorA32
set_option linter.all false
namespace Go.Proofs.YtnkejaohnhpbpaaGreatDoor
section
open Go Go.RowKit Go.ChangeShapes Go.WideShapes Go.Deep Go.Joins
theorem IL{α:Type}{W:World}{a:Addr}{size:Nat}{row:α→List Value}(n:Nat)(h0:∀x,∃v,(row x)[0]?=some v)(h:∀i,i<n→∃x:α,∀j v,(row x)[j]?=some v→W.cell? (a.add (i * size+j))=some v) :
  ∃xs:List α,xs.length=n∧bZ W.heap.size (some a) size (xs.map row) W:=by
 have key:∀m,m≤n→∃xs:List α,xs.length=m∧∀i x,xs[i]?=some x→∀j v,(row x)[j]?=some v→W.cell? (a.add (i * size+j))=some v:=by
  intro m
  induction m with
  |zero=>exact λ_=>⟨[],rfl,λi x hx=>by simp at hx⟩
  |succ m ih=>
   intro hm;obtain⟨xs,e1,e3⟩:=ih (by omega);obtain⟨x,hx⟩:=h m (by omega);refine⟨xs++[x],by simp[e1],λi y hy j v hv=>?_⟩
   ·rcases Nat.lt_or_ge i xs.length with hl|hl
    ·rw[List.getElem?_append_left hl]at hy;exact e3 i y hy j v hv
    ·rw[List.getElem?_append_right hl]at hy;have hi:i-xs.length=0:=by
      rcases Nat.eq_zero_or_pos (i - xs.length)with k|k
      ·exact k
      ·rw[List.getElem?_eq_none (by simp only[aB,aF];omega)]at hy;cases hy
     rw[hi]at hy;obtain rfl:x=y:=by simpa using hy
     obtain rfl:i=m:=by omega
     exact hx j v hv
 obtain⟨xs,e1,e3⟩:=key n (ay _);refine⟨xs,e1,λi r hr=>?_⟩;rw[List.getElem?_map]at hr;obtain⟨x,hx,rfl⟩:=Option.map_eq_some_iff.1 hr;have hlen:0<xs.length:=by
  have:=(List.getElem?_eq_some_iff.1 hx).1;omega
 obtain⟨b,o,s⟩:=a;obtain⟨v0,hv0⟩:=h0 (xs[0]);have c0:=e3 0 xs[0] (List.getElem?_eq_getElem hlen) 0 v0 hv0;have hs:s=none:=by
  have:=World.cell?_spot c0;simpa[Addr.add]using this
 subst hs;refine⟨b,o,rfl,?_,λj v hv=>?_⟩
 ·have:=c0;simp only[Nat.zero_mul,Nat.add_zero,Addr.add_mid]at this;unfold World.cell? at this;rcases Nat.lt_or_ge b W.heap.size with hb|hb
  ·exact hb
  ·rw[Array.getElem?_eq_none hb]at this;cases this
 ·have:=e3 i x hx j v hv;rw[Addr.add_mid,← Nat.add_assoc]at this;exact this
section
variable {H:Type} {enc:TypeId×Value→H} {W:World} {spare:Nat→Bool}
theorem yZ{α:Type}{t e:TypeId}{fs:Array Field}{tys:List TypeId}{fuel size:Nat}{v:Value}{x:DataW H×List MemPlace}{row:α→List Value}(ht:Tryz.prog.underlying t=some (.slice e))(he:Tryz.prog.underlying e=some (.struct fs))
  (hone:oneCellFields Tryz.prog fs=true) (hty:fs.toList.map (·.type)=tys) (hsz:tys.length=size) (hC:Tryz.prog.cellsOf e=size) (h:DataW.trod enc Tryz.prog W 0 spare true fuel t [v]=some x) (h0:∀x,∃v,(row x)[0]?=some v)
  (hrow:∀(cs:List Value) (n:Nat),cs.length=size→(∀(j:Nat) (t:TypeId) (v:Value),tys[j]?=some t→cs[j]?=some v→∃y,DataW.trod enc Tryz.prog W 0 spare true n t [v]=some y)→∃x,row x=cs) :
  ∃(a:Option Addr) (cap:Nat) (xs:List α),v=.slice a xs.length cap∧bZ W.heap.size a size (xs.map row) W:=by
 have hfs:fs.size=size:=by rw[← hsz,← hty,List.length_map,Array.length_toList]
 rcases open_slice ht h with⟨hcs,_⟩|⟨a,len,cap,m,n,D,Pl,hcs,_,hl,hm,hmm,_,hi⟩
 ·obtain rfl:v=.slice none 0 0:=by simpa using hcs
  exact⟨none,0,[],rfl,λi r hr=>by simp at hr⟩
 ·obtain rfl:v=.slice (some a) len cap:=by simpa using hcs
  have hlm:len≤m:=by rw[hmm];split<;>omega
  obtain⟨xs,e1,e3⟩:=IL (W:=W) (a:=a) (size:=size) (row:=row) len h0 λi him=>by
   obtain⟨cs',hc,ht'⟩:=hi i (by omega);rw[hC]at hc;obtain⟨ys,n',_,_,hlen,hyl,hf⟩:=DataW.trod_struct he ht';obtain⟨_,hcl,hat⟩:=World.cells?_some hc;obtain⟨x,hx⟩:=hrow cs' n' hcl λj t v hj hv=>by
    rw[← hty,List.getElem?_map,Array.getElem?_toList]at hj;obtain⟨f,hf0,rfl⟩:=Option.map_eq_some_iff.1 hj;obtain⟨ho,hk⟩:=hone_of hone j f hf0;have hjl:j<fs.size:=(Array.getElem?_eq_some_iff.1 hf0).1;have h1:=hf j f hf0;rw[ho,hk]at h1;have hvl:=(List.getElem?_eq_some_iff.1 hv)
    have hone':(cs'.drop j).take 1=[v]:=by
     rw[List.drop_eq_getElem_cons hvl.1,hvl.2];rfl
    rw[hone']at h1;have hys:ys[j]?=some (ys[j]'(by omega)):=List.getElem?_eq_getElem (by omega);exact⟨_,h1.trans hys⟩
   refine⟨x,λj v hv=>?_⟩;rw[hx]at hv;have hjl:j<size:=by have:=(List.getElem?_eq_some_iff.1 hv).1;omega
   have:=hat j hjl;rw[Go.Deep.add_add]at this;rw[this,hv]
  subst e1;exact⟨some a,cap,xs,rfl,e3⟩
theorem Q8{t e:TypeId}{fuel:Nat}{v:Value}{x:DataW H×List MemPlace}(ht:Tryz.prog.underlying t=some (.slice e))(he:Tryz.prog.underlying e=some .string)(hC:Tryz.prog.cellsOf e=1)(h:DataW.trod enc Tryz.prog W 0 spare true fuel t [v]=some x) :
  ∃(a:Option Addr) (cap:Nat) (xs:List ByteArray),v=.slice a xs.length cap∧xs.length≤cap∧bZ W.heap.size a 1 (xs.map λs=>[.string s]) W:=by
 rcases open_slice ht h with⟨hcs,_⟩|⟨a,len,cap,m,n,D,Pl,hcs,_,hl,hm,hmm,_,hi⟩
 ·obtain rfl:v=.slice none 0 0:=by simpa using hcs
  exact⟨none,0,[],rfl,ay _,λi r hr=>by simp at hr⟩
 ·obtain rfl:v=.slice (some a) len cap:=by simpa using hcs
  have hlm:len≤m:=by rw[hmm];split<;>omega
  obtain⟨xs,e1,e3⟩:=IL (W:=W) (a:=a) (size:=1) (row:=λs:ByteArray=>[.string s]) len (λx=>⟨_,rfl⟩) λi him=>by
   obtain⟨cs',hc,ht'⟩:=hi i (by omega);rw[hC]at hc;obtain⟨_,hcl,hat⟩:=World.cells?_some hc;obtain⟨s,hs,_,hsz⟩:=DataW.trod_string he ht';refine⟨s,λj v hv=>?_⟩;have hj:j=0:=by have:=(List.getElem?_eq_some_iff.1 hv).1;simpa using this
   subst hj;have:=hat 0 (by decide);rw[Go.Deep.add_add,hs]at this;rw[this];simpa using hv
  subst e1;exact⟨some a,cap,xs,rfl,hl,e3⟩
theorem trf_row{n:Nat}(cs:List Value)(hl:cs.length=5)(h:∀(j:Nat) (t:TypeId) (v:Value),[9,3,3,3,3][j]?=some t→cs[j]?=some v→∃y,DataW.trod enc Tryz.prog W 0 spare true n t [v]=some y):∃x:jZ,x.row=cs:=by
 match cs,hl with
 | [c0,c1,c2,c3,c4],_=>
  obtain⟨y0,h0⟩:=h 0 9 c0 rfl rfl;obtain⟨y1,h1⟩:=h 1 3 c1 rfl rfl;obtain⟨y2,h2⟩:=h 2 3 c2 rfl rfl;obtain⟨y3,h3⟩:=h 3 3 c3 rfl rfl;obtain⟨y4,h4⟩:=h 4 3 c4 rfl rfl;obtain⟨s,e0,_,_⟩:=DataW.trod_string Tryz.underlying9 h0;obtain⟨n1,e1,_,_⟩:=DataW.trod_int Tryz.underlying3 h1;obtain⟨n2,e2,_,_⟩:=DataW.trod_int Tryz.underlying3 h2;obtain⟨n3,e3,_,_⟩:=DataW.trod_int Tryz.underlying3 h3;obtain⟨n4,e4,_,_⟩:=DataW.trod_int Tryz.underlying3 h4;simp only[List.cons.injEq,and_true]at e0 e1 e2 e3 e4;subst e0 e1 e2 e3 e4;exact⟨⟨s,n1,n2,n3,n4⟩,rfl⟩
theorem cas_row{n:Nat}(cs:List Value)(hl:cs.length=6)(h:∀(j:Nat) (t:TypeId) (v:Value),[9,3,3,3,3,3][j]?=some t→cs[j]?=some v→∃y,DataW.trod enc Tryz.prog W 0 spare true n t [v]=some y):∃x:jY,x.row=cs:=by
 match cs,hl with
 | [c0,c1,c2,c3,c4,c5],_=>
  obtain⟨y0,h0⟩:=h 0 9 c0 rfl rfl;obtain⟨y1,h1⟩:=h 1 3 c1 rfl rfl;obtain⟨y2,h2⟩:=h 2 3 c2 rfl rfl;obtain⟨y3,h3⟩:=h 3 3 c3 rfl rfl;obtain⟨y4,h4⟩:=h 4 3 c4 rfl rfl;obtain⟨y5,h5⟩:=h 5 3 c5 rfl rfl;obtain⟨s,e0,_,_⟩:=DataW.trod_string Tryz.underlying9 h0;obtain⟨n1,e1,_,_⟩:=DataW.trod_int Tryz.underlying3 h1;obtain⟨n2,e2,_,_⟩:=DataW.trod_int Tryz.underlying3 h2;obtain⟨n3,e3,_,_⟩:=DataW.trod_int Tryz.underlying3 h3;obtain⟨n4,e4,_,_⟩:=DataW.trod_int Tryz.underlying3 h4;obtain⟨n5,e5,_,_⟩:=DataW.trod_int Tryz.underlying3 h5;simp only[List.cons.injEq,and_true]at e0 e1 e2 e3 e4 e5;subst e0 e1 e2 e3 e4 e5;exact⟨⟨s,n1,n2,n3,n4,n5⟩,rfl⟩
theorem pay_row{n:Nat}(cs:List Value)(hl:cs.length=5)(h:∀(j:Nat) (t:TypeId) (v:Value),[54,3,3,3,3][j]?=some t→cs[j]?=some v→∃y,DataW.trod enc Tryz.prog W 0 spare true n t [v]=some y):∃x:dM,x.row=cs:=by
 match cs,hl with
 | [c0,c1,c2,c3,c4],_=>
  obtain⟨y0,h0⟩:=h 0 54 c0 rfl rfl;obtain⟨y1,h1⟩:=h 1 3 c1 rfl rfl;obtain⟨y2,h2⟩:=h 2 3 c2 rfl rfl;obtain⟨y3,h3⟩:=h 3 3 c3 rfl rfl;obtain⟨y4,h4⟩:=h 4 3 c4 rfl rfl;obtain⟨n0,e0,_,_⟩:=DataW.trod_int Tryz.underlying54 h0;obtain⟨n1,e1,_,_⟩:=DataW.trod_int Tryz.underlying3 h1;obtain⟨n2,e2,_,_⟩:=DataW.trod_int Tryz.underlying3 h2;obtain⟨n3,e3,_,_⟩:=DataW.trod_int Tryz.underlying3 h3;obtain⟨n4,e4,_,_⟩:=DataW.trod_int Tryz.underlying3 h4;simp only[List.cons.injEq,and_true]at e0 e1 e2 e3 e4;subst e0 e1 e2 e3 e4;exact⟨⟨n0,n1,n2,n3,n4⟩,rfl⟩
theorem und69:Tryz.prog.underlying 69=some (.struct (Tryz.prog.fieldsOf 69)):=by kernel_rfl
theorem und60:Tryz.prog.underlying 60=some (.struct (Tryz.prog.fieldsOf 60)):=by kernel_rfl
theorem und56:Tryz.prog.underlying 56=some (.struct (Tryz.prog.fieldsOf 56)):=by kernel_rfl
theorem one69:oneCellFields Tryz.prog (Tryz.prog.fieldsOf 69)=true:=by kernel_rfl
theorem one60:oneCellFields Tryz.prog (Tryz.prog.fieldsOf 60)=true:=by kernel_rfl
theorem one56:oneCellFields Tryz.prog (Tryz.prog.fieldsOf 56)=true:=by kernel_rfl
theorem tys69:(Tryz.prog.fieldsOf 69).toList.map (·.type)=[9,3,3,3,3]:=by kernel_rfl
theorem tys60:(Tryz.prog.fieldsOf 60).toList.map (·.type)=[9,3,3,3,3,3]:=by kernel_rfl
theorem tys56:(Tryz.prog.fieldsOf 56).toList.map (·.type)=[54,3,3,3,3]:=by kernel_rfl
theorem ce69:Tryz.prog.cellsOf 69=5:=by kernel_rfl
theorem ce60:Tryz.prog.cellsOf 60=6:=by kernel_rfl
theorem ce56:Tryz.prog.cellsOf 56=5:=by kernel_rfl
theorem ce9:Tryz.prog.cellsOf 9=1:=by kernel_rfl
set_option maxRecDepth 100000 in
theorem QC{b0:Nat}{r:Reach}{v:Value}{d:DataW H}{p:List MemPlace}(hv:Value.okWide Tryz.prog W r b0 27 v)(h:DataW.Trod enc Tryz.prog W 0 spare true 27 v d p):∃(l:Lay) (b:aP),v=.agg (l.cu b)∧b.aJ.length≤l.cc∧bU W.heap.size l b W:=by
 obtain⟨v0,v1,v2,v3,y0,y1,y2,y3,n,rfl,-,-,h0,h1,h2,h3⟩:=open_agg4 Tryz.underlying27 (by kernel_rfl) (by kernel_rfl) hv h;obtain⟨a0,k0,x0,rfl,hcap,r0⟩:=Q8 Tryz.underlying22 Tryz.underlying9 ce9 h0;obtain⟨a1,k1,x1,rfl,r1⟩:=yZ (row:=jZ.row) Tryz.underlying23 und69 one69 tys69 (size:=5) rfl ce69 h1 (λx=>⟨_,rfl⟩) λcs n=>trf_row cs;obtain⟨a2,k2,x2,rfl,r2⟩:=yZ (row:=jY.row) Tryz.underlying24 und60 one60 tys60 (size:=6) rfl ce60 h2 (λx=>⟨_,rfl⟩) λcs n=>cas_row cs;obtain⟨a3,k3,x3,rfl,r3⟩:=yZ (row:=dM.row) Tryz.underlying25 und56 one56 tys56 (size:=5) rfl ce56 h3 (λx=>⟨_,rfl⟩) λcs n=>pay_row cs;exact⟨⟨a0,a1,a2,a3,k0,k1,k2,k3⟩,⟨x0,x1,x2,x3⟩,rfl,hcap,ay _,r0,r1,r2,r3⟩
end
end
section
open Go Go.Conc Go.RowKit Lift
theorem Oq[Keep]{P:Program}{wa:World}(a:Addr):(Crew.waste P (λ_=>False) wa).cell? a=wa.cell? a:=by
 by_cases hg:∀o,wa.heap[a.block]?=some o→Lift.Good P o
 ·have e:=Crew.uX (P:=P) (S:=λ_=>False) (w:=wa) (b:=a.block) (λh=>h) hg;unfold World.cell?;rw[e]
 ·obtain⟨o,ho⟩:=Classical.not_forall.1 hg;obtain⟨h1,h2⟩:=Classical.not_imp.1 ho;have e:=Crew.uV (P:=P) (S:=λ_=>False) (w:=wa) (b:=a.block) (λh=>h) h1 h2;rw[Lift.Ji h1 h2];unfold World.cell?;rw[e];rfl
section
variable {H:Type} {enc:TypeId×Value→H}
theorem Ah{a:Assume}{C:Checked}{os:Os}{f:FuncId}{fn:Func}{s:ChangeSpec}{conds:List PathCond}{apart fresh handsOn again:Bool}{X:World→Array Value→Prop}
  (hX:∀(w w':World) (args:Array Value),w.heap=w'.heap→X w args→X w' args)
  (own:ownKnob C.prog.godebug=none) (started:os.Started) (hfn:C.prog.funcs[f]?=some fn)
  (witness:∃(w:World) (tape:Tape) (i:Input),w.os=os∧(w.forCall tape i).Shaped C.prog∧i.vars=[]∧Input.okWide C.prog (w.forCall tape i) .any w.heap.size f i∧
   ((s.pre enc C.prog fn conds apart (w.forCall tape i).memory i.args∧X (w.forCall tape i).memory i.args)∧sizedMet enc C.prog fn (OpenSpec.ofChange s) apart (w.forCall tape i).memory i.args)∧a.holds C.prog (lone (Frame.enter C.prog f i.args .normal) [] (w.forCall tape i)))
  (runs:∀(W:World) (base:Nat) (args:Array Value) (ds gs:List (DataW H)) (before:List MemPlace),
   (∀(j:Nat) t v,fn.params[j]?=some t→args[j]?=some v→Value.okWide C.prog W .any base t v)→
   DataW.Whole enc C.prog fn.params.toList s.vars apart W args.toList ds gs before→X W args→
   ∃M last o w' t',runNT C.prog (M+1) (solo (G (Frame.enter C.prog f args .normal) []) W) #[]=(.ended o w',t')∧runN C.prog M (solo (G (Frame.enter C.prog f args .normal) []) W)=.next last∧
    step C.prog last=.ended o w'∧Conc.Good C.prog (λv W'=>s.post enc C.prog fn apart fresh handsOn again W.blind args v W'.blind) last o w' t') :
  ReturnsInLeavingWide a C os f .any (λw args=>(s.pre enc C.prog fn conds apart w args∧X w args)∧sizedMet enc C.prog fn (OpenSpec.ofChange s) apart w args) (s.post enc C.prog fn apart fresh handsOn again):=by
 refine returnsInLeavingWide_of_good own started witness ?_;intro w tape i _ _ _ hok hpre hholds;obtain⟨_,_,_,fn',hfn',_,_,_,_,hval⟩:=hok;have e:fn'=fn:=Option.some.inj (hfn'.symm.trans hfn);subst e;obtain⟨⟨⟨ds,gs,before,hw,hc⟩,hx⟩,hz⟩:=hpre;have hw':=DataW.Whole.of_heap (w':=w.forCall tape i) (by rfl) hw;exact runs (w.forCall tape i) w.heap.size i.args ds gs before hval hw' (hX _ _ _ (by rfl) hx)
end
theorem Ur{P:Program}{f:FuncId}{fn:Func}{args:Array Value}{wa:World}(hf:P.funcs[f]?=some fn){tr:Tmp}(hrs:fn.results=#[.tmp tr])(hi:P.inits.idxOf? f=none)
  (law:∀[Keep] (w:World),(∀a,w.cell? a=wa.cell? a)→w.heap.size=wa.heap.size→Keep.lim=wa.heap.size→
   Raw P (uz P f fn λv w1 S1=>v=.bool true∧gu w.heap.size w (λ_=>False) w1 S1) (G (Frame.enter P f args .normal) []) w (λ_=>False)) :
  ∃N last o w' t',runNT P (N+1) (solo (G (Frame.enter P f args .normal) []) wa) #[]=(.ended o w',t')∧runN P N (solo (G (Frame.enter P f args .normal) []) wa)=.next last∧step P last=.ended o w'∧
   Conc.Good P (λv w'=>v=.bool true∧Below wa.heap.size wa.blind w'.blind) last o w' t':=by
 refine Me (R:=λv=>v=.bool true) hf hrs hi λt=>?_
 letI:Keep:=⟨wa.heap.size,wa.heap,t⟩
 have h:=law (Crew.waste P (λ_=>False) wa) (λa=>Oq a) Crew.oC rfl;rw[Crew.oC]at h;exact h
end
section
open Go Go.RowKit Go.ChangeShapes Go.WideShapes Go.Deep
abbrev laidAll:List (String×DataW Unit):=[("unicode/utf8.acceptRanges", Rows.laid_unicode_utf8_acceptRanges),("touchmark/fees.kinds", Rows.laid_touchmark_fees_kinds),("unicode/utf8.first", Rows.laid_unicode_utf8_first)]
theorem gKinds:Tryz.prog.globalNamed "touchmark/fees.kinds" = some 0:=by kernel_rfl
theorem tKinds:(Tryz.prog.globals[0]?).map (·.type)=some 144:=by kernel_rfl
theorem und143:Tryz.prog.underlying 143=some (.struct (Tryz.prog.fieldsOf 143)):=by kernel_rfl
theorem und144:Tryz.prog.underlying 144=some (.array 3 143):=by kernel_rfl
theorem und141:Tryz.prog.underlying 141=some (.func #[97,3] #[] false):=by kernel_rfl
theorem SE:Tryz.prog.cellsOf 143=3:=by kernel_rfl
theorem SG:Tryz.prog.cellsOf 144=9:=by kernel_rfl
theorem one143:oneCellFields Tryz.prog (Tryz.prog.fieldsOf 143)=true:=by kernel_rfl
theorem U7:(Tryz.prog.fieldsOf 143).toList.map (·.type)=[9,141,4]:=by kernel_rfl
set_option maxRecDepth 100000 in
theorem Oi{W:World}{n:Nat}{c:Value}{last:Bool}{p:List MemPlace}(h:DataW.trod (funcToken Tryz.prog) Tryz.prog W 0 (λ_=>true) true n 4 [c]=some (.lit (.bool last),p)):c=.bool last:=by
 cases n with
 |zero=>simp[DataW.trod]at h
 |succ m=>
  unfold DataW.trod at h;rw[Tryz.underlying4]at h;split at h<;>simp_all
set_option maxRecDepth 100000 in
theorem wW{W:World}{n:Nat}{c0 c1 c2:Value}{s:List UInt8}{b0:UInt8}{r:List UInt8}{f0:FuncId}{last:Bool}{p:List MemPlace}
  (hone:((List.range Tryz.prog.funcs.size).filter λf=>(Tryz.prog.funcs[f]?).any (·.name.toUTF8.data.toList==b0::r))=[f0])
  (h:DataW.trod (funcToken Tryz.prog) Tryz.prog W 0 (λ_=>true) true n 143 [c0,c1,c2]=some (.agg [.lit (.string s),.held (b0::r),.lit (.bool last)],p)) :
  c0=.string ⟨s.toArray⟩∧c1=.func (.func f0) #[] #[]∧c2=.bool last:=by
 obtain⟨xs,m,_,hx,_,hlen,hf⟩:=DataW.trod_struct und143 h;have hsz:(Tryz.prog.fieldsOf 143).size=3:=by
  rw[← Array.length_toList,← List.length_map (f:=(·.type)),U7];rfl
 have get:∀(j:Nat) (t:TypeId) (c:Value),[9,141,4][j]?=some t→[c0,c1,c2][j]?=some c→∃y,xs[j]?=some y∧DataW.trod (funcToken Tryz.prog) Tryz.prog W 0 (λ_=>true) true m t [c]=some y:=by
  intro j t c ht hc;rw[← U7,List.getElem?_map,Array.getElem?_toList]at ht;obtain⟨f,hf0,rfl⟩:=Option.map_eq_some_iff.1 ht;obtain⟨ho,hk⟩:=hone_of one143 j f hf0;have h1:=hf j f hf0;rw[ho,hk]at h1;have hcl:=List.getElem?_eq_some_iff.1 hc;have e:([c0,c1,c2].drop j).take 1=[c]:=by
   rw[List.drop_eq_getElem_cons hcl.1,hcl.2];rfl
  rw[e]at h1;have hjl:j<xs.length:=by have:=(Array.getElem?_eq_some_iff.1 hf0).1;omega
  exact⟨xs[j],List.getElem?_eq_getElem hjl,h1.trans (List.getElem?_eq_getElem hjl)⟩
 obtain⟨y0,e0,t0⟩:=get 0 9 c0 rfl rfl;obtain⟨y1,e1,t1⟩:=get 1 141 c1 rfl rfl;obtain⟨y2,e2,t2⟩:=get 2 4 c2 rfl rfl
 match xs,hlen.trans hsz with
 | [x0,x1,x2],_=>
  simp only[List.getElem?_cons_zero,List.getElem?_cons_succ,Option.some.injEq]at e0 e1 e2;subst e0 e1 e2;simp only[Prod.mk.injEq,DataW.agg.injEq,List.map_cons,List.map_nil,List.cons.injEq,and_true]at hx;obtain⟨⟨hx0,hx1,hx2⟩,_⟩:=hx;obtain⟨s',k0,q0,_⟩:=DataW.trod_string Tryz.underlying9 t0;obtain⟨z,q1⟩:∃z,x1=(.held (b0::r),z):=⟨x1.2,by rw[hx1]⟩
  rw[q1]at t1;have k1:=func_of_trod und141 hone t1;refine⟨?_,k1,?_⟩
  ·rw[q0]at hx0;have hs:s=s'.data.toList:=by simpa using hx0
   have:=List.cons.inj k0;rw[this.1,hs]
  ·obtain⟨z2,q2⟩:∃z,x2=(.lit (.bool last),z):=⟨x2.2,by rw[hx2]⟩
   rw[q2]at t2;exact Oi t2
set_option maxRecDepth 100000 in
theorem Em{W:World}(h:laidMetH Tryz.prog laidAll W):bT W:=by
 obtain⟨g,t,cs,fuel,p,hg,ht,hv,hd⟩:=h.funcs (n := "touchmark/fees.kinds") (List.mem_cons_of_mem _ (List.mem_cons_self ..));obtain rfl:=Option.some.inj (gKinds.symm.trans hg);obtain rfl:=Option.some.inj (tKinds.symm.trans ht);have hd':DataW.trod (funcToken Tryz.prog) Tryz.prog W 0 (λ_=>true) true fuel 144 cs.toList=some (.agg [.agg [.lit (.string [105,110]),.held [40,42,116,111,117,99,104,109,97,114,107,47,102,101,101,115,46,116,105,108,108,41,46,105,110],.lit (.bool false)],.agg [.lit (.string [102,117,110,100]),.held [40,42,116,111,117,99,104,109,97,114,107,47,102,101,101,115,46,116,105,108,108,41,46,102,117,110,100],.lit (.bool false)],.agg [.lit (.string [109,111,118,101]),.held [40,42,116,111,117,99,104,109,97,114,107,47,102,101,101,115,46,116,105,108,108,41,46,109,111,118,101],.lit (.bool true)]],p):=hd;clear hd;obtain⟨xs,m1,rfl,hx1,hlen,hn3,hel⟩:=DataW.trod_array und144 hd';rw[SG]at hlen;obtain⟨l⟩:=cs
 match l,hlen with
 | [c0,c1,c2,c3,c4,c5,c6,c7,c8],_=>
  match xs,hn3 with
  | [x0,x1,x2],_=>
   have h0:=hel 0 (by decide);have h1:=hel 1 (by decide);have h2:=hel 2 (by decide);rw[SE]at h0 h1 h2;simp only[Prod.mk.injEq,List.map_cons,List.map_nil]at hx1;obtain⟨hx,_⟩:=hx1;simp only[DataW.agg.injEq,List.cons.injEq,and_true]at hx;obtain⟨q0,q1,q2⟩:=hx;obtain⟨x0,y0⟩:=x0;obtain⟨x1,y1⟩:=x1;obtain⟨x2,y2⟩:=x2;dsimp only at q0 q1 q2;subst q0 q1 q2;obtain⟨a0,a1,a2⟩:=wW (f0:=206) (by kernel_rfl) (show DataW.trod _ Tryz.prog W 0 _ true m1 143 [c0,c1,c2]=some _ from h0);obtain⟨a3,a4,a5⟩:=wW (f0:=203) (by kernel_rfl) (show DataW.trod _ Tryz.prog W 0 _ true m1 143 [c3,c4,c5]=some _ from h1);obtain⟨a6,a7,a8⟩:=wW (f0:=207) (by kernel_rfl) (show DataW.trod _ Tryz.prog W 0 _ true m1 143 [c6,c7,c8]=some _ from h2);subst a0 a1 a2 a3 a4 a5 a6 a7 a8;exact λj v hj=>(World.var?_cell hg hv j).trans hj
end
section
open Go Go.RowKit Go.ChangeShapes Go.WideShapes
theorem own:ownKnob Tryz.prog.godebug=none:=by kernel_rfl
abbrev Dz:List (String×DataW Unit):=[("unicode/utf8.acceptRanges", Rows.laid_unicode_utf8_acceptRanges),("unicode/utf8.first", Rows.laid_unicode_utf8_first)]
noncomputable def Rh (os:Os):World:=(World.doorLaid Tryz.prog 27 os).layVars Tryz.prog Dz
theorem QH(os:Os)(args:Array Value):laidMet Tryz.prog Dz ((Rh os).forCall (λ_ _=>0) ⟨#[],args,[]⟩).memory:=by
 have h:laidMet Tryz.prog Dz (Rh os):=laidMet_layVars (w0:=World.doorLaid Tryz.prog 27 os) ["unicode/utf8.acceptRanges", "unicode/utf8.first"] [] rfl (by kernel_rfl) (by kernel_rfl) LaidIn.none;exact h.of_heap (by simp[World.memory,World.forCall,Input.heap])
theorem door_met(os:Os)(args:Array Value):laidMetH Tryz.prog laidAll ((Rh os).forCall (λ_ _=>0) ⟨#[],args,[]⟩).memory:=
 laidMetH_of_parts3 (fuel:=8) (QH os args) (by kernel_rfl) (by kernel_rfl)
theorem wit_os(os:Os):(Rh os).os=os:=(World.layVars_os _ _ _).trans rfl
theorem Ot(os:Os)(args:Array Value):((Rh os).forCall (λ_ _=>0) ⟨#[],args,[]⟩).Shaped Tryz.prog:=World.shaped_of_ZipB (by kernel_rfl) (by kernel_rfl)
end
