/- A range over a function that yields at least once and at most so many times, whatever its order; the body never leaves it. Nothing of the program stands here. -/
import Derived.Test.YtccjdkghgbbliaaGreatDoorA38
import Derived.Test.YtccjdkghgbbliaaGreatDoorA46
set_option linter.all false
namespace Go.Proofs.YtccjdkghgbbliaaGreatDoor
section
set_option maxHeartbeats 1000000
set_option maxRecDepth 10000
open Go Go.RowKit
structure aT (B:Nat) (W W':World):Prop where
 size:W.heap.size≤W'.heap.size
 same:∀i,B≤i→i<W.heap.size→W'.heap[i]?=W.heap[i]?
theorem aT.trans{B:Nat}{U V W:World}(h:aT B U V)(k:aT B V W):aT B U W:=
 ⟨Nat.le_trans h.size k.size,λi hi hl=>(k.same i hi (aB hl h.size)).trans (h.same i hi hl)⟩
theorem aT.mono{B C:Nat}{W W':World}(h:aT B W W')(hC:B≤C):aT C W W':=⟨h.size,λi hi=>h.same i (Nat.le_trans hC hi)⟩
theorem aT.refl(B:Nat)(W:World):aT B W W:=⟨ak _,λ_ _ _=>rfl⟩
theorem aT.alloc(B:Nat)(W:World)(o:Obj):aT B W (W.alloc o):=⟨by simp,λi _ hi=>Below.heap_alloc W o i hi⟩
theorem aT.putObj{B k:Nat}(W:World)(o:Obj)(hk:k<B):aT B W (W.putObj k o):=⟨by simp,λi hi _=>World.putObj_heap_other (by omega)⟩
theorem aT.setCell{B:Nat}(W:World)(p:Addr)(v:Value)(hk:p.block<B):aT B W (W.setCell p v):=⟨by simp,λi hi _=>Below.heap_setCell W p v i (by omega)⟩
theorem aT.grown{B:Nat}{W W':World}{row:Option Nat}(h:W.grownBy W' row)(hr:∀r,row=some r→r<B):aT B W W':=
 ⟨h.size,λi hi hl=>h.block i hl (λe=>by have:=hr i e.symm;omega)⟩
def NC(F:Fence)(n:Nat)(P:Program)(g:Nat)(lb:Array Value)(enc:Value→Array Value)(R:World→Prop)(most:Nat):Prop:=
 ∀(l:Nat) (J:Nat→World→Prop) (W:World),R W→
  (∀k A B,J k A→Below W.heap.size A B→J k B)→(∀k A,J k A→R A)→
  (∀k o A,k<most→J k A→W.heap.size≤A.heap.size→YieldAt F (n-1) P l (enc o) A λe B=>e=.returned (.bool true)∧J (k+1) B∧aT W.heap.size A B)→J 0 W→
  CallsIn F n P g (#[.func (.yield l) #[] #[]]++lb) W λe B=>(∃v,e=.returned v)∧∃k,1≤k∧k≤most∧J k B
section
variable {F:Fence} {n:Nat} {P:Program}
theorem oZ{B l:Nat}(W:World)(o:Obj)(hB:B≤W.heap.size)(hl:B≤l):Below B W (W.putObj l o):=
 (Below.refl B W).grown (grownBy_putObj' W l o) hB (λr e=>by cases e;exact hl)
theorem tq{g:Operand}{ps:Array Tmp}{assign body:Code}{Q:Exit→Act→World→Prop}{a:Act}{w:World}
  (hro:F.round=none) (h1:1≤n) {gf:Nat} {lb:Array Value} (hg:a.eval g=.func (.func gf) #[] lb) (hFg:F.fn gf) (eg:∀args w,(callFunc gf args).run P w=.ok (.enter gf args) w)
  {enc:Value→Array Value} {R:World→Prop} {most:Nat} (hseq:NC F (n-1) P gf lb enc R most) (hps:∀x,(enc x).size=ps.size)
  (I:Nat→World→Prop) (hI:∀k A B,w.heap.size≤A.heap.size→I k A→Below w.heap.size A B→I k B) (hR:∀k A,I k A→R A) (h0:I 0 w) (Bd:Nat→Act→World→World→Prop) (hB:∀k a W W' l o,w.heap.size≤l→l<W.heap.size→Bd k a W W'→Bd k a W (W'.putObj l o))
  (hassign:∀(l k:Nat) (x:Value) (W:World),k<most→I k W→w.heap.size≤W.heap.size→
   assign.wpIn (F.inRound l) (n-1-1) P (λe a' W'=>e=.normal∧aT w.heap.size W W'∧Bd k a' W W') { tmps:=(ps.zip (enc x)).foldl (λt (p,v)=>t.setIfInBounds p v) a.tmps,defers:=[] } W)
  (hbody:∀(l k:Nat) (a':Act) (W W':World),k<most→w.heap.size≤W.heap.size→W.heap.size≤W'.heap.size→Bd k a' W W'→body.wpIn (F.inRound l) (n-1-1) P (λe _ W''=>e=.normal∧aT w.heap.size W' W''∧I (k+1) W'') a' W')
  (hdone:∀(C k:Nat) (W:World),w.heap.size≤C→1≤k→k≤most→I k W→W.heap[C]?=some (.deferred (some []))→Q .normal { a with defers:={ target:=.collected C,args:=#[] }::a.defers } W) :
  (Code.rangeFunc g ps assign body).wpIn F n P Q a w:=by
 refine wpIn_rangeFunc ?_;intro fn hfn;rw[hro];obtain⟨rec,hrec⟩:∃rec:LoopState→Option Code→Loop,rec=λst pe=>{ state:=st,pending:=pe,fn,tmps:=a.tmps,params:=ps,assign,body,defers:=w.heap.size }:=⟨_,rfl⟩
 obtain⟨W1,hW1⟩:∃W1,(w.alloc (.deferred (some []))).alloc (.loop (rec .ready none))=W1:=⟨_,rfl⟩
 have hL1:W1.heap[w.heap.size+1]?=some (.loop (rec .ready none)):=by
  rw[← hW1];have:=World.alloc_heap_new (w.alloc (.deferred (some []))) (.loop (rec .ready none));rwa[World.size_alloc]at this
 have hK1:W1.heap[w.heap.size]?=some (.deferred (some [])):=by
  rw[← hW1];exact(Below.heap_alloc _ _ _ (by simp)).trans (World.alloc_heap_new w _)
 have hs1:W1.heap.size=w.heap.size+2:=by rw[← hW1];simp
 have hI1:I 0 W1:=by rw[← hW1];exact hI 0 _ _ (ak _) h0 (((Below.refl _ w).alloc (ak _) _).alloc (by simp) _)
 refine⟨w.heap.size+1,[{ target:=.collected w.heap.size,args:=#[] }],W1,{ target:=.fn (.func gf) lb,args:=#[.func (.yield (w.heap.size+1)) #[] #[]] },W1,gf,#[.func (.yield (w.heap.size+1)) #[] #[]]++lb,W1,?_,?_,?_,?_,λ_=>h1,?_⟩
 ·rw[← hW1,hrec];exact run_enterLoop_outer _ _ _ _ _
 ·simp only[resolve,hg];simp[go_sem]
 ·intro f' hf';simp[Target.leads]at hf';subst hf';exact hFg
 ·simp[invoke,go_sem,eg]
 ·refine(hseq (w.heap.size+1)
   (λk W=>W1.heap.size≤W.heap.size∧I k W∧W.heap[w.heap.size+1]?=some (.loop (rec .ready none))∧W.heap[w.heap.size]?=some (.deferred (some [])))
   W1 (hR 0 _ hI1)
   (λk A B hs hb=>⟨Nat.le_trans hs.1 hb.size,hI k A B (by have:=hs.1;omega) hs.2.1 (hb.mono (by omega)),(hb.block _ (by omega)).trans hs.2.2.1,(hb.block _ (by omega)).trans hs.2.2.2⟩)
   (λk A hs=>hR k A hs.2.1) ?_ ⟨ak _,hI1,hL1,hK1⟩).mono ?_
  ·rintro k x W hk ⟨hs,hi,hl,hd⟩ _;have hlt:w.heap.size+1<W.heap.size:=(Array.getElem?_eq_some_iff.1 hl).1;have hy:=run_yield (P:=P) (args:=enc x) hl (by rw[hrec];exact hps x);rw[hrec]at hy;refine⟨fn,_,assign,body,hy,roundIn_of_wpIn hfn (wpIn_mono (hassign _ k x W hk hi (by omega)) ?_)⟩;rintro e a' V ⟨rfl,hkV,hbV⟩;have hlV:=(hkV.same (w.heap.size+1) (by omega) hlt).trans hl;have hdV:=(hkV.same w.heap.size (by omega) (by omega)).trans hd;have hzV:=hkV.size;have hltV:w.heap.size+1<V.heap.size:=by omega
   refine⟨_,run_beginRound hlV (by rw[hrec]),?_⟩;have hl2:(V.putObj (w.heap.size+1) (.loop { rec .ready none with state:=.busy })).heap[w.heap.size+1]?=some (.loop { rec .ready none with state:=.busy }):=World.putObj_heap_same hltV;have hk2:(V.putObj (w.heap.size+1) (.loop { rec .ready none with state:=.busy })).heap[w.heap.size]?=some (.deferred (some [])):=(World.putObj_heap_other (by omega)).trans hdV;have hp0:=(hkV.mono (show w.heap.size≤W1.heap.size by omega)).trans (aT.putObj (B:=W1.heap.size) (k:=w.heap.size+1) V (.loop { rec .ready none with state:=.busy }) (by omega));refine wpIn_mono (hbody _ k a' W _ hk (by omega) (by simp;omega) (hB k a' W V (w.heap.size+1) _ (by omega) hlt hbV)) ?_;rintro e a3 W3 ⟨rfl,hk3,hi3⟩;have hz3:=hk3.size;have hl3:=(hk3.same (w.heap.size+1) (by omega) (by simp;omega)).trans hl2;have hd3:=(hk3.same w.heap.size (by omega) (by simp;omega)).trans hk2;have hr:=run_endRound (P:=P) none hl3;have hkk:=hp0.trans (hk3.mono (show w.heap.size≤W1.heap.size by omega));rw[hrec]at hr hl3 ⊢;simp at hz3;refine⟨_,_,hr,rfl,⟨by simp;omega,hI _ _ _ (by omega) hi3 (oZ (l:=w.heap.size+1) W3 _ (by omega) (by omega)),World.putObj_heap_same (Array.getElem?_eq_some_iff.1 hl3).1,(World.putObj_heap_other (by omega)).trans hd3⟩,?_⟩;exact hkk.trans (aT.putObj (k:=w.heap.size+1) W3 _ (by omega))
  ·rintro e W2 ⟨⟨v,rfl⟩,k,h1,hk,hs,hi,hl,hd⟩;exact⟨none,_,by have:=run_endLoop (P:=P) hl (by rw[hrec];simp);rw[hrec]at this;exact this,hdone _ k _ (ak _) h1 hk (hI k _ _ (by omega) hi (oZ (l:=w.heap.size+1) W2 _ (by omega) (by omega))) ((World.putObj_heap_other (by omega)).trans hd)⟩
end
end
section
namespace Lift
set_option maxHeartbeats 1000000
set_option maxRecDepth 10000
open Go
def zH(o:Oper):Bool:=match o.op with
 |.defer _=>false
 |_=>true
section
variable {F:Fence} {n:Nat} {P:Program} {ops:Array Oper} {Q:Exit→Act→World→Prop}
theorem CO{o:Oper}{a₁ a₂:Act}{w:World}{T:Value→World→Prop}{K:Act→World→Prop}(hnd:zH o=true)(hs:noSelect o=true)(hsz:a₂.tmps.size=a₁.tmps.size)
  (he:∀x∈o.op.operands,a₂.eval x=a₁.eval x) (h:o.wpIn F n P a₁ w (λa' w'=>∃u,a'=a₁.put o.dst u∧T u w') (λ_ _ _=>False)) (hK:∀u w',T u w'→K (a₂.put o.dst u) w'):o.wpIn F n P a₂ w K Q:=by
 have hne:∀c,o.op≠.defer c:=λc e=>by simp[zH,e]at hnd
 have h':o.wpIn F.plain n P a₁ w (λa' w'=>∃u,a'=a₁.put o.dst u∧T u w') (λ_ _ _=>False):=by
  unfold Oper.wpIn at h ⊢;rw[Oper.semAt_eq _ _ _ hne]at h ⊢;exact h
 have:=mJ (F:=F.plain) (Q:=Q) rfl hs hsz he h' hK;unfold Oper.wpIn at this ⊢;rw[Oper.semAt_eq _ _ _ hne]at this ⊢;exact this
theorem kC{id:Nat}{a₀:Act}{w₀:World}(hnd:ops.all zH=true)(hm:P.follows .mixedOrders=true)(ht:textual ops=true)(W:Wm)(gl:List Tmp){x₀:Tmp→Value}(hg0:∀g∈gl,a₀.tmps[g]?=some (x₀ g))(h0:W (λ_=>false) x₀ { w₀ with drawn:=w₀.drawn+1 })
  (h:qp F n P ops W gl (List.range ops.size) a₀ (λa=>∀x w,W (λj=>decide (j<ops.size)) x w→Q .normal (Act.bF a gl x) w)):(Code.region id ops true).wpIn F n P Q a₀ w₀:=by
 rw[List.range_eq_range']at h;obtain⟨vals,acts,rfl,hall,hR⟩:=Ei ops.size 0 a₀ h;rw[Nat.zero_add]at hR;refine wpIn_region_any hm (xO ht W (wpAnyIn F n P .any ops Q) (Q .normal) (wpOpIn F n P ops Q) (λi hi=>(hall i (Nat.zero_le _) (by omega)).1) (λl a s h1 h2=>⟨h1,h2⟩) (λfuel l a s h1 h2=>⟨h1,h2⟩) (λi o ho hns D x w a K hmay hW hsz hev hwant hK=>?_) hR hg0 h0);have hi:i<ops.size:=(Array.getElem?_eq_some_iff.1 ho).1;obtain⟨_,o',ho',hg⟩:=hall i (Nat.zero_le _) (by omega);rw[ho]at ho';cases ho';unfold wpOpIn;simp only[ho];rw[hwant];rcases hg with⟨hw,hst⟩|⟨hw,hdg,hab,hkeep,hv⟩
 ·rw[if_pos (hw x)];exact CO (by have:=Array.all_eq_true.1 hnd i hi;rwa[show ops[i]=o from(Array.getElem?_eq_some_iff.1 ho).2]at this) hns hsz hev (hst _ x w hmay hW) hK
 ·rw[if_neg (by rw[hw x];simp)];exact⟨λf hf=>hab x w f (by rw[← hf];exact(about_congr o w hev).symm),hK _ _ ⟨λg hg e=>absurd e (hdg g hg),λ_=>⟨hv.symm,hkeep _ x w hmay hW⟩⟩⟩
theorem tu{id:Nat}{a₀:Act}{w₀:World}(W0 W1:World→Prop)(m:Nat)(hnd:ops.all zH=true)(hm:P.follows .mixedOrders=true)(ht:(textual ops&&decide (m<ops.size))=true)(h0:∀d,W0 { w₀ with drawn:=d })
  (h:Det F n P ops (Wst W0 W1) m (List.range ops.size) a₀ (λa=>∀w,W1 w→Q .normal a w)):(Code.region id ops true).wpIn F n P Q a₀ w₀:=by
 rw[Bool.and_eq_true,decide_eq_true_eq]at ht;exact kC hnd hm ht.1 (Wst W0 W1 m) [] (x₀:=λ_=>undef) (λg hg=>by cases hg) (h0 _) (kN (λa h x w hw=>h w (by unfold Wst at hw;simpa[ht.2]using hw)) _ _ h)
end
end Lift
end
section
set_option maxHeartbeats 1000000
set_option maxRecDepth 10000
open Go Go.RowKit Lift
def Book.iW(b:Book)(n:Int)(k:Nat):List Nat:=(List.range k).filter λc=>((b.after n).cases c).state==1
theorem filter_le{α:Type}{p q:α→Bool}{l:List α}(h:∀x∈l,p x=true→q x=true):(l.filter p).length≤(l.filter q).length:=by
 rw[← List.countP_eq_length_filter,← List.countP_eq_length_filter];exact List.countP_mono_left h
theorem LC{b:Book}(hv:Valid b){c:Nat}(hc:c<b.cs.length){d e:Nat}(hde:d≤e)(he:e≤9999)(h:((b.after d).cases c).state=1):((b.after e).cases c).state=1:=by
 have h1:=vZ hv hc (n:=d) (by omega);have h2:=vZ hv hc (n:=e) he;have hs:=h1.same h;have hx:((b.after 9999).cases c).state=1:=by rw[← hs];exact h
 have h3:=((h1.day hx).2.2.1).1 h;exact((h2.day hx).2.2.1).2 (by omega)
theorem PI{b b':Book}(hv:Valid b)(hv':Valid b'){c:Nat}(hc:c<b.cs.length)(hc':c<b'.cs.length)(hl:Lasts b b' c){d:Nat}(hd:d≤9999)(h:((b.after d).cases c).state=1):((b'.after d).cases c).state=1:=by
 have h1:=vZ hv hc (n:=d) hd;have h2:=vZ hv' hc' (n:=d) hd;have hs:=h1.same h;have hx:((b.after 9999).cases c).state=1:=by rw[← hs];exact h
 have h3:=((h1.day hx).2.2.1).1 h;obtain⟨l1,l2⟩:=hl hx;exact((h2.day l1).2.2.1).2 (by omega)
theorem Je{b:Book}(hv:Valid b){k:Nat}(hk:k≤b.cs.length){d e:Nat}(hde:d≤e)(he:e≤9999):(b.iW d k).length≤(b.iW e k).length:=
 filter_le λc hc h=>by
  have:=List.mem_range.1 hc;simpa using LC hv (by omega) hde he (by simpa using h)
theorem LD{b:aO}(hR:b.Right)(hst:∀p∈b.ps,p.kind≠2){m:dI}(hR':aO.Right { b with ps:=b.ps++[m] })(hm:m.kind≠2){k:Nat}(hk:k≤b.cs.length){d:Nat}(hd:d≤9999) :
  (b.to.iW d k).length≤((aO.to { b with ps:=b.ps++[m] }).iW d k).length:=
 filter_le λc hc h=>by
  have hc:=List.mem_range.1 hc;have hc':c<b.to.cs.length:=by simp[aO.to];omega
  have e:aO.to { b with ps:=b.ps++[m] }={ b.to with ps:=b.to.ps++[m.to] }:=by simp[aO.to]
  have hv':=hR'.full.v;have h0:=(hR'.p m (by simp)).1;rw[e]at hv' ⊢;have:=PI hR.full.v hv' hc' hc' (LH hR.full.v (Uw hR hst) hv' (by simp only[dI.to];omega) hc') hd (by simpa using h);simpa using this
def sayOf(n:Nat):Int:=if n=0 then 1 else 2
end
section
set_option maxHeartbeats 1000000
set_option maxRecDepth 10000
set_option maxHeartbeats 64000000
set_option maxRecDepth 100000
open Go Go.RowKit Lift
theorem rbt_in(a b c:Int)(w:World):CallsIn Fz 0 Tryz.prog 349 #[.int .i64 a,.int .i64 b,.int .i64 c] w λe w'=>e=.returned (.bool (decide (b≤a)&&decide (a≤c)))∧w'=w:=by
 gi_enter Tryz.func349,Tryz.ntmps349
 gi_wp2
 ·go_ret;rename_i h;simp[h]
 ·go_ret;rename_i h;have:¬b≤a:=by omega
  simp[this]
theorem Ul(a b c:Int)(w:World)(h:b≤a∧a≤c):CallsIn Fz 0 Tryz.prog 349 #[.int .i64 a,.int .i64 b,.int .i64 c] w λe w'=>e=.returned (.bool true)∧w'=w:=
 (rbt_in a b c w).mono λe w' ⟨h1,h2⟩=>⟨by rw[h1];simp[h.1,h.2],h2⟩
theorem Qs(x:UInt8)(hx:jl x=true)(w:World):CallsIn Fz 0 Tryz.prog 353 #[.int .u8 x.toNat] w λe w'=>e=.returned (.bool false)∧w'=w:=by
 have hc:(97≤x.toNat∧x.toNat≤122)∨(48≤x.toNat∧x.toNat≤57):=by
  have:=hx;simp only[jl,Bool.or_eq_true,Bool.and_eq_true,decide_eq_true_eq,UInt8.le_iff_toNat_le]at this;simpa using this
 generalize x.toNat=y at *;clear hx;rcases hc with⟨h1,h2⟩|⟨h1,h2⟩
 ·have q1:¬((y:Int)<97):=by omega
  have q2:¬((122:Int)<y):=by omega
  gi_enter Tryz.func353,Tryz.ntmps353
  gi_wp2;go_ret;exact⟨rfl,rfl⟩
 ·have q1:((y:Int)<97):=by omega
  have q2:¬((y:Int)<48):=by omega
  have q3:¬((57:Int)<y):=by omega
  gi_enter Tryz.func353,Tryz.ntmps353
  gi_wp2;go_ret;exact⟨rfl,rfl⟩
theorem JW{B n c:Nat}{w:World}{s:List UInt8}(hn:s.length=n)(hb:n<1000000)(hB:B<w.heap.size)(hc:∀j,j<n→w.cell? ⟨B,j,none⟩=some (.int .u8 (s.getD j 0).toNat))(ha:∀x∈s,jl x=true) :
  CallsIn Fz 0 Tryz.prog 262 #[.slice (some ⟨B,0,none⟩) n c,.func (.func 353) #[] #[]] w λe w'=>e=.returned (.int .i64 (-1))∧w'=w:=by
 have HC:=Lib.hid hc;have HA:=Lib.hid ha;clear hc ha;gi_enter Tryz.func262,Tryz.ntmps262
 gi_wp2;gi_loopw [8,5] (λv i wr=>wr=w∧∃k:Nat,k≤n∧v=.int .i64 k) (λv _ _=>n-(intOf v).toNat)
 case atStart=>exact⟨rfl,0,Nat.zero_le _,rfl⟩
 case round=>
  obtain⟨rfl,k,hk,rfl⟩:=hrel;by_cases hl:k<n
  ·have hl':(k:Int)<n:=by omega
   have c0:=HC.out k hl;have hx:=Qs (s.getD k 0) (HA.out _ (by rw[List.getD_eq_getElem?_getD,List.getElem?_eq_getElem (by omega)];exact List.getElem_mem _)) wr;generalize (s.getD k 0)=x at c0 hx
   gi_wp2_with (gi_at_call 353;refine hx.mono ?_;rintro e w2 ⟨rfl,rfl⟩)
   go_roundw
   case rel=>exact⟨by trivial,k+1,by omega,by go_num⟩
   case measure=>simp[intOf];omega
  ·obtain rfl:k=n:=by omega
   gi_wp2;go_ret;exact⟨rfl,rfl⟩
theorem G9{B n c:Nat}{w:World}{s:List UInt8}(hn:s.length=n)(hb:n<1000000)(hB:B<w.heap.size)(hc:∀j,j<n→w.cell? ⟨B,j,none⟩=some (.int .u8 (s.getD j 0).toNat))(ha:∀x∈s,jl x=true) :
  CallsIn Fz 0 Tryz.prog 233 #[.slice (some ⟨B,0,none⟩) n c,.func (.func 353) #[] #[]] w λe w'=>e=.returned (.bool false)∧w'=w:=by
 have h:=JW (c:=c) hn hb hB hc ha;clear hc ha;gi_enter Tryz.func233,Tryz.ntmps233
 gi_wp2_with (gi_at_call 262;refine h.mono ?_;rintro e w2 ⟨rfl,rfl⟩)
 go_ret;exact⟨rfl,rfl⟩
theorem Qu{s:ByteArray}(hs:bY s)(w:World):CallsIn Fz 0 Tryz.prog 352 #[.string s] w λe w'=>e=.returned (.bool true)∧Below w.heap.size w w':=by
 have h1:=hs.one;have h2:=hs.ten;have hp:0<s.size:=by omega
 obtain⟨x1,x2⟩:=hs.first _ (Lib.data_getElem? s 0 hp);have q1:¬(((s[0]'hp).toNat:Int)<97):=by omega
 have q2:¬((122:Int)<((s[0]'hp).toNat:Int)):=by omega
 have hcv:=Lib.run_convert_string_bytes (P:=Tryz.prog) w 9 315 5 s Tryz.underlying9 (show Tryz.prog.underlying 315=some (.slice 5) by kernel_rfl) Tryz.underlying5;have hsz:=Lib.bytesWorld_size w 5 s;have hB:Below w.heap.size w (Lib.bytesWorld w 5 s):=⟨rfl,rfl,rfl,by omega,λk hk=>Lib.bytesWorld_at_old w 5 s k hk⟩
 have hL:=λc=>G9 (B:=w.heap.size) (n:=s.size) (c:=c) (w:=Lib.bytesWorld w 5 s) (s:=s.data.toList) (by rw[Lib.size_eq]) (by omega) (by omega) (λj hj=>Lib.bytesWorld_cell w 5 s j hj) (λx hx=>by
  obtain⟨j,hj,e⟩:=List.mem_iff_getElem.1 hx;exact hs.all j x (by rw[List.getElem?_eq_getElem hj,e]))
 have hgt:=Ul (s.size:Int) 1 10 w (by omega);clear x1 x2;gi_enter Tryz.func352,Tryz.ntmps352
 gi_wp2_with (first
  |(gi_at_call 349;refine hgt.mono ?_;rintro e w2 ⟨rfl,rfl⟩)
  |(gi_at_call 233;refine(hL _).mono ?_;rintro e w2 ⟨rfl,rfl⟩))
 go_ret;exact⟨rfl,hB⟩
theorem UE:Tryz.prog.underlying 452=some (.map 9 3):=by kernel_rfl
section
variable {s:ByteArray} (hs:bY s) {M:Nat} {ns:List ByteArray} (hl:ns.length≤10) {w:World} (h:eX w M ns)
include hs hl h
theorem Oj(hn:s∉ns)(v:Nat)(hv:v<10):CallsIn Fz 0 Tryz.prog 348 #[.map (some M),.string s,.int .i64 v] w λe w'=>e=.returned (.int .i64 0)∧eX w' M (ns++[s])∧w.grownBy w' (some M):=by
 have hkey:keyOf Tryz.prog 9 (.string s)=some (Dw s):=WideMaps.keyOf_string_mk Tryz.underlying9 (by have:=hs.ten;unfold maxLen;omega);have hwf:(Lit.int .i64 (v:Int)).wf=true:=Om (by omega);have hN:=Qu hs w;gi_enter Tryz.func348,Tryz.ntmps348
 gi_wp2_with (first
  |(gi_at_call 352;refine hN.mono ?_;rintro e w2 ⟨rfl,hb2⟩;obtain⟨D,n,d1,hown,d2,d3⟩:=h.same hb2;have hno:Maps.has D (Dw s)=false:=Bool.eq_false_iff.2 λq=>hn ((d3 s).1 q))
  |(gi_at_lookup;refine wpListIn_lookup_own_ok_int _ rfl _ _ 452 rfl 9 3 .i64 Tryz.AP UE Tryz.underlying3 (Tryz.zeroValue3 _) M n D rfl hown _ _ rfl hkey ?_;intro c hat hwc;rw[hno])
  |(gi_at_mapUpdate;refine wpListIn_mapUpdate_own _ rfl _ _ _ 452 rfl 9 3 Tryz.AP UE (plainElem Tryz.prog 3) M n D rfl hown (by unfold maxLen;omega) _ _ _ rfl rfl hkey _ [] (plainElem_int Tryz.underlying3 hwf) ?_;intro w3 hown3 hgrow3))
 go_ret;have hlt:=h.lt;have hsz:=hb2.size;refine⟨rfl,⟨_,_,by simp;omega,hown3,hown3.size_le,λs'=>?_⟩,⟨hgrow3.os.trans hb2.os,hgrow3.tape.trans hb2.tape,hgrow3.output.trans hb2.output,Nat.le_trans hb2.size hgrow3.size,λi hi hr=>(hgrow3.block i (aB hi hb2.size) hr).trans (hb2.block i hi)⟩⟩;by_cases e:s'=s
 ·subst e;rw[Maps.has_put_same (by obtain⟨es,cl,_,_,_,q⟩:=hown;exact⟨_,q⟩) (by trivial)];simp
 ·rw[Maps.has_put_other (λq=>e (Jp q)),d3 s'];simp[e]
end
end
section
set_option maxHeartbeats 1000000
set_option maxRecDepth 10000
set_option maxHeartbeats 64000000
set_option maxRecDepth 100000
open Go Go.RowKit Lift
structure RC where
 nm:ByteArray
 gb:Nat
 ib:Nat
 r:Nat
structure RV where
 rb:Nat
 rc:Nat
 rights:List ByteArray
 ca:Option Addr
 cc:Nat
 cs:List RC
def RC.row(c:RC):List Value:=[.string c.nm,.int .i64 0,.slice (some ⟨c.gb,0,none⟩) 1 1,.slice none 0 0]
abbrev RV.arr(b:RV):Array Value:=#[.slice (some ⟨b.rb,0,none⟩) b.rights.length b.rc,.slice b.ca b.cs.length b.cc]
def RV.rAt(b:RV)(j:Nat):ByteArray:=b.rights.getD j ⟨#[]⟩
def RV.cAt(b:RV)(j:Nat):RC:=b.cs.getD j ⟨⟨#[]⟩,0,0,0⟩
structure nP (N:Nat) (b:RV) (w:World):Prop where
 hN:N≤w.heap.size
 rl:b.rb<N
 rs:∀j,j<b.rights.length→w.cell? ⟨b.rb,j,none⟩=some (.string (b.rAt j))
 cs:bD N b.ca 4 (b.cs.map RC.row) w
 gs:∀c∈b.cs,c.gb<N∧c.ib<N∧w.cell? ⟨c.gb,0,none⟩=some (.slice (some ⟨c.ib,0,none⟩) 1 1)∧w.cell? ⟨c.ib,0,none⟩=some (.int .i64 c.r)
structure RV.Ok (b:RV):Prop where
 n1:1≤b.rights.length
 n6:b.rights.length≤6
 rn:∀s∈b.rights,bY s
 rd:b.rights.Nodup
 c5:b.cs.length≤5
 cn:∀c∈b.cs,bY c.nm
 cd:(b.cs.map (·.nm)).Nodup
 cr:∀c∈b.cs,1≤c.r∧c.r<b.rights.length
theorem cell_below{N b o:Nat}{w w':World}(h:Below N w w')(hb:b<N):w'.cell? ⟨b,o,none⟩=w.cell? ⟨b,o,none⟩:=by
 unfold World.cell?;rw[h.block b hb]
theorem nP.below{N:Nat}{b:RV}{w w':World}(h:nP N b w)(hb:Below N w w'):nP N b w':=
 ⟨Nat.le_trans h.hN hb.size,h.rl,λj hj=>(cell_below hb h.rl).trans (h.rs j hj),h.cs.below hb,λc hc=>by
  obtain⟨h1,h2,h3,h4⟩:=h.gs c hc;exact⟨h1,h2,(cell_below hb h1).trans h3,(cell_below hb h2).trans h4⟩⟩
theorem RV.FU{b:RV}{j:Nat}(hj:j<b.cs.length):b.cAt j∈b.cs:=by
 have:b.cAt j=b.cs[j]:=by unfold RV.cAt;rw[List.getD_eq_getElem?_getD,List.getElem?_eq_getElem hj];rfl
 rw[this];exact List.getElem_mem _
theorem RV.rAt_mem{b:RV}{j:Nat}(hj:j<b.rights.length):b.rAt j∈b.rights:=by
 have:b.rAt j=b.rights[j]:=by unfold RV.rAt;rw[List.getD_eq_getElem?_getD,List.getElem?_eq_getElem hj];rfl
 rw[this];exact List.getElem_mem _
theorem nP.cas{N:Nat}{b:RV}{w:World}(h:nP N b w){e:Nat}(he:e<b.cs.length):∃x o,b.ca=some ⟨x,o,none⟩∧x<N∧∀i,i<b.cs.length→w.cell? ⟨x,o+i * 4,none⟩=some (.string (b.cAt i).nm)∧w.cell? ⟨x,o+i * 4+1,none⟩=some (.int .i64 0)∧w.cell? ⟨x,o+i * 4+2,none⟩=some (.slice (some ⟨(b.cAt i).gb,0,none⟩) 1 1)∧w.cell? ⟨x,o+i * 4+3,none⟩=some (.slice none 0 0):=by
 obtain⟨x,o,e1,e2,_⟩:=bD.xG h.cs he;refine⟨x,o,e1,e2,λi hi=>?_⟩;obtain⟨b',o',e1',_,e3⟩:=bD.xG h.cs hi;rw[e1]at e1';cases e1';have hat:b.cAt i=b.cs[i]:=by unfold RV.cAt;rw[List.getD_eq_getElem?_getD,List.getElem?_eq_getElem hi];rfl
 rw[hat];exact⟨by simpa using e3 0 _ rfl,e3 1 _ rfl,e3 2 _ rfl,e3 3 _ rfl⟩
theorem JU(n:Nat)(w:World):CallsIn Fz 0 Tryz.prog 351 #[.slice none 0 0,.int .i64 n] w λe w'=>e=.returned (.int .i64 0)∧w'=w:=by
 gi_enter Tryz.func351,Tryz.ntmps351
 gi_wp2;gi_loopw [9] (λv wr=>wr=w∧v=.int .i64 0) (λ_ _=>0)
 case atStart=>exact⟨rfl,rfl⟩
 case round=>
  obtain⟨rfl,rfl⟩:=hrel;gi_wp2;go_ret;exact⟨rfl,rfl⟩
theorem JV{B r n:Nat}{w:World}(hc:w.cell? ⟨B,0,none⟩=some (.int .i64 r))(hr:r<n)(hn:n≤6):CallsIn Fz 0 Tryz.prog 351 #[.slice (some ⟨B,0,none⟩) 1 1,.int .i64 n] w λe w'=>e=.returned (.int .i64 0)∧w'=w:=by
 have hw:wrap64 ((n:Int)-1)=(n:Int)-1:=by unfold wrap64;omega
 have hgt:=Ul (r:Int) 0 ((n:Int)-1) w (by omega);gi_enter Tryz.func351,Tryz.ntmps351
 gi_wp2;gi_loopw [9] (λv wr=>wr=w∧∃k:Nat,k≤1∧v=.int .i64 k) (λv _=>1-(intOf v).toNat)
 case atStart=>exact⟨rfl,0,Nat.zero_le _,rfl⟩
 case round=>
  obtain⟨rfl,k,hk,rfl⟩:=hrel;by_cases hl:k=0
  ·subst hl
   gi_wp2_with (gi_at_call 349;refine hgt.mono ?_;rintro e w2 ⟨rfl,rfl⟩)
   go_roundw
   case rel=>exact⟨by trivial,1,by omega,by go_num⟩
   case measure=>simp[intOf]
  ·obtain rfl:k=1:=by omega
   gi_wp2;go_ret;exact⟨rfl,rfl⟩
end
section
set_option maxHeartbeats 1000000
set_option maxRecDepth 10000
set_option maxHeartbeats 64000000
set_option maxRecDepth 100000
open Go Go.RowKit Lift
section
variable {N:Nat} {b:RV} {w:World}
theorem Lj(hO:b.Ok){c:RC}(hc:c∈b.cs)(h:nP N b w):CallsIn Fz 0 Tryz.prog 350 #[.agg b.arr,.slice (some ⟨c.gb,0,none⟩) 1 1] w λr w'=>r=.returned (.int .i64 0)∧Below w.heap.size w w':=by
 have hN:=h.hN;obtain⟨g1,g2,g3,g4⟩:=h.gs c hc;have hcr:=hO.cr c hc;have n6:=hO.n6;have hb1:Below w.heap.size w (w.alloc (.cells b.arr 252)):=(Below.refl _ w).alloc (ak _) _;have hX:=Blk.new w b.arr 252;have hR:∀w',Below w.heap.size w w'→CallsIn Fz 0 Tryz.prog 351 #[.slice (some ⟨c.ib,0,none⟩) 1 1,.int .i64 b.rights.length] w' λe w''=>e=.returned (.int .i64 0)∧w''=w':=λw' hb=>JV ((cell_below (hb.mono hN) g2).trans g4) hcr.2 n6;have hG:=(cell_below (o:=0) (hb1.mono hN) g1).trans g3;have l1:c.gb<(w.alloc (.cells b.arr 252)).heap.size:=by simp;omega
 clear hO h g3 g4 hcr;gi_enter Tryz.func350,Tryz.ntmps350
 gi_wp2;generalize w.alloc (.cells b.arr 252)=W at *;have x0:=hX.cell 0;simp at x0;have lX:=hX.lt;gi_loopw [13] (λv wr=>wr=W∧∃k:Nat,k≤1∧v=.int .i64 k) (λv _=>1-(intOf v).toNat)
 case atStart=>exact⟨rfl,0,Nat.zero_le _,rfl⟩
 case round=>
  obtain⟨rfl,k,hk,rfl⟩:=hrel;by_cases hl:k=0
  ·subst hl;have hR':=hR _ hb1
   gi_wp2_with (gi_at_call 351;refine hR'.mono ?_;rintro e w2 ⟨rfl,rfl⟩)
   go_roundw
   case rel=>exact⟨by trivial,1,by omega,by go_num⟩
   case measure=>simp[intOf]
  ·obtain rfl:k=1:=by omega
   gi_wp2;go_ret;exact⟨rfl,hb1⟩
theorem take_len{α:Type}(l:List α){k:Nat}(h:k≤l.length):(l.take k).length=k:=by rw[List.length_take];omega
theorem uf{l:List ByteArray}(hd:l.Nodup){k:Nat}(hk:k<l.length)(d:ByteArray):l.getD k d∉l.take k:=λhm=>by
 obtain⟨j,hj,e⟩:=List.mem_iff_getElem.1 hm;have hj':j<k:=by rw[take_len l (by omega)]at hj;exact hj
 rw[List.getElem_take,List.getD_eq_getElem?_getD,List.getElem?_eq_getElem hk]at e;exact List.pairwise_iff_getElem.1 hd j k (by omega) hk hj' e
theorem CB{l:List ByteArray}{k:Nat}(hk:k<l.length)(d:ByteArray):l.take (k+1)=l.take k++[l.getD k d]:=by
 rw[List.take_add_one,List.getD_eq_getElem?_getD,List.getElem?_eq_getElem hk];rfl
theorem Qp(hO:b.Ok)(h:nP N b w):CallsIn Fz 0 Tryz.prog 345 #[.agg b.arr] w λr w'=>r=.returned (.int .i64 0)∧Below w.heap.size w w':=by
 have hN:=h.hN;have n6:=hO.n6;have hrl:=h.rl;have hrs:=h.rs;have hnm:=λk (hk:k<b.rights.length)=>hO.rn _ (RV.rAt_mem hk);have hfr:=λk (hk:k<b.rights.length)=>uf hO.rd hk ⟨#[]⟩;have hsn:=λk (hk:k<b.rights.length)=>CB hk ⟨#[]⟩;have htl:=λk (hk:k≤b.rights.length)=>take_len b.rights hk;have hX1:=λo=>(Blk.new w b.arr 252).below ((Below.refl _ (w.alloc (.cells b.arr 252))).alloc (ak _) o);have hb1:Below w.heap.size w ((w.alloc (.cells b.arr 252)).alloc (.map #[] 0)):=((Below.refl _ w).alloc (ak _) _).alloc (by simp) _;have hS1:=eX.made (w.alloc (.cells b.arr 252));simp only[World.size_alloc]at hS1;have HRS:=Lib.hid hrs;have HNM:=Lib.hid hnm;have HFR:=Lib.hid hfr;have HSN:=Lib.hid hsn;have HTL:=Lib.hid htl;clear hrs hnm hfr hsn htl hO h;have hmm:=@run_makeMap Tryz.prog;gi_enter Tryz.func345,Tryz.ntmps345
 gi_wp2;gi_loopw [17] (λv wr=>∃k:Nat,k≤b.rights.length∧v=.int .i64 k∧Below w.heap.size w wr∧Blk wr w.heap.size 252 b.arr∧eX wr (w.heap.size+1) (b.rights.take k)) (λv _=>b.rights.length-(intOf v).toNat)
 case atStart=>exact⟨0,Nat.zero_le _,rfl,hb1,hX1 _,by simpa using hS1⟩
 case round=>
  clear hb1 hX1 hS1;obtain⟨k,hk,rfl,hb,hX,hS⟩:=hrel;by_cases hl:k<b.rights.length
  ·have hl':(k:Int)<b.rights.length:=by omega
   have c0:=(cell_below (hb.mono hN) hrl).trans (HRS.out k hl);have hfr:=HFR.out k hl;have hsn:=HSN.out k hl;have hA:=λw' (hS':eX w' (w.heap.size+1) (b.rights.take k))=>Oj (HNM.out k hl) (by rw[HTL.out k hk];omega) hS' hfr k (by omega);have lt0:b.rb<wr.heap.size:=by have:=hb.size;omega
   have x0:=hX.cell 0;simp at x0;have lX:=hX.lt;have HSN':=Lib.hid hsn;clear hsn;have CW:=hA wr hS;clear hA
   gi_wp2_with (gi_at_call 348;refine CW.mono ?_;rintro e w2 ⟨rfl,hS2,hg2⟩)
   go_roundw
   case rel=>
    have hlt:=hS.lt;have hsz:=hb.size;exact⟨k+1,by omega,by go_num,hb.grown hg2 (by omega) (λr e=>by cases e;omega),hX.gb hg2 (by omega),by rw[HSN'.out];exact hS2⟩
   case measure=>simp[intOf];omega
  ·obtain rfl:k=b.rights.length:=by omega
   gi_wp2;go_ret;exact⟨rfl,hb⟩
end
end
section
set_option maxHeartbeats 1000000
set_option maxRecDepth 10000
set_option maxHeartbeats 64000000
set_option maxRecDepth 100000
open Go Go.RowKit Lift
section
variable {N:Nat} {b:RV} {w:World}
theorem Oa{b:RV}{k:Nat}(hk:k<b.cs.length):(b.cs.map (·.nm)).getD k ⟨#[]⟩=(b.cAt k).nm:=by
 have:b.cAt k=b.cs[k]:=by unfold RV.cAt;rw[List.getD_eq_getElem?_getD,List.getElem?_eq_getElem hk];rfl
 rw[this,List.getD_eq_getElem?_getD,List.getElem?_map,List.getElem?_eq_getElem hk];rfl
theorem OH(hO:b.Ok)(h:nP N b w):CallsIn Fz 0 Tryz.prog 346 #[.agg b.arr] w λr w'=>r=.returned (.int .i64 0)∧Below w.heap.size w w':=by
 have hN:=h.hN;have n6:=hO.n6;have n1:=hO.n1;have c5:=hO.c5;have hw:wrap64 ((b.rights.length:Int)-1)=(b.rights.length:Int)-1:=by unfold wrap64;omega
 have hgt:=λw'=>Ul 0 0 ((b.rights.length:Int)-1) w' (by omega);have hGR:=λk (hk:k<b.cs.length) w' (hb:Below w.heap.size w w')=>Lj hO (RV.FU hk) (h.below (hb.mono hN));have hcas:=λk (hk:k<b.cs.length) w' (hb:Below w.heap.size w w')=>(h.below (hb.mono hN)).cas hk;have hnm:=λk (hk:k<b.cs.length)=>hO.cn _ (RV.FU hk);have hfr:=λk (hk:k<b.cs.length)=>by have:=uf hO.cd (k:=k) (by simpa using hk) ⟨#[]⟩;rwa[Oa hk]at this
 have hsn:=λk (hk:k<b.cs.length)=>by have:=CB (l:=b.cs.map (·.nm)) (k:=k) (by simpa using hk) ⟨#[]⟩;rwa[Oa hk]at this
 have htl:=λk (hk:k≤b.cs.length)=>take_len (b.cs.map (·.nm)) (k:=k) (by simpa using hk);have hX1:=λo=>(Blk.new w b.arr 252).below ((Below.refl _ (w.alloc (.cells b.arr 252))).alloc (ak _) o);have hb1:Below w.heap.size w ((w.alloc (.cells b.arr 252)).alloc (.map #[] 0)):=((Below.refl _ w).alloc (ak _) _).alloc (by simp) _;have hS1:=eX.made (w.alloc (.cells b.arr 252));simp only[World.size_alloc]at hS1;have HGR:=Lib.hid hGR;have QW:=Lib.hid hcas;have HNM:=Lib.hid hnm;have HFR:=Lib.hid hfr;have HSN:=Lib.hid hsn;have HTL:=Lib.hid htl;clear hGR hcas hnm hfr hsn htl hO h;have hmm:=@run_makeMap Tryz.prog;gi_enter Tryz.func346,Tryz.ntmps346
 gi_wp2;gi_loopw [19] (λv wr=>∃k:Nat,k≤b.cs.length∧v=.int .i64 k∧Below w.heap.size w wr∧Blk wr w.heap.size 252 b.arr∧eX wr (w.heap.size+1) ((b.cs.map (·.nm)).take k)) (λv _=>b.cs.length-(intOf v).toNat)
 case atStart=>exact⟨0,Nat.zero_le _,rfl,hb1,hX1 _,by simpa using hS1⟩
 case round=>
  clear hb1 hX1 hS1;obtain⟨k,hk,rfl,hb,hX,hS⟩:=hrel;by_cases hl:k<b.cs.length
  ·have hl':(k:Int)<b.cs.length:=by omega
   obtain⟨x,o,e1,e2,e3⟩:=QW.out k hl _ hb;obtain⟨c0,c1,c2,c3⟩:=e3 k hl;have hfr:=HFR.out k hl;have hsn:=HSN.out k hl;have hNm:=HNM.out k hl;have htl:=HTL.out k hk;have hG:=HGR.out k hl;have lt0:x<wr.heap.size:=by have:=hb.size;omega
   rw[e1];clear e1 e3;generalize b.cAt k=c at *;obtain⟨nm,gb,ib,r⟩:=c;simp only at c0 c1 c2 c3 hfr hsn hNm hG;have Ep:=(Below.refl _ wr).alloc (ak _) (.cells #[.string nm,.int .i64 0,.slice (some ⟨gb,0,none⟩) 1 1,.slice none 0 0] 173);have hB7:=Blk.new wr #[.string nm,.int .i64 0,.slice (some ⟨gb,0,none⟩) 1 1,.slice none 0 0] 173;have hX7:=hX.below Ep;have hA:=Oj hNm (by rw[htl];omega) (hS.same Ep) hfr k (by omega);have HSN':=Lib.hid hsn;have HG:=Lib.hid hG;clear hsn hG hfr hNm htl;have hszB:=hb.size;have lS:=hS.lt;have hBs:=Ep.size
   gi_wp2_with (first
    |(gi_at_call 348;refine hA.mono ?_;rintro e w2 ⟨rfl,hS2,hg2⟩
      have hbW:=(hb.trans (Ep.mono hszB)).grown hg2 (by omega) (λr e=>by cases e;omega);have q7:=hB7.gb hg2 (by omega);have q8:=hX7.gb hg2 (by omega);have z0:=q7.cell 0;have z1:=q7.cell 1;have z2:=q7.cell 2;have z3:=q7.cell 3;have y0:=q8.cell 0;have y1:=q8.cell 1;simp at z0 z1 z2 z3 y0 y1;have l7:=q7.lt;have l8:=q8.lt;have hgr:=HG.out _ hbW)
    |(gi_at_call 349;refine(hgt _).mono ?_;rintro e w3 ⟨rfl,rfl⟩)
    |(gi_at_call 350;refine hgr.mono ?_;rintro e w4 ⟨rfl,hb4⟩
      have q9:=q7.below hb4;have q10:=q8.below hb4;have u3:=q9.cell 3;have v1:=q10.cell 1;simp at u3 v1;have l9:=q9.lt;have l10:=q10.lt)
    |(gi_at_call 351;refine(JU _ _).mono ?_;rintro e w5 ⟨rfl,rfl⟩))
   go_roundw
   case rel=>
    exact⟨k+1,by omega,by go_num,hbW.trans (hb4.mono hbW.size),q10,by rw[HSN'.out];exact hS2.same hb4⟩
   case measure=>simp[intOf];omega
  ·obtain rfl:k=b.cs.length:=by omega
   gi_wp2;go_ret;exact⟨rfl,hb⟩
end
end
