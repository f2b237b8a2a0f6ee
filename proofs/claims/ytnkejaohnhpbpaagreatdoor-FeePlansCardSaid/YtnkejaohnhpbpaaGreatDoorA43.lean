/- The money: what came in is what the account has, what is held, and what was taken; in plain words. -/
import Derived.Test.YtnkejaohnhpbpaaGreatDoorA34
set_option linter.all false
namespace Go.Proofs.YtnkejaohnhpbpaaGreatDoor
section
open Go Go.RowKit
def Book.aligned(b:Book):Prop:=∀p∈b.ps,p.kind=2→p.aN=b.aN p.cas
def kS(b:Book)(k:Nat)(f:Nat→Int):Nat→Int
 |0=>0
 |m+1=>kS b k f m+if b.aN m=k then f m else 0
theorem og{b:Book}{k:Nat}{f g:Nat→Int}:∀{m:Nat},(∀c,c<m→f c=g c)→kS b k f m=kS b k g m
 |0,_=>rfl
 |m+1,h=>by simp only[kS];rw[og (λc hc=>h c (by omega)),h m (by omega)]
theorem tN{b:Book}{k:Nat}{f:Nat→Int}:∀{m:Nat},(∀c,c<m→0≤f c)→0≤kS b k f m
 |0,_=>Int.le_refl _
 |m+1,h=>by
  have:=tN (b:=b) (k:=k) (λc (hc:c<m)=>h c (by omega));have:=h m (by omega);simp only[kS];split<;>omega
theorem zf{b:Book}{f:Nat→Int}:∀{m c:Nat},(∀c,c<m→0≤f c)→c<m→f c≤kS b (b.aN c) f m
 |0,c,_,hc=>by omega
 |m+1,c,h,hc=>by
  have h0:=tN (b:=b) (k:=b.aN c) (λc (hc:c<m)=>h c (by omega));have:=h m (by omega);simp only[kS];by_cases e:c=m
  ·subst e;rw[if_pos rfl];omega
  ·have:=zf (b:=b) (λc (hc:c<m)=>h c (by omega)) (show c<m by omega);split<;>omega
theorem DT{b:Book}{k:Nat}{f g:Nat→Int}{c:Nat}(hfg:∀j,j≠c→g j=f j):∀{m:Nat},c<m→kS b k g m=kS b k f m+if b.aN c=k then g c-f c else 0
 |0,h=>by omega
 |m+1,h=>by
  simp only[kS];by_cases e:c=m
  ·subst e;rw[og (λj hj=>hfg j (by omega))];split<;>omega
  ·rw[DT hfg (show c<m by omega),hfg m (λh=>e h.symm)];omega
def dB(s:St)(c:Nat):Int:=(s.cases c).held
def iT(s:St)(c:Nat):Int:=if(s.cases c).state=1 then(s.cases c).fee else 0
structure dW (b:Book) (M:Int) (s:St):Prop where
 acc:∀k,k<3→0≤s.acc k
 tkn:∀k,k<3→0≤s.tkn k
 held:∀c,c<b.cs.length→0≤(s.cases c).held
 shut:∀c,c<b.cs.length→(s.cases c).state≠0→(s.cases c).held=0
 sum:∀k,k<3→s.pd k=s.acc k+kS b k (dB s) b.cs.length+s.tkn k
 took:∀k,k<3→s.tkn k=kS b k (iT s) b.cs.length
 most:∀k,k<3→s.pd k≤M
theorem oz{α:Type}(f:Nat→α)(i:Nat):upd f i (f i)=f:=by
 funext j;unfold upd;split
 ·rename_i h;rw[h]
 ·rfl
section
variable {b:Book} {M:Int} {s:St}
theorem dW.init(b:Book):dW b 0 St.init:=by
 have h0:∀k m,kS b k (dB St.init) m=0:=λk m=>by
  have e:kS b k (dB St.init) m=kS b k (λ_=>0) m:=og λc _=>rfl;rw[e]
  induction m with
  |zero=>rfl
  |succ m ih=>simp only[kS,ite_self];rw[ih ?_];rfl;exact og λc _=>rfl
 have h1:∀k m,kS b k (iT St.init) m=0:=λk m=>by
  rw[← h0 k m];exact og λc _=>rfl
 refine⟨λ_ _=>Int.le_refl _,λ_ _=>Int.le_refl _,λ_ _=>Int.le_refl _,λ_ _ _=>rfl,λk _=>?_,λk _=>?_,λ_ _=>Int.le_refl _⟩
 ·rw[h0];rfl
 ·rw[h1];rfl
theorem dW.mono{M':Int}(h:dW b M s)(hm:M≤M'):dW b M' s:=⟨h.acc,h.tkn,h.held,h.shut,h.sum,h.took,λk hk=>by have:=h.most k hk;omega⟩
theorem dW.bounds(h:dW b M s){k:Nat}(hk:k<3):s.acc k≤M∧s.tkn k≤M∧kS b k (dB s) b.cs.length≤M∧0≤kS b k (dB s) b.cs.length:=by
 have:=h.acc k hk;have:=h.tkn k hk;have:=h.sum k hk;have:=h.most k hk;have:=tN (b:=b) (k:=k) (f:=dB s) (m:=b.cs.length) h.held;omega
theorem dW.Hw(h:dW b M s){c:Nat}(hc:c<b.cs.length)(hk:b.aN c<3):(s.cases c).held≤M:=by
 have:=(h.bounds hk).2.2.1;have:=zf (b:=b) (f:=dB s) h.held hc;have e:dB s c=(s.cases c).held:=rfl;omega
theorem dW.turn(h:dW b M s){c:Nat}(hc:c<b.cs.length)(hk:b.aN c<3){s':St}{x:Std}{A T D M':Int}(e1:s'.cases=upd s.cases c x)(eA:s'.acc=upd s.acc (b.aN c) A)(eT:s'.tkn=upd s.tkn (b.aN c) T)(eD:s'.pd=upd s.pd (b.aN c) D)
  (hA:0≤A) (hT:0≤T) (hx:0≤x.held) (hs:x.state≠0→x.held=0) (hsum:D - s.pd (b.aN c)=(A - s.acc (b.aN c))+(x.held - (s.cases c).held)+(T - s.tkn (b.aN c)))
  (htk:T-s.tkn (b.aN c)=(if x.state=1 then x.fee else 0)-iT s c) (hM:M≤M') (hD:D≤M'):dW b M' s':=by
 have hne:∀j,j≠c→s'.cases j=s.cases j:=λj hj=>by rw[e1,upd_ne _ _ hj]
 have hat:s'.cases c=x:=by rw[e1,upd_same]
 have key:∀{k:Nat} (f:Nat→Int) (v:Int) , upd f (b.aN c) v k=if b.aN c=k then v else f k:=λ{k} f v=>by
  unfold upd;by_cases e:k=b.aN c
  ·rw[if_pos e,if_pos e.symm]
  ·rw[if_neg e,if_neg (λh=>e h.symm)]
 have hh:∀k,kS b k (dB s') b.cs.length=kS b k (dB s) b.cs.length+if b.aN c=k then x.held - (s.cases c).held else 0:=λk=>by
  rw[DT (f:=dB s) (c:=c) (λj hj=>by unfold dB;rw[hne j hj]) hc];unfold dB;rw[hat]
 have ht:∀k,kS b k (iT s') b.cs.length=kS b k (iT s) b.cs.length+if b.aN c=k then(if x.state=1 then x.fee else 0)-iT s c else 0:=λk=>by
  rw[DT (f:=iT s) (c:=c) (λj hj=>by unfold iT;rw[hne j hj]) hc];have:iT s' c=if x.state=1 then x.fee else 0:=by unfold iT;rw[hat]
  rw[this]
 refine⟨λk hk3=>?_,λk hk3=>?_,λj hj=>?_,λj hj=>?_,λk hk3=>?_,λk hk3=>?_,λk hk3=>?_⟩
 ·rw[eA,key];have:=h.acc k hk3;split<;>omega
 ·rw[eT,key];have:=h.tkn k hk3;split<;>omega
 ·by_cases e:j=c
  ·subst e;rw[hat];exact hx
  ·rw[hne j e];exact h.held j hj
 ·by_cases e:j=c
  ·subst e;rw[hat];exact hs
  ·rw[hne j e];exact h.shut j hj
 ·rw[eD,eA,eT,key,key,key,hh];have:=h.sum k hk3;split
  ·rename_i e;subst e;omega
  ·omega
 ·rw[eT,key,ht];have:=h.took k hk3;split
  ·rename_i e;subst e;omega
  ·omega
 ·rw[eD,key];have:=h.most k hk3;split<;>omega
theorem dW.yS(h:dW b M s){k:Nat}(hk:k<3){am:Int}(ha:0≤am)(ham:am≤10000)(hM:0≤M)(hM2:M≤10000000000):dW b (M+10000) ((s.iV k am).qJ k am):=by
 have hb:=h.bounds hk;have h0:=h.acc k hk;have hm:=h.most k hk;have hsum:=h.sum k hk;have ht:=h.tkn k hk;have w1:wrap64 (s.acc k+am)=s.acc k+am:=by unfold wrap64;omega
 have w2:wrap64 (s.pd k+am)=s.pd k+am:=by unfold wrap64;omega
 have eacc:((s.iV k am).qJ k am).acc=upd s.acc k (s.acc k+am):=by
  show upd s.acc k (wrap64 (s.acc k+am))=_;rw[w1]
 have epd:((s.iV k am).qJ k am).pd=upd s.pd k (s.pd k+am):=by
  show upd s.pd k (wrap64 (s.pd k+am))=_;rw[w2]
 refine⟨λj hj=>?_,h.tkn,h.held,h.shut,λj hj=>?_,h.took,λj hj=>?_⟩
 ·rw[eacc];unfold upd;have:=h.acc j hj;split<;>omega
 ·rw[eacc,epd];have:=h.sum j hj
  show _=_+kS b j (dB s) _+s.tkn j
  unfold upd;split
  ·rename_i e;subst e;omega
  ·omega
 ·rw[epd];unfold upd;have:=h.most j hj;split<;>omega
theorem dW.fZ(h:dW b M s)(hv:Valid b)(d:Int){c:Nat}(hc:c<b.cs.length)(hM:M≤10000000000):dW b M (St.fZ b d c s):=by
 unfold St.fZ;split
 ·rename_i hst;have hk:=(hv.aN hc).2;have hb:=h.bounds hk;have h0:=h.acc _ hk;have hh:=h.held c hc;have hl:=h.Hw hc hk;have w1:wrap64 (s.acc (b.aN c)+(s.cases c).held)=s.acc (b.aN c)+(s.cases c).held:=by unfold wrap64;omega
  refine h.turn (M':=M) hc hk (x:=⟨2,0,(s.cases c).day,(s.cases c).fee⟩) (A:=s.acc (b.aN c)+(s.cases c).held) (T:=s.tkn (b.aN c)) (D:=s.pd (b.aN c)) ?_ ?_ (oz _ _).symm (oz _ _).symm (by omega) (h.tkn _ hk) (Int.le_refl _) (λ_=>rfl) ?_ ?_ (Int.le_refl _) (h.most _ hk)
  ·show upd (upd s.cases c _) c _=_
   rw[kK];have:(s.give b c).cases c={ s.cases c with held:=0 }:=upd_same _ _ _;rw[this]
  ·show upd s.acc (b.aN c) (wrap64 _)=_
   rw[w1]
  ·show s.pd (b.aN c) - s.pd (b.aN c)=(s.acc (b.aN c)+(s.cases c).held - s.acc (b.aN c))+(0 - (s.cases c).held)+(s.tkn (b.aN c) - s.tkn (b.aN c))
   omega
  ·have e:iT s c=0:=by unfold iT;rw[if_neg (by omega)]
   rw[e];simp
 ·exact h
theorem dW.iP(h:dW b M s)(hv:Valid b)(d:Int){c:Nat}(hc:c<b.cs.length)(hM:M≤10000000000):dW b M (St.iP b d c s):=by
 unfold St.iP;split
 ·rename_i hst;have hk:=(hv.aN hc).2;have hb:=h.bounds hk;have h0:=h.acc _ hk;have h1:=h.tkn _ hk;have hsm:=h.sum _ hk;have hmo:=h.most _ hk;have hh:=h.held c hc;have hl:=h.Hw hc hk;have hse:=zf (b:=b) (f:=dB s) h.held hc;have hse2:dB s c=(s.cases c).held:=rfl;have hf:=hv.yP hc d;have w0:wrap64 ((s.cases c).held - (b.fee c d).1)=(s.cases c).held - (b.fee c d).1:=by unfold wrap64;omega
  have w1:wrap64 (s.acc (b.aN c)+((s.cases c).held - (b.fee c d).1))=s.acc (b.aN c)+((s.cases c).held - (b.fee c d).1):=by unfold wrap64;omega
  have w2:wrap64 (s.tkn (b.aN c)+(b.fee c d).1)=s.tkn (b.aN c)+(b.fee c d).1:=by unfold wrap64;omega
  refine h.turn (M':=M) hc hk (x:=⟨1,0,d,(b.fee c d).1⟩) (A:=s.acc (b.aN c)+((s.cases c).held - (b.fee c d).1)) (T:=s.tkn (b.aN c)+(b.fee c d).1) (D:=s.pd (b.aN c)) ?_ ?_ ?_ (oz _ _).symm (by omega) (by omega) (Int.le_refl _) (λ_=>rfl) ?_ ?_ (Int.le_refl _) (h.most _ hk)
  ·show upd (upd (upd s.cases c _) c _) c _=_
   rw[kK,kK]
  ·show upd s.acc (b.aN c) (wrap64 (s.acc (b.aN c)+((upd s.cases c _) c).held))=_
   rw[upd_same]
   show upd s.acc (b.aN c) (wrap64 (s.acc (b.aN c)+wrap64 ((s.cases c).held - (b.fee c d).1)))=_
   rw[w0,w1]
  ·show upd s.tkn (b.aN c) (wrap64 (s.tkn (b.aN c)+(b.fee c d).1))=_
   rw[w2]
  ·show s.pd (b.aN c) - s.pd (b.aN c)=(s.acc (b.aN c)+((s.cases c).held - (b.fee c d).1) - s.acc (b.aN c))+(0 - (s.cases c).held)+(s.tkn (b.aN c)+(b.fee c d).1 - s.tkn (b.aN c))
   omega
  ·have e:iT s c=0:=by unfold iT;rw[if_neg (by omega)]
   rw[e];simp only[if_true];omega
 ·exact h
theorem dW.iter{f:Nat→St→St}{n:Nat}(hf:∀c s,c<n→dW b M s→dW b M (f c s))(h:dW b M s):∀k,k≤n→dW b M (iter f k s)
 |0,_=>h
 |k+1,hk=>hf k _ (by omega) (dW.iter hf h k (by omega))
theorem dW.iq(h:dW b M s)(hv:Valid b)(d:Int)(hM:M≤10000000000):dW b M (s.iq b d):=dW.iter (λ_ _ hc hs=>hs.fZ hv d hc hM) h _ (ay _)
theorem dW.keep(h:dW b M s)(hv:Valid b)(d:Int)(hM:M≤10000000000):dW b M (s.keep b d):=dW.iter (λ_ _ hc hs=>hs.iP hv d hc hM) h _ (ay _)
theorem dW.inn(h:dW b M s)(hv:Valid b){i:Nat}(hi:i<b.ps.length)(hkd:(b.aO i).kind≠1)(hM:0≤M)(hM2:M≤10000000000):dW b (M+10000) (s.inn b i):=by
 have hp:=hv.p _ (hv.pay hi);have hnc:=hv.nc;have hk3:(b.aO i).aN<3:=by omega
 unfold St.inn;split
 ·rename_i hst;have hc:=hp.2.2.2.2.2.2.2 hkd;have hk:=(hv.aN hc).2;have hl:=h.Hw hc hk;have hh:=h.held _ hc;have hb:=h.bounds hk;have hsm:=h.sum _ hk;have hmo:=h.most _ hk;have h0:=h.acc _ hk;have h1:=h.tkn _ hk;have w1:wrap64 ((s.cases (b.aO i).cas).held+(b.aO i).amount)=(s.cases (b.aO i).cas).held+(b.aO i).amount:=by unfold wrap64;omega
  have w2:wrap64 (s.pd (b.aN (b.aO i).cas)+(b.aO i).amount)=s.pd (b.aN (b.aO i).cas)+(b.aO i).amount:=by unfold wrap64;omega
  rw[hst.2];refine h.turn (M':=M+10000) hc hk (x:={ s.cases (b.aO i).cas with held:=(s.cases (b.aO i).cas).held+(b.aO i).amount }) (A:=s.acc (b.aN (b.aO i).cas)) (T:=s.tkn (b.aN (b.aO i).cas)) (D:=s.pd (b.aN (b.aO i).cas)+(b.aO i).amount) ?_ (oz _ _).symm (oz _ _).symm ?_ h0 h1 (by simp only;omega) (λhn=>absurd hst.1 hn) ?_ ?_ (by omega) (by omega)
  ·show upd s.cases (b.aO i).cas { s.cases (b.aO i).cas with held:=wrap64 ((s.cases (b.aO i).cas).held+(b.aO i).amount) }=_
   rw[w1]
  ·show upd s.pd _ (wrap64 _)=_
   rw[w2]
  ·simp only;omega
  ·have e:iT s (b.aO i).cas=0:=by unfold iT;rw[if_neg (by have:=hst.1;omega)]
   rw[e,if_neg (by have:=hst.1;simp only;omega)];omega
 ·exact h.yS hk3 (by omega) hp.2.2.2.2.2.1 hM hM2
theorem dW.ins(h:dW b M s)(hv:Valid b)(d:Int)(hM:0≤M)(hM2:M≤9000000000):∀k,k≤b.ps.length→dW b (M+10000 * k) (Go.Proofs.YtnkejaohnhpbpaaGreatDoor.iter (St.jf b d) k s)
 |0,_=>h.mono (by omega)
 |k+1,hk=>by
  have ih:=dW.ins h hv d hM hM2 k (by omega);have hp:=hv.p _ (hv.pay (show k<b.ps.length by omega));have hnc:=hv.nc;have hnp:=hv.np
  show dW b _ (St.jf b d k (Go.Proofs.YtnkejaohnhpbpaaGreatDoor.iter (St.jf b d) k s))
  unfold St.jf;split
  ·split
   ·exact(ih.yS (show(b.aO k).aN<3 by omega) (by omega) hp.2.2.2.2.2.1 (by omega) (by omega)).mono (by omega)
   ·rename_i hkd;exact(ih.inn hv (by omega) hkd (by omega) (by omega)).mono (by omega)
  ·exact ih.mono (by omega)
theorem dW.mv(h:dW b M s)(hv:Valid b)(ha:b.aligned){i:Nat}(hi:i<b.ps.length)(hkd:(b.aO i).kind=2)(hM2:M≤10000000000):dW b M (s.mv b i):=by
 have hp:=hv.p _ (hv.pay hi);have hco:=ha _ (hv.pay hi) hkd;unfold St.mv;split
 ·rename_i hst;have hc:=hp.2.2.2.2.2.2.2 (by omega);have hk:=(hv.aN hc).2;have hl:=h.Hw hc hk;have hh:=h.held _ hc;have hb:=h.bounds hk;have h0:=h.acc _ hk;have h1:=h.tkn _ hk;obtain⟨_,ho,hw⟩:=hst;rw[hco]at hw;have w0:wrap64 (s.acc (b.aN (b.aO i).cas)-(b.aO i).amount)=s.acc (b.aN (b.aO i).cas)-(b.aO i).amount:=by unfold wrap64;omega
  have w1:wrap64 ((s.cases (b.aO i).cas).held+(b.aO i).amount)=(s.cases (b.aO i).cas).held+(b.aO i).amount:=by unfold wrap64;omega
  rw[w0]at hw;refine dW.keep ?_ hv _ hM2;rw[hco];refine h.turn (M':=M) hc hk (x:={ s.cases (b.aO i).cas with held:=(s.cases (b.aO i).cas).held+(b.aO i).amount }) (A:=s.acc (b.aN (b.aO i).cas) - (b.aO i).amount) (T:=s.tkn (b.aN (b.aO i).cas)) (D:=s.pd (b.aN (b.aO i).cas)) ?_ ?_ (oz _ _).symm (oz _ _).symm hw h1 (by simp only;omega) (λhn=>absurd ho hn) ?_ ?_ (Int.le_refl _) (h.most _ hk)
  ·show upd s.cases (b.aO i).cas { s.cases (b.aO i).cas with held:=wrap64 ((s.cases (b.aO i).cas).held+(b.aO i).amount) }=_
   rw[w1]
  ·show upd s.acc _ (wrap64 _)=_
   rw[w0]
  ·simp only;omega
  ·have e:iT s (b.aO i).cas=0:=by unfold iT;rw[if_neg (by omega)]
   rw[e,if_neg (by simp only;omega)];omega
 ·exact⟨h.acc,h.tkn,h.held,h.shut,h.sum,h.took,h.most⟩
theorem dW.mvs(h:dW b M s)(hv:Valid b)(ha:b.aligned)(d:Int)(hM:M≤10000000000):dW b M (s.mvs b d):=
 dW.iter (λc s hc hs=>by
  unfold St.jM;split
  ·rename_i hk;exact hs.mv hv ha hc hk.2 hM
  ·exact hs) h _ (ay _)
theorem dW.pG(h:dW b M s)(hv:Valid b)(ha:b.aligned)(d:Int)(hM:0≤M)(hM2:M≤8000000000):dW b (M+100000) (St.pG b s d):=by
 have hnp:=hv.np;have:=(h.iq hv d (by omega)).ins hv d hM (by omega) b.ps.length (ay _);exact((this.mono (M':=M+100000) (by omega)).keep hv d (by omega)).mvs hv ha d (by omega)
end
theorem wC{b:Book}(hv:Valid b)(ha:b.aligned):∀n:Nat,n≤9999→dW b (100000 * (n+1)) (b.after n)
 |0,_=>by
  have e:=b.qK (-1);rw[show(-1:Int)+1=0 from rfl,if_pos b.I7,hv.Bh]at e
  show dW b _ (b.after 0)
  rw[e];exact((dW.init b).pG hv ha 0 (Int.le_refl _) (by decide)).mono (by decide)
 |n+1,hn=>by
  have ih:=wC hv ha n (by omega);have e:=b.qK n;have e2:((n+1:Nat):Int)=(n:Int)+1:=by omega
  rw[e2,e];split
  ·exact(ih.pG hv ha _ (by omega) (by omega)).mono (by omega)
  ·exact ih.mono (by omega)
def Book.UN(b:Book)(k:Nat)(n:Int):Nat→Int
 |0=>0
 |i+1=>b.UN k n i+if(b.aO i).kind≠2∧(b.aO i).aN=k∧(b.aO i).day≤n then(b.aO i).amount else 0
def Book.paidOn(b:Book)(k:Nat)(n:Int):Nat→Int
 |0=>0
 |i+1=>b.paidOn k n i+if(b.aO i).kind≠2∧(b.aO i).aN=k∧(b.aO i).day=n then(b.aO i).amount else 0
end
section
open Go Go.RowKit
end
section
open Go Go.RowKit Lift
structure SumsAre (b:Book) (k:Nat) (n:Nat):Prop where
 a0:0≤(b.after n).acc k
 h0:0≤b.dB (b.after n) k
 t0:0≤(b.after n).tkn k
 sum:(b.after n).pd k=(b.after n).acc k+b.dB (b.after n) k+(b.after n).tkn k
 all:(b.after n).pd k=b.UN k n b.ps.length
 most:(b.after n).pd k≤100000
theorem Full.al{b:Book}(hf:Full b):b.aligned:=hf.mv
end
