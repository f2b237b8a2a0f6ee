/- The next day on which something can happen, in plain words. -/
import Derived.Test.YtnkejaohnhpbpaaGreatDoorA14
import Derived.Test.YtnkejaohnhpbpaaGreatDoorA17
set_option linter.all false
namespace Go.Proofs.YtnkejaohnhpbpaaGreatDoor
section
open Go Go.RowKit
def bW(d:Int):Int→List Int→Int
 |n,[]=>n
 |n,x::l=>bW d (if d<x then min n x else n) l
theorem nM(d:Int):∀(n:Int) (l m:List Int),bW d n (l++m)=bW d (bW d n l) m
 |n,[],m=>rfl
 |n,x::l,m=>by rw[List.cons_append,bW,nM d _ l m];rfl
theorem ru(d:Int):∀(n:Int) (l:List Int),bW d n l≤n∧(∀x∈l,d<x→bW d n l≤x)∧(bW d n l=n∨(bW d n l∈l∧d<bW d n l))
 |n,[]=>⟨Int.le_refl _,λx h=>absurd h (by simp),.inl rfl⟩
 |n,y::l=>by
  rw[bW];by_cases h:d<y
  ·rw[if_pos h];obtain⟨h1,h2,h3⟩:=ru d (min n y) l;refine⟨by omega,λx hx hd=>?_,?_⟩
   ·rcases List.mem_cons.1 hx with rfl|hx
    ·omega
    ·exact h2 x hx hd
   ·rcases h3 with h3|⟨h3,h4⟩
    ·by_cases q:n≤y
     ·left;omega
     ·right;have e:bW d (min n y) l=y:=by omega
      rw[e];exact⟨by simp,h⟩
    ·exact .inr ⟨List.mem_cons_of_mem _ h3,h4⟩
  ·rw[if_neg h];obtain⟨h1,h2,h3⟩:=ru d n l;refine⟨h1,λx hx hd=>?_,?_⟩
   ·rcases List.mem_cons.1 hx with rfl|hx
    ·exact absurd hd h
    ·exact h2 x hx hd
   ·rcases h3 with h3|⟨h3,h4⟩
    ·exact .inl h3
    ·exact .inr ⟨List.mem_cons_of_mem _ h3,h4⟩
theorem xY(d n x:Int)(l:List Int):bW d n (l++[x])=if d<x then min (bW d n l) x else bW d n l:=by rw[nM];rfl
def Book.lV(b:Book):List Int:=b.ps.map (·.day)
def Book.ends(b:Book):List Int:=b.cs.map λc=>c.due+c.gy+1
def Book.later(b:Book)(d:Int):Int:=bW d (bW d 1073741824 b.lV) b.ends
theorem Valid.ev_most{b:Book}(hv:Valid b){d:Int}(h:d∈b.bD):d≤10999:=by
 rw[b.kN]at h;unfold Book.dH at h;rcases List.mem_cons.1 h with h|h
 ·omega
 rcases List.mem_append.1 h with h|h
 ·obtain⟨p,hp,rfl⟩:=List.mem_map.1 h;have:=(hv.p p hp).2.2.1;omega
 ·obtain⟨c,hc,rfl⟩:=List.mem_map.1 h;have:=hv.k c hc;omega
def Book.ev(b:Book)(k:Nat):Int:=b.bD.getD k 1073741824
theorem Book.qQ{b:Book}{k:Nat}(h:k<b.bD.length):b.ev k=b.bD[k]:=by unfold Book.ev;simp[h]
theorem Book.MG{b:Book}{k:Nat}(h:k<b.bD.length):b.ev k∈b.bD:=by rw[Book.qQ h];exact List.getElem_mem h
theorem Book.EY{b:Book}{i j:Nat}(h:i<j)(hj:j<b.bD.length):b.ev i<b.ev j:=by
 rw[Book.qQ (show i<b.bD.length by omega),Book.qQ hj];exact List.pairwise_iff_getElem.1 b.iZ i j (by omega) hj h
theorem Book.MC{b:Book}{k:Nat}(h:b.bD.length≤k):b.ev k=1073741824:=by unfold Book.ev;simp[h]
theorem Valid.Un{b:Book}(hv:Valid b){k:Nat}(hk:k<b.bD.length):b.later (b.ev k)=b.ev (k+1):=by
 have hspec:=ru (b.ev k) 1073741824 (b.lV++b.ends);rw[nM]at hspec;have hl:bW (b.ev k) (bW (b.ev k) 1073741824 b.lV) b.ends=b.later (b.ev k):=rfl;rw[hl]at hspec;obtain⟨h1,h2,h3⟩:=hspec;have hmem:∀x,x∈b.bD↔x=0∨x∈b.lV++b.ends:=λx=>by rw[b.kN];exact List.mem_cons
 have h0:=hv.yN (Book.MG hk);by_cases hk1:k+1<b.bD.length
 ·have hlt:=Book.EY (show k<k+1 by omega) hk1;have hm:=Book.MG hk1;have hle:b.later (b.ev k)≤b.ev (k+1):=h2 _ (((hmem _).1 hm).resolve_left (by omega)) hlt;have hmo:=hv.ev_most hm;rcases h3 with h3|⟨h3,h4⟩
  ·omega
  ·obtain⟨j,hj,e⟩:=List.mem_iff_getElem.1 ((hmem _).2 (.inr h3));rw[← Book.qQ hj]at e;by_cases q:j≤k
   ·by_cases q2:j=k
    ·subst q2;omega
    ·have:=Book.EY (show j<k by omega) hk;omega
   ·by_cases q2:j=k+1
    ·subst q2;omega
    ·have:=Book.EY (show k+1<j by omega) hj;omega
 ·rw[Book.MC (show b.bD.length≤k+1 by omega)];rcases h3 with h3|⟨h3,h4⟩
  ·exact h3
  ·obtain⟨j,hj,e⟩:=List.mem_iff_getElem.1 ((hmem _).2 (.inr h3));rw[← Book.qQ hj]at e;by_cases q2:j=k
   ·subst q2;omega
   ·have:=Book.EY (show j<k by omega) hk;omega
def Book.upTo(b:Book)(k:Nat):St:=(b.bD.take k).foldl (St.pG b) St.init
theorem Book.Gj{b:Book}{k:Nat}(h:k<b.bD.length):b.upTo (k+1)=St.pG b (b.upTo k) (b.ev k):=by
 unfold Book.upTo;rw[List.take_add_one,List.getElem?_eq_getElem h,Book.qQ h,List.foldl_append];rfl
theorem Book.Oj{b:Book}{k:Nat}{n:Int}(hk:k≤b.bD.length)(hle:∀j,j<k→b.ev j≤n)(hgt:n<b.ev k):b.upTo k=b.after n:=by
 unfold Book.upTo Book.after;rw[sD b.iZ n k hk (λj hj=>by have:=hle j hj;rwa[Book.qQ (show j<b.bD.length by omega)]at this) (λh=>by rwa[Book.qQ h]at hgt)]
theorem Book.ev_zero{b:Book}(hv:Valid b):b.ev 0=0∧0<b.bD.length:=by
 have hz:=b.I7;obtain⟨j,hj,e⟩:=List.mem_iff_getElem.1 hz;rw[← Book.qQ hj]at e;have hl:0<b.bD.length:=by omega
 refine⟨?_,hl⟩;have h0:=hv.yN (Book.MG hl);by_cases q:j=0
 ·subst q;exact e
 ·have:=Book.EY (show 0<j by omega) hj;omega
end
section
open Go Go.RowKit Lift
structure Tch (S:Nat→Prop) (w w':World):Prop where
 os:w'.os=w.os
 tape:w'.tape=w.tape
 output:w'.output=w.output
 size:w.heap.size≤w'.heap.size
 block:∀k,k<w.heap.size→¬S k→w'.heap[k]?=w.heap[k]?
section
variable {S:Nat→Prop} {w w' w'':World}
theorem Tch.refl(S:Nat→Prop)(w:World):Tch S w w:=⟨rfl,rfl,rfl,ay _,λ_ _ _=>rfl⟩
theorem Tch.trans(h:Tch S w w')(k:Tch S w' w''):Tch S w w'':=⟨k.os.trans h.os,k.tape.trans h.tape,k.output.trans h.output,Nat.le_trans h.size k.size,λi hi hn=>(k.block i (aA hi h.size) hn).trans (h.block i hi hn)⟩
theorem Tch.of_below(h:Below w.heap.size w w'):Tch S w w':=⟨h.os,h.tape,h.output,h.size,λk hk _=>h.block k hk⟩
theorem Tch.below{N:Nat}(h:Tch S w w')(hN:N≤w.heap.size)(hS:∀k,S k→N≤k):Below N w w':=⟨h.os,h.tape,h.output,h.size,λk hk=>h.block k (by omega) λq=>by have:=hS k q;omega⟩
theorem Tch.set(h:Tch S w w'){p:Addr}(hp:S p.block)(v:Value):Tch S w (w'.setCell p v):=
 ⟨h.os,h.tape,h.output,by simpa[World.setCell]using h.size,λk hk hn=>(Below.heap_setCell w' p v k (λe=>hn (e▸hp))).trans (h.block k hk hn)⟩
theorem Tch.drawn(h:Tch S w w')(n:Nat):Tch S w { w' with drawn:=n }:=⟨h.os,h.tape,h.output,h.size,h.block⟩
theorem Blk.tch{B:Nat}{ty:TypeId}{cs:Array Value}(h:Blk w B ty cs)(k:Tch S w w')(hB:¬S B):Blk w' B ty cs:=(k.block B h.lt hB).trans h
end
def Col(w:World)(B:Nat)(ty:TypeId)(n:Nat)(f:Nat→Value):Prop:=∃cs,Blk w B ty cs∧∀i,i<n→cs[i]?=some (f i)
section
variable {w w':World} {B:Nat} {ty:TypeId} {n:Nat} {f g:Nat→Value}
theorem Col.lt(h:Col w B ty n f):B<w.heap.size:=by obtain⟨cs,h,_⟩:=h;exact h.lt
theorem Col.cell(h:Col w B ty n f){i:Nat}(hi:i<n):w.cell? ⟨B,i,none⟩=some (f i):=by obtain⟨cs,h1,h2⟩:=h;rw[h1.cell,h2 i hi]
theorem Col.frozen(h:Col w B ty n f)(i:Nat):w.frozen? ⟨B,i,none⟩=false:=by obtain⟨cs,h1,_⟩:=h;exact h1.frozen i
theorem Col.below(h:Col w B ty n f)(hb:Below w.heap.size w w'):Col w' B ty n f:=by obtain⟨cs,h1,h2⟩:=h;exact⟨cs,h1.below hb,h2⟩
theorem Col.set(h:Col w B ty n f){k j:Nat}(hk:k≠B)(v:Value):Col (w.setCell ⟨k,j,none⟩ v) B ty n f:=by obtain⟨cs,h1,h2⟩:=h;exact⟨cs,h1.set hk v,h2⟩
theorem Col.congr(h:Col w B ty n f)(e:∀i,i<n→f i=g i):Col w B ty n g:=by obtain⟨cs,h1,h2⟩:=h;exact⟨cs,h1,λi hi=>by rw[h2 i hi,e i hi]⟩
theorem Col.put(h:Col w B ty n f){j:Nat}(hj:j<n){v:Value}(e:∀i,i<n→g i=if i=j then v else f i):Col (w.setCell ⟨B,j,none⟩ v) B ty n g:=by
 obtain⟨cs,h1,h2⟩:=h;refine⟨_,h1.kQ j v,λi hi=>?_⟩;rw[e i hi,Array.getElem?_setIfInBounds];by_cases q:i=j
 ·subst q;rw[if_pos rfl,if_pos rfl,if_pos (by have:=h2 i hi;exact(Array.getElem?_eq_some_iff.1 this).1)]
 ·rw[if_neg (λz=>q z.symm),if_neg q,h2 i hi]
theorem Col.drawn(h:Col w B ty n f)(d:Nat):Col { w with drawn:=d } B ty n f:=by obtain⟨cs,h1,h2⟩:=h;exact⟨cs,h1,h2⟩
end
structure RW where
 o:Nat→Option Addr
 c:Nat→Nat
 B:Nat→Nat
def cnt(b:Book)(j:Nat):Nat:=if j<4 then b.cs.length else if j<7 then b.aJ.length else b.ps.length
def cty(j:Nat):TypeId:=if j=0 then 34 else if j=7 then 4 else 3
def cval(s:St):Nat→Nat→Value
 |0,c=>.int .i64 (s.cases c).state
 |1,c=>.int .i64 (s.cases c).held
 |2,c=>.int .i64 (s.cases c).day
 |3,c=>.int .i64 (s.cases c).fee
 |4,k=>.int .i64 (s.acc k)
 |5,k=>.int .i64 (s.tkn k)
 |6,k=>.int .i64 (s.pd k)
 |_,i=>.bool (decide ((i:Int)∈s.bM))
abbrev RW.arr(R:RW)(b:Book):Array Value:=#[.slice (R.o 0) b.cs.length (R.c 0),.slice (R.o 1) b.cs.length (R.c 1),.slice (R.o 2) b.cs.length (R.c 2),.slice (R.o 3) b.cs.length (R.c 3),.slice (R.o 4) b.aJ.length (R.c 4),.slice (R.o 5) b.aJ.length (R.c 5),.slice (R.o 6) b.aJ.length (R.c 6),.slice (R.o 7) b.ps.length (R.c 7)]
def RW.has(R:RW)(b:Book)(k:Nat):Prop:=∃j,j<8∧0<cnt b j∧k=R.B j
structure bP (N:Nat) (R:RW) (b:Book) (s:St) (w:World):Prop where
 ge:∀j,j<8→0<cnt b j→N≤R.B j
 ne:∀i j,i<8→j<8→i≠j→0<cnt b i→0<cnt b j→R.B i≠R.B j
 at_:∀j,j<8→0<cnt b j→R.o j=some ⟨R.B j,0,none⟩
 col:∀j,j<8→0<cnt b j→Col w (R.B j) (cty j) (cnt b j) (cval s j)
section
variable {N:Nat} {R:RW} {b:Book} {s:St} {w w':World}
theorem bP.same(h:bP N R b s w)(hb:Below w.heap.size w w'):bP N R b s w':=⟨h.ge,h.ne,h.at_,λj hj q=>(h.col j hj q).below hb⟩
theorem bP.drawn(h:bP N R b s w)(d:Nat):bP N R b s { w with drawn:=d }:=h.same ⟨rfl,rfl,rfl,ay _,λ_ _=>rfl⟩
theorem bP.lower{M:Nat}(h:bP N R b s w)(hM:M≤N):bP M R b s w:=⟨λj hj q=>Nat.le_trans hM (h.ge j hj q),h.ne,h.at_,h.col⟩
theorem bP.lt(h:bP N R b s w){k:Nat}(hk:R.has b k):k<w.heap.size:=by obtain⟨j,hj,q,rfl⟩:=hk;exact(h.col j hj q).lt
theorem bP.least(h:bP N R b s w){k:Nat}(hk:R.has b k):N≤k:=by obtain⟨j,hj,q,rfl⟩:=hk;exact h.ge j hj q
theorem bP.free(h:bP N R b s w){k:Nat}(hk:w.heap.size≤k):¬R.has b k:=λq=>by have:=h.lt q;omega
theorem bP.cell(h:bP N R b s w){j i:Nat}(hj:j<8)(hi:i<cnt b j):w.cell? ⟨R.B j,i,none⟩=some (cval s j i):=(h.col j hj (by omega)).cell hi
theorem bP.frozen(h:bP N R b s w){j i:Nat}(hj:j<8)(hi:i<cnt b j):w.frozen? ⟨R.B j,i,none⟩=false:=(h.col j hj (by omega)).frozen i
theorem bP.blt(h:bP N R b s w){j i:Nat}(hj:j<8)(hi:i<cnt b j):R.B j<w.heap.size:=(h.col j hj (by omega)).lt
theorem bP.put(h:bP N R b s w){j i:Nat}(hj:j<8)(hi:i<cnt b j){v:Value}{s':St}(e:∀k m,k<8→m<cnt b k→cval s' k m=if k=j∧m=i then v else cval s k m):bP N R b s' (w.setCell ⟨R.B j,i,none⟩ v):=by
 refine⟨h.ge,h.ne,h.at_,λk hk q=>?_⟩;by_cases z:k=j
 ·subst z;exact(h.col k hk q).put hi λm hm=>by rw[e k m hk hm];simp
 ·exact((h.col k hk q).set (h.ne j k hj hk (λy=>z y.symm) (by omega) q) v).congr λm hm=>by rw[e k m hk hm,if_neg λy=>z y.1]
theorem bP.congr{s':St}(h:bP N R b s w)(e:∀k m,k<8→m<cnt b k→cval s k m=cval s' k m):bP N R b s' w:=⟨h.ge,h.ne,h.at_,λk hk q=>(h.col k hk q).congr λm hm=>e k m hk hm⟩
theorem kZ{P:Nat→Prop}(h0:P 0)(h1:P 1)(h2:P 2)(h3:P 3)(h4:P 4)(h5:P 5)(h6:P 6)(h7:P 7):∀k,k<8→P k:=λk hk=>by
 rcases(show k=0∨k=1∨k=2∨k=3∨k=4∨k=5∨k=6∨k=7 by omega)with rfl|rfl|rfl|rfl|rfl|rfl|rfl|rfl<;>assumption
def St.upc(s:St)(c:Nat)(x:Std):St:={ s with cases:=upd s.cases c x }
theorem fP{α:Type}(f:Nat→α)(c i:Nat)(x:α):upd f c x i=if i=c then x else f i:=rfl
theorem bP.setSt(h:bP N R b s w){c:Nat}(hc:c<b.cs.length)(x:Int):bP N R b (s.upc c { s.cases c with state:=x }) (w.setCell ⟨R.B 0,c,none⟩ (.int .i64 x)):=
 h.put (j:=0) (by omega) hc λk m hk _=>kZ (P:=λk=>cval (s.upc c { s.cases c with state:=x }) k m=if k=0∧m=c then(.int .i64 x)else cval s k m) (by by_cases q:m=c<;>simp[cval,St.upc,fP,q]) (by by_cases q:m=c<;>simp[cval,St.upc,fP,q]) (by by_cases q:m=c<;>simp[cval,St.upc,fP,q]) (by by_cases q:m=c<;>simp[cval,St.upc,fP,q]) rfl rfl rfl rfl k hk
theorem bP.O4(h:bP N R b s w){c:Nat}(hc:c<b.cs.length)(x:Int):bP N R b (s.upc c { s.cases c with held:=x }) (w.setCell ⟨R.B 1,c,none⟩ (.int .i64 x)):=
 h.put (j:=1) (by omega) hc λk m hk _=>kZ (P:=λk=>cval (s.upc c { s.cases c with held:=x }) k m=if k=1∧m=c then(.int .i64 x)else cval s k m) (by by_cases q:m=c<;>simp[cval,St.upc,fP,q]) (by by_cases q:m=c<;>simp[cval,St.upc,fP,q]) (by by_cases q:m=c<;>simp[cval,St.upc,fP,q]) (by by_cases q:m=c<;>simp[cval,St.upc,fP,q]) rfl rfl rfl rfl k hk
theorem bP.setDy(h:bP N R b s w){c:Nat}(hc:c<b.cs.length)(x:Int):bP N R b (s.upc c { s.cases c with day:=x }) (w.setCell ⟨R.B 2,c,none⟩ (.int .i64 x)):=
 h.put (j:=2) (by omega) hc λk m hk _=>kZ (P:=λk=>cval (s.upc c { s.cases c with day:=x }) k m=if k=2∧m=c then(.int .i64 x)else cval s k m) (by by_cases q:m=c<;>simp[cval,St.upc,fP,q]) (by by_cases q:m=c<;>simp[cval,St.upc,fP,q]) (by by_cases q:m=c<;>simp[cval,St.upc,fP,q]) (by by_cases q:m=c<;>simp[cval,St.upc,fP,q]) rfl rfl rfl rfl k hk
theorem bP.setFe(h:bP N R b s w){c:Nat}(hc:c<b.cs.length)(x:Int):bP N R b (s.upc c { s.cases c with fee:=x }) (w.setCell ⟨R.B 3,c,none⟩ (.int .i64 x)):=
 h.put (j:=3) (by omega) hc λk m hk _=>kZ (P:=λk=>cval (s.upc c { s.cases c with fee:=x }) k m=if k=3∧m=c then(.int .i64 x)else cval s k m) (by by_cases q:m=c<;>simp[cval,St.upc,fP,q]) (by by_cases q:m=c<;>simp[cval,St.upc,fP,q]) (by by_cases q:m=c<;>simp[cval,St.upc,fP,q]) (by by_cases q:m=c<;>simp[cval,St.upc,fP,q]) rfl rfl rfl rfl k hk
theorem bP.FY(h:bP N R b s w){c:Nat}(hc:c<b.aJ.length)(x:Int):bP N R b { s with acc:=upd s.acc c x } (w.setCell ⟨R.B 4,c,none⟩ (.int .i64 x)):=
 h.put (j:=4) (by omega) hc λk m hk _=>kZ (P:=λk=>cval { s with acc:=upd s.acc c x } k m=if k=4∧m=c then(.int .i64 x)else cval s k m) rfl rfl rfl rfl (by by_cases q:m=c<;>simp[cval,fP,q]) rfl rfl rfl k hk
theorem bP.setTk(h:bP N R b s w){c:Nat}(hc:c<b.aJ.length)(x:Int):bP N R b { s with tkn:=upd s.tkn c x } (w.setCell ⟨R.B 5,c,none⟩ (.int .i64 x)):=
 h.put (j:=5) (by omega) hc λk m hk _=>kZ (P:=λk=>cval { s with tkn:=upd s.tkn c x } k m=if k=5∧m=c then(.int .i64 x)else cval s k m) rfl rfl rfl rfl rfl (by by_cases q:m=c<;>simp[cval,fP,q]) rfl rfl k hk
theorem bP.DK(h:bP N R b s w){c:Nat}(hc:c<b.aJ.length)(x:Int):bP N R b { s with pd:=upd s.pd c x } (w.setCell ⟨R.B 6,c,none⟩ (.int .i64 x)):=
 h.put (j:=6) (by omega) hc λk m hk _=>kZ (P:=λk=>cval { s with pd:=upd s.pd c x } k m=if k=6∧m=c then(.int .i64 x)else cval s k m) rfl rfl rfl rfl rfl rfl (by by_cases q:m=c<;>simp[cval,fP,q]) rfl k hk
theorem bP.setVd(h:bP N R b s w){i:Nat}(hi:i<b.ps.length):bP N R b { s with bM:=s.bM++[(i:Int)] } (w.setCell ⟨R.B 7,i,none⟩ (.bool true)):=
 h.put (j:=7) (by omega) hi λk m hk _=>kZ (P:=λk=>cval { s with bM:=s.bM++[(i:Int)] } k m=if k=7∧m=i then(.bool true)else cval s k m) rfl rfl rfl rfl rfl rfl rfl (by
  by_cases q:m=i
  ·subst q;simp[cval]
  ·have:(m:Int)≠i:=by omega
   simp[cval,q,this]) k hk
end
section
variable {F:Fence} {n:Nat} {P:Program} {ops:Array Oper} {W:Wm} {i:Nat} {rest:List Nat} {a:Act} {R:Act→Prop} {o:Oper}
theorem dn(ho:ops[i]?=some o)(hw:Region.wanted o (yielded ops a.tmps)=true)
  (hr:∃af:Act,(∀D x w,dX ops D i→W D x w→∀K Q,(∀w',W (aQ D i) x w'→K af w')→o.wpIn F n P a w K Q)∧∃v,af=a.put o.dst v∧lJ F n P ops W [] rest af R):lJ F n P ops W [] (i::rest) a R:=by
 obtain⟨af,h1,v,h2,h3⟩:=hr;exact dA (u0:=λ_=>undef) ho (λ_=>hw) (λg hg=>by cases hg) (λg hg=>by cases hg) ⟨λ_=>af,λD x w hm hW K Q hK=>h1 D x w hm hW K Q hK,v,λ_=>h2,h3⟩
theorem jS(ho:ops[i]?=some o)(hw:Region.wanted o (yielded ops a.tmps)=true)(hd:o.dst=none)
  (hs:∀D x w,dX ops D i→W D x w→∀K Q,(∀w',W (aQ D i) x w'→K a w')→o.wpIn F n P a w K Q) (hr:lJ F n P ops W [] rest a R):lJ F n P ops W [] (i::rest) a R:=
 jv ho (λ_=>hw) hd hs hr
end
def WQ(N:Nat)(R:RW)(b:Book)(w0:World)(mix:(Nat→Bool)→St):Wm:=λD _ w=>bP N R b (mix D) w∧Tch (R.has b) w0 w
section
variable {N:Nat} {R:RW} {b:Book} {w0 w w':World} {mix:(Nat→Bool)→St} {D:Nat→Bool} {x:Tmp→Value} {i:Nat}
theorem WQ.start{s:St}(h:bP N R b s w0)(e:mix (λ_=>false)=s):WQ N R b w0 mix (λ_=>false) x { w0 with drawn:=w0.drawn+1 }:=⟨e▸h.drawn _,(Tch.refl _ _).drawn _⟩
theorem WQ.step(h:WQ N R b w0 mix D x w)(e:mix (aQ D i)=mix D)(hb:Below w.heap.size w w'):WQ N R b w0 mix (aQ D i) x w':=⟨e▸h.1.same hb,h.2.trans (Tch.of_below hb)⟩
theorem WQ.keep(h:WQ N R b w0 mix D x w)(e:mix (aQ D i)=mix D):WQ N R b w0 mix (aQ D i) x w:=h.step e (Below.refl _ _)
theorem WQ.put(h:WQ N R b w0 mix D x w){j c:Nat}(hj:j<8)(hc:c<cnt b j){v:Value}{s':St}(hs:bP N R b s' (w.setCell ⟨R.B j,c,none⟩ v))(e:s'=mix (aQ D i)):WQ N R b w0 mix (aQ D i) x (w.setCell ⟨R.B j,c,none⟩ v):=
 ⟨e▸hs,h.2.set (p:=⟨R.B j,c,none⟩) ⟨j,hj,by omega,rfl⟩ v⟩
end
end
section
open Go Go.RowKit Lift
theorem ret_i{x a:Int}(h:x=a):Ending.returned (.int .i64 x)=.returned (.int .i64 a):=by rw[h]
def Jy(p:Int×Bool):Int:=if p.2=true then p.1 else -1
theorem PZ(kb ko kn kc tb to tn tc c tar:Nat)(day cl du gr ex ba ea fr co:Int)(v0 v3:Value)(s1 s2:ByteArray)(w:World)(hc:c<kn)(ht:tar<tn)(hkb:kb<w.heap.size)(htb:tb<w.heap.size)
 (k0:w.cell? ⟨kb,ko+c * 6,none⟩=some (.string s1)) (k1:w.cell? ⟨kb,ko+c * 6+1,none⟩=some (.int .i64 tar))  (k2:w.cell? ⟨kb,ko+c * 6+2,none⟩=some (.int .i64 cl)) (k3:w.cell? ⟨kb,ko+c * 6+3,none⟩=some (.int .i64 du)) (k4:w.cell? ⟨kb,ko+c * 6+4,none⟩=some (.int .i64 gr)) (k5:w.cell? ⟨kb,ko+c * 6+5,none⟩=some (.int .i64 ex))
 (t0:w.cell? ⟨tb,to+tar * 5,none⟩=some (.string s2)) (t1:w.cell? ⟨tb,to+tar * 5+1,none⟩=some (.int .i64 co))  (t2:w.cell? ⟨tb,to+tar * 5+2,none⟩=some (.int .i64 ba)) (t3:w.cell? ⟨tb,to+tar * 5+3,none⟩=some (.int .i64 ea)) (t4:w.cell? ⟨tb,to+tar * 5+4,none⟩=some (.int .i64 fr))
 (b1:0≤cl) (b2:cl≤45) (b3:0≤fr) (b4:fr≤45) (b5:0≤ea) (b6:ea≤10000) (b7:0≤ba) (b8:ba≤10000) (b9:0≤du) (b10:du≤9999) (b11:0≤gr) (b12:gr≤999) (b13:0≤ex) (b14:ex≤10000) :
 CallsIn Fz 0 Tryz.prog 48 #[.agg #[v0,.slice (some ⟨tb,to,none⟩) tn tc,.slice (some ⟨kb,ko,none⟩) kn kc,v3],.int .i64 c,.int .i64 day] w λe w'=>e=.returned (.int .i64 (Jy (jL ba ea fr cl du gr ex day)))∧Below w.heap.size w w':=by
 have hm1:0≤ea * (cl-fr)∨cl<fr:=by
  by_cases h:cl<fr
  ·exact .inr h
  ·exact .inl (Int.mul_nonneg b5 (by omega))
 have hm2:ea * (cl-fr)≤10000 * 45:=by
  by_cases h:cl<fr
  ·have:=Int.mul_nonpos_of_nonneg_of_nonpos b5 (show cl-fr≤0 by omega);omega
  ·exact Int.mul_le_mul b6 (by omega) (by omega) (by omega)
 gi_enter Tryz.func48,Tryz.ntmps48
 gi_wp2
 all_goals
  go_ret;refine⟨ret_i ?_,(((Below.refl _ _).alloc (ay _) _).alloc (by simp<;>omega) _).alloc (by simp<;>omega) _⟩
  first
   |rw[show jL ba ea fr cl du gr ex day=(ba+ea * max 0 (cl-fr),true)from by unfold jL;rw[if_pos (by assumption)]]
   |rw[show jL ba ea fr cl du gr ex day=(ba+ea * max 0 (cl-fr)+ex,true)from by unfold jL;rw[if_neg (by omega),if_pos (by assumption)]]
   |rw[show jL ba ea fr cl du gr ex day=(0,false)from by unfold jL;rw[if_neg (by omega),if_neg (by omega)]]
  unfold Jy
  first
   |rw[if_pos rfl]
   |rw[if_neg (by decide)]
  try dsimp only
  try
   rcases Int.le_total fr cl with hq|hq
   ·rw[show max 0 (cl-fr)=cl-fr by omega];generalize ea * (cl-fr)=p at *;unfold wrap64;omega
   ·rw[show max 0 (cl-fr)=0 by omega,Int.mul_zero];unfold wrap64;omega
def Book.zA(b:Book)(c:Nat)(day:Int):Int:=Jy (b.fee c day)
theorem BK{N:Nat}{l:Lay}{b:Book}{w:World}(h:dQ N l b w)(hv:Valid b){c:Nat}(hc:c<b.cs.length)(day:Int) :
 CallsIn Fz 0 Tryz.prog 48 #[l.val b,.int .i64 c,.int .i64 day] w λe w'=>e=.returned (.int .i64 (b.zA c day))∧Below w.heap.size w w':=by
 obtain⟨kb,ko,tb,to,H⟩:=h.case hv hc;have hN:=h.hN;have v1:=hv.k _ H.mk_;have v2:=hv.t _ H.mt_;have k:=H.rk;have t:=H.rt;have k0:=k 0 _ rfl;have k1:=k 1 _ rfl;have k2:=k 2 _ rfl;have k3:=k 3 _ rfl;have k4:=k 4 _ rfl;have k5:=k 5 _ rfl;have t0:=t 0 _ rfl;have t1:=t 1 _ rfl;have t2:=t 2 _ rfl;have t3:=t 3 _ rfl;have t4:=t 4 _ rfl;simp only[Nat.add_zero]at k0 t0;unfold Lay.val Book.zA Book.fee;rw[H.ek,H.et]
 exact PZ kb ko b.cs.length l.kc tb to b.ts.length l.tc c (b.aY c).tar day (b.aY c).classes (b.aY c).due (b.aY c).gy (b.aY c).extra (b.dV c).base (b.dV c).each (b.dV c).free (b.dV c).aN _ _ (b.aY c).name (b.dV c).name w hc H.lt
  (aA H.hk hN) (aA H.ht hN) k0 k1 k2 k3 k4 k5 t0 t1 t2 t3 t4 v1.2.1 v1.2.2.1 v2.2.2.2.2.2.1 v2.2.2.2.2.2.2 v2.2.2.2.1 v2.2.2.2.2.1 v2.2.1 v2.2.2.1 v1.2.2.2.1 v1.2.2.2.2.1 v1.2.2.2.2.2.1 v1.2.2.2.2.2.2.1 v1.2.2.2.2.2.2.2.1 v1.2.2.2.2.2.2.2.2
theorem LZ(kb ko kn kc tb to tn tc c tar:Nat)(co:Int)(v0 v3:Value)(w:World)(hc:c<kn)(ht:tar<tn)(hkb:kb<w.heap.size)(htb:tb<w.heap.size)
 (k1:w.cell? ⟨kb,ko+c * 6+1,none⟩=some (.int .i64 tar)) (t1:w.cell? ⟨tb,to+tar * 5+1,none⟩=some (.int .i64 co)) :
 CallsIn Fz 0 Tryz.prog 62 #[.agg #[v0,.slice (some ⟨tb,to,none⟩) tn tc,.slice (some ⟨kb,ko,none⟩) kn kc,v3],.int .i64 c] w λe w'=>e=.returned (.int .i64 co)∧Below w.heap.size w w':=by
 gi_enter Tryz.func62,Tryz.ntmps62
 gi_wp2;gi_big_quiet_th (fail)
 gi_wp2;go_ret;exact⟨rfl,⟨rfl,rfl,rfl,by simp[World.drewN],λk hk=>((Below.refl w.heap.size w).alloc (ay _) _).block k hk⟩⟩
theorem pF{N:Nat}{l:Lay}{b:Book}{w:World}(h:dQ N l b w)(hv:Valid b){c:Nat}(hc:c<b.cs.length) :
 CallsIn Fz 0 Tryz.prog 62 #[l.val b,.int .i64 c] w λe w'=>e=.returned (.int .i64 (b.aN c:Nat))∧Below w.heap.size w w':=by
 obtain⟨kb,ko,tb,to,H⟩:=h.case hv hc;have hN:=h.hN;have k1:=H.rk 1 _ rfl;have t1:=H.rt 1 _ rfl;unfold Lay.val Book.aN;rw[H.ek,H.et];exact LZ kb ko b.cs.length l.kc tb to b.ts.length l.tc c (b.aY c).tar (b.dV c).aN _ _ w hc H.lt (aA H.hk hN) (aA H.ht hN) k1 t1
set_option maxHeartbeats 4000000 in
theorem Uo{N:Nat}{l:Lay}{b:Book}{w:World}(hbk:dQ N l b w)(hv:Valid b)(d:Int) :
  CallsIn Fz 0 Tryz.prog 94 #[l.val b,.int .i64 d] w λe w'=>e=.returned (.int .i64 (b.later d))∧Below w.heap.size w w':=by
 have hnp:=hv.np;have hnk:=hv.nk;have hb1:Below w.heap.size w (w.alloc (.cells (l.arr b) 27)):=(Below.refl _ w).alloc (ay _) _;have hA:=Blk.new w (l.arr b) 27;have hN1:=hbk.below (hb1.mono hbk.hN);unfold Lay.val at *;gi_enter Tryz.func94,Tryz.ntmps94
 gi_wp2;generalize w.alloc _=W at *;have a0:=hA.cell 0;have a1:=hA.cell 1;have a2:=hA.cell 2;have a3:=hA.cell 3;simp at a0 a1 a2 a3;have kU:=hA.lt;gi_loopw [5,6] (λv i wr=>wr=W∧∃k:Nat,k≤b.ps.length∧i=.int .i64 k∧v=.int .i64 (bW d 1073741824 (b.lV.take k))) (λ_ i _=>b.ps.length-(intOf i).toNat)
 case atStart=>exact⟨rfl,0,Nat.zero_le _,rfl,rfl⟩
 case round=>
  obtain⟨rfl,k,hk,rfl,rfl⟩:=hrel;by_cases hl:k<b.ps.length
  ·obtain⟨pb,po,hP⟩:=hN1.pay hl;have hpw:pb<wr.heap.size:=aA hP.hp hN1.hN;have p1:=hP.rp 1 _ rfl;have hm:bW d 1073741824 (b.lV.take (k+1))=if d<(b.aO k).day then min (bW d 1073741824 (b.lV.take k)) (b.aO k).day else bW d 1073741824 (b.lV.take k):=by
    have e:b.lV[k]?=some (b.aO k).day:=by simp[Book.lV,Book.aO,hl]
    rw[List.take_add_one,e,Option.toList_some,xY]
   have hep:=hP.ep;generalize bW d 1073741824 (b.lV.take k)=m at *;generalize (b.aO k).day=y at *;have HM:=Lib.hid hm;clear hm;rw[hep]at a3;clear hep;by_cases hd:d<y
   ·gi_wp2;go_roundw
    case rel=>exact⟨by trivial,k+1,by omega,by go_num,by rw[HM.out,if_pos (by omega)]⟩
    case measure=>simp[intOf];omega
   ·gi_wp2;go_roundw
    case rel=>exact⟨by trivial,k+1,by omega,by go_num,by rw[HM.out,if_neg (by omega)]⟩
    case measure=>simp[intOf];omega
  ·obtain rfl:k=b.ps.length:=by omega
   rw[List.take_of_length_le (by simp[Book.lV])];have hcl:∀n,bW d (bW d 1073741824 b.lV) (b.ends.take n)=bW d (bW d 1073741824 b.lV) (b.ends.take n):=λ_=>rfl;have hend:b.later d=bW d (bW d 1073741824 b.lV) b.ends:=rfl;generalize bW d 1073741824 b.lV=m0 at *;have HE:=Lib.hid hend;clear hend hcl;gi_wp2;gi_loopw [5,7] (λv i wx=>Below wr.heap.size wr wx∧∃k:Nat,k≤b.cs.length∧i=.int .i64 k∧v=.int .i64 (bW d m0 (b.ends.take k))) (λ_ i _=>b.cs.length-(intOf i).toNat)
   case atStart=>exact⟨Below.refl _ _,0,Nat.zero_le _,rfl,rfl⟩
   case round=>
    obtain⟨HB,k,hk,rfl,rfl⟩:=hrel;have hA2:=hA.below HB;have yJ:=hN1.below (HB.mono hN1.hN);have ltA2:=hA2.lt;clear a0 a1 a2 a3;have a0:=hA2.cell 0;have a1:=hA2.cell 1;have a2:=hA2.cell 2;have a3:=hA2.cell 3;simp at a0 a1 a2 a3;by_cases hl:k<b.cs.length
    ·obtain⟨kb,ko,tb,to,H⟩:=yJ.case hv hl;have hkw:kb<wr.heap.size:=aA H.hk yJ.hN;have v1:=hv.k _ H.mk_;have k3:=H.rk 3 _ rfl;have k4:=H.rk 4 _ rfl;have hm:bW d m0 (b.ends.take (k+1))=if d<(b.aY k).due+(b.aY k).gy+1 then min (bW d m0 (b.ends.take k)) ((b.aY k).due+(b.aY k).gy+1)else bW d m0 (b.ends.take k):=by
      have e:b.ends[k]?=some ((b.aY k).due+(b.aY k).gy+1):=by simp[Book.ends,Book.aY,hl]
      rw[List.take_add_one,e,Option.toList_some,xY]
     have hek:=H.ek;obtain⟨q1,q2,q3,q4,q5,q6,q7,q8⟩:=v1.2;generalize bW d m0 (b.ends.take k)=m at *;generalize (b.aY k).due=du at *;generalize (b.aY k).gy=gr at *;have HM:=Lib.hid hm;clear hm;rw[hek]at a2;clear hek;by_cases hd:d<du+gr+1
     ·gi_wp2_with fail
      gi_big_quiet_th (fail)
      gi_wp2;go_roundw
      case rel=>exact⟨HB.trans ((below_drewN _ nq).mono HB.size),k+1,by omega,by go_num,by rw[HM.out,if_pos (by omega)]⟩
      case measure=>simp[intOf];omega
     ·gi_wp2_with fail
      gi_big_quiet_th (fail)
      gi_wp2;go_roundw
      case rel=>exact⟨HB.trans ((below_drewN _ nq).mono HB.size),k+1,by omega,by go_num,by rw[HM.out,if_neg (by omega)]⟩
      case measure=>simp[intOf];omega
    ·obtain rfl:k=b.cs.length:=by omega
     rw[List.take_of_length_le (by simp[Book.ends])];gi_wp2;go_ret;exact⟨gJ HE.out,hb1.trans (HB.mono (by omega))⟩
end
