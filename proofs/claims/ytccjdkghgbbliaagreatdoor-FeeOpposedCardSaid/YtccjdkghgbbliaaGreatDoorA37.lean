/- Without moves: a case is kept on the first day on which what came in reaches its fee. -/
import Derived.Lib.SmallJoins
import Derived.Conc.LeavingOf
import Derived.Test.YtccjdkghgbbliaaGreatDoorA10
import Derived.Test.YtccjdkghgbbliaaGreatDoorA32
set_option linter.all false
namespace Go.Proofs.YtccjdkghgbbliaaGreatDoor
section
set_option maxHeartbeats 1000000
set_option maxRecDepth 10000
open Go Go.RowKit
def Book.hits(b:Book)(c i:Nat):Prop:=(b.aV i).kind=0∧(b.aV i).cas=c∧(b.aV i).bg=b.bg c
instance (b:Book) (c i:Nat):Decidable (b.hits c i):=by unfold Book.hits;exact inferInstance
def Book.came(b:Book)(c:Nat)(e:Int):Nat→Int
 |0=>0
 |k+1=>b.came c e k+if b.hits c k∧(b.aV k).day≤e then(b.aV k).amount else 0
def Book.oI(b:Book)(c:Nat)(d:Int):Nat→Int
 |0=>0
 |k+1=>b.oI c d k+if b.hits c k∧(b.aV k).day=d then(b.aV k).amount else 0
def Book.ok(b:Book)(c:Nat)(d:Int):Prop:=(b.fee c d).2=true∧(b.fee c d).1≤b.came c d b.ps.length
def Book.still(b:Book):Prop:=∀p∈b.ps,p.kind≠2
theorem uM(b:Book)(c:Nat)(n:Int):∀k,b.came c (n+1) k=b.came c n k+b.oI c (n+1) k
 |0=>rfl
 |k+1=>by
  simp only[Book.came,Book.oI,uM b c n k];by_cases h:b.hits c k
  ·by_cases h1:(b.aV k).day≤n
   ·have h2:(b.aV k).day≤n+1:=by omega
    have h3:(b.aV k).day≠n+1:=by omega
    simp only[h,h1,h2,h3,and_self,and_false,if_true,if_false];omega
   ·by_cases h3:(b.aV k).day=n+1
    ·have h2:(b.aV k).day≤n+1:=by omega
     rw[if_pos ⟨h,h2⟩,if_neg (λh=>h1 h.2),if_pos ⟨h,h3⟩];omega
    ·have h2:¬(b.aV k).day≤n+1:=by omega
     rw[if_neg (λh=>h2 h.2),if_neg (λh=>h1 h.2),if_neg (λh=>h3 h.2)];omega
  ·rw[if_neg (λx=>h x.1),if_neg (λx=>h x.1),if_neg (λx=>h x.1)];omega
section
variable {b:Book} (hv:Valid b) {c:Nat}
include hv
theorem zX(e:Int):∀k,k≤b.ps.length→0≤b.came c e k∧b.came c e k≤10000 * k
 |0,_=>by simp[Book.came]
 |k+1,hk=>by
  have ih:=zX e k (by omega);have hp:=hv.p _ (hv.pay (show k<b.ps.length by omega));simp only[Book.came];split<;>omega
theorem yO(e:Int):∀k,k≤b.ps.length→0≤b.oI c e k∧b.oI c e k≤10000 * k
 |0,_=>by simp[Book.oI]
 |k+1,hk=>by
  have ih:=yO e k (by omega);have hp:=hv.p _ (hv.pay (show k<b.ps.length by omega));simp only[Book.oI];split<;>omega
theorem Iq:∀k,k≤b.ps.length→b.came c (-1) k=0
 |0,_=>rfl
 |k+1,hk=>by
  have hp:=hv.p _ (hv.pay (show k<b.ps.length by omega));simp only[Book.came];rw[Iq k (by omega),if_neg (λh=>by have:=h.2;omega)];rfl
theorem BH{d:Int}(hn:d∉b.bP):∀k,k≤b.ps.length→b.oI c d k=0
 |0,_=>rfl
 |k+1,hk=>by
  simp only[Book.oI];rw[BH hn k (by omega),if_neg (λh=>hn (by rw[← h.2];exact hv.pay_ev (by omega)))];rfl
end
def Came(b:Book)(c:Nat)(e:Int)(x:Std):Prop:=
 (x.state=0∧x.held=b.came c e b.ps.length∧∀d,0≤d→d≤e→¬b.ok c d)∨
 (x.state=1∧0≤x.day∧x.day≤e∧b.ok c x.day∧∀d,0≤d→d<x.day→¬b.ok c d)∨
 (x.state=2∧(b.fee c e).2=false∧∀d,0≤d→d≤e→¬b.ok c d)
section
variable {b:Book} {c:Nat} {n:Int} {x:Std}
theorem Came.next(h:Came b c n x)(hv:Valid b)(hc:c<b.cs.length)(h0:0≤n)(hn:n+1∉b.bP):Came b c (n+1) x:=by
 have hcm:b.came c (n+1) b.ps.length=b.came c n b.ps.length:=by
  rw[uM,BH hv hn _ (ak _)];omega
 have key:(∀d,0≤d→d≤n→¬b.ok c d)→∀d,0≤d→d≤n+1→¬b.ok c d:=λh d hd0 hd=>by
  by_cases e:d=n+1
  ·subst e;rintro⟨k1,k2⟩;have:=hv.IU hc (show n≤n+1 by omega) k1;exact h n h0 (Int.le_refl _) ⟨this.2,by omega⟩
  ·exact h d hd0 (by omega)
 rcases h with⟨h1,h2,h3⟩|⟨h1,h2,h3,h4,h5⟩|⟨h1,h2,h3⟩
 ·exact .inl ⟨h1,by rw[hcm];exact h2,key h3⟩
 ·exact .inr (.inl ⟨h1,h2,by omega,h4,h5⟩)
 ·refine .inr (.inr ⟨h1,?_,key h3⟩);rw[hv.due hc,decide_eq_false_iff_not]at h2 ⊢;omega
def jf(b:Book)(c:Nat)(n:Int)(k:Nat)(x:Std):Prop:=
 (x.state=0∧x.held=b.came c n b.ps.length+b.oI c (n+1) k∧(b.fee c (n+1)).2=true∧∀d,0≤d→d≤n→¬b.ok c d)∨
 (x.state=1∧0≤x.day∧x.day≤n∧b.ok c x.day∧∀d,0≤d→d<x.day→¬b.ok c d)∨
 (x.state=2∧(b.fee c (n+1)).2=false∧∀d,0≤d→d≤n+1→¬b.ok c d)
theorem Came.iY(h:Came b c n x)(hv:Valid b)(hc:c<b.cs.length):jf b c n 0 (nI b (n+1) c x):=by
 have last:(b.fee c (n+1)).2=false→(∀d,0≤d→d≤n→¬b.ok c d)→∀d,0≤d→d≤n+1→¬b.ok c d:=λhd h d hd0 hd1=>by
  by_cases e:d=n+1
  ·subst e;rintro⟨k1,_⟩;rw[hd]at k1;cases k1
  ·exact h d hd0 (by omega)
 unfold nI;rcases h with⟨h1,h2,h3⟩|h|⟨h1,h2,h3⟩
 ·cases hd:(b.fee c (n+1)).2 with
  |false=>rw[if_pos ⟨rfl,h1⟩];exact .inr (.inr ⟨rfl,hd,last hd h3⟩)
  |true=>rw[if_neg (by simp)];exact .inl ⟨h1,by simp[h2,Book.oI],hd,h3⟩
 ·rw[if_neg (by have:=h.1;omega)];exact .inr (.inl h)
 ·rw[if_neg (by omega)];have hd:(b.fee c (n+1)).2=false:=by
   rw[hv.due hc,decide_eq_false_iff_not]at h2 ⊢;omega
  exact .inr (.inr ⟨h1,hd,last hd h3⟩)
theorem jf.jH{s:St}{k:Nat}(h:jf b c n k (s.cases c))(hv:Valid b)(hst:b.still)(hk:k<b.ps.length):jf b c n (k+1) ((St.jH b (n+1) k s).cases c):=by
 have hp:=hv.p _ (hv.pay hk);have hk2:=hst _ (hv.pay hk);have hc0:=zX (c:=c) hv n b.ps.length (ak _);have ho0:=yO (c:=c) hv (n+1) k (by omega);have hnp:=hv.np;have e:b.oI c (n+1) (k+1)=b.oI c (n+1) k+if b.hits c k∧(b.aV k).day=n+1 then(b.aV k).amount else 0:=rfl
 have settled:(s.cases c).state≠0→(St.jH b (n+1) k s).cases c=s.cases c:=λhs=>by
  unfold St.jH;split
  ·split
   ·rfl
   ·rw[xE,if_neg (λh=>hs (by rw[h.1];exact h.2.1))]
  ·rfl
 rcases h with⟨h1,h2,h3⟩|h|h
 ·have h1k:(St.jH b (n+1) k s).cases c=if b.hits c k∧(b.aV k).day=n+1 then CZ (b.aV k).amount (s.cases c)else s.cases c:=by
   unfold St.jH;by_cases hd:(b.aV k).day=n+1
   ·rw[if_pos ⟨hd,hk2⟩];by_cases hf:(b.aV k).kind=1
    ·rw[if_pos hf,if_neg (λh=>by have:=h.1.1;omega)];rfl
    ·rw[if_neg hf,xE];have hk0:(b.aV k).kind=0:=by omega
     by_cases hh:b.hits c k
     ·rw[if_pos ⟨hh.2.1.symm,by rw[hh.2.1];exact h1,by rw[hh.2.1];exact hh.2.2⟩,if_pos ⟨hh,hd⟩]
     ·rw[if_neg (λh=>hh ⟨hk0,h.1.symm,by rw[h.1];exact h.2.2⟩),if_neg (λh=>hh h.1)]
   ·rw[if_neg (λh=>hd h.1),if_neg (λh=>hd h.2)]
  rw[h1k];refine .inl ⟨?_,?_,h3⟩
  ·split<;>exact h1
  ·rw[e];split
   ·show wrap64 ((s.cases c).held+(b.aV k).amount)=_
    rw[h2];unfold wrap64;omega
   ·rw[h2];omega
 ·rw[settled (by have:=h.1;omega)];exact .inr (.inl h)
 ·rw[settled (by have:=h.1;omega)];exact .inr (.inr h)
theorem jf.ins{s:St}(h:jf b c n 0 (s.cases c))(hv:Valid b)(hst:b.still):∀k,k≤b.ps.length→jf b c n k ((iter (St.jH b (n+1)) k s).cases c)
 |0,_=>h
 |k+1,hk=>(jf.ins h hv hst k (by omega)).jH hv hst (by omega)
theorem jf.keep(h:jf b c n b.ps.length x)(h0:0≤n+1):Came b c (n+1) (qB b (n+1) c x):=by
 unfold qB;rcases h with⟨h1,h2,h3,h4⟩|⟨h1,h2,h3,h4⟩|h
 ·rw[← uM]at h2;by_cases hf:(b.fee c (n+1)).1≤x.held
  ·rw[if_pos ⟨h1,h3,hf⟩];exact .inr (.inl ⟨rfl,h0,Int.le_refl _,⟨h3,by rw[← h2];exact hf⟩,λd hd0 hd=>h4 d hd0 (by simp only at hd;omega)⟩)
  ·rw[if_neg (λh=>hf h.2.2)];refine .inl ⟨h1,h2,λd hd0 hd=>?_⟩;by_cases e:d=n+1
   ·subst e;rintro⟨_,k⟩;exact hf (by rw[h2];exact k)
   ·exact h4 d hd0 (by omega)
 ·rw[if_neg (by omega)];exact .inr (.inl ⟨h1,h2,by omega,h4⟩)
 ·rw[if_neg (by have:=h.1;omega)];exact .inr (.inr h)
end
theorem EH{b:Book}(hv:Valid b)(hst:b.still)(d:Int)(s:St):∀k,k≤b.ps.length→iter (St.mX b d) k s=s
 |0,_=>rfl
 |k+1,hk=>by
  have hk2:=hst _ (hv.pay (show k<b.ps.length by omega))
  show St.mX b d k (iter (St.mX b d) k s)=s
  rw[EH hv hst d s k (by omega)];unfold St.mX;rw[if_neg (λh=>hk2 h.2)]
theorem Ef{b:Book}(hv:Valid b)(hst:b.still){c:Nat}(hc:c<b.cs.length){n:Int}(h0:0≤n+1){s:St}(h:Came b c n (s.cases c)):Came b c (n+1) ((St.xq b s (n+1)).cases c):=by
 unfold St.xq St.mvs;rw[EH hv hst _ _ _ (ak _),vg,if_pos hc];refine jf.keep (jf.ins ?_ hv hst _ (ak _)) h0;rw[yF,if_pos hc];exact h.iY hv hc
theorem oU{b:Book}(hv:Valid b)(hst:b.still){c:Nat}(hc:c<b.cs.length):∀n:Nat,Came b c n ((b.after n).cases c)
 |0=>by
  have e:=b.kU (-1);rw[show(-1:Int)+1=0 from rfl,if_pos b.Oq,hv.zU]at e
  show Came b c 0 ((b.after 0).cases c)
  rw[e];exact Ef (n:=-1) hv hst hc (by decide) (show Came b c (-1) (St.init.cases c)from .inl ⟨rfl,(Iq (c:=c) hv _ (ak _)).symm,λd hd hd'=>by omega⟩)
 |n+1=>by
  have e:=b.kU n;have e2:((n+1:Nat):Int)=(n:Int)+1:=by omega
  rw[e2,e];split
  ·exact Ef hv hst hc (by omega) (oU hv hst hc n)
  ·rename_i h;exact(oU hv hst hc n).next hv hc (by omega) h
theorem TF{b b':Book}(hv:Valid b)(hst:b.still)(hv':Valid b')(hst':b'.still){c:Nat}(hc:c<b.cs.length)(hc':c<b'.cs.length)(hok:∀d,0≤d→d≤9999→b.ok c d→b'.ok c d)
  (hx:((b.after 9999).cases c).state=1):((b'.after 9999).cases c).state=1∧((b'.after 9999).cases c).day≤((b.after 9999).cases c).day:=by
 have h1:=oU hv hst hc 9999;have h2:=oU hv' hst' hc' 9999;have c9:((9999:Nat):Int)=9999:=rfl;rw[c9]at h1 h2;generalize (b.after 9999).cases c=x at *;generalize (b'.after 9999).cases c=y at *;rcases h1 with h1|⟨k1,k2,k3,k4,k5⟩|h1
 ·have:=h1.1;omega
 ·have hy:=hok _ k2 k3 k4;rcases h2 with h2|⟨m1,m2,m3,m4,m5⟩|h2
  ·exact absurd hy (h2.2.2 _ k2 k3)
  ·refine⟨m1,?_⟩;rcases Int.lt_or_le x.day y.day with h|h
   ·exact absurd hy (m5 _ k2 h)
   ·exact h
  ·exact absurd hy (h2.2.2 _ k2 k3)
 ·have:=h1.1;omega
end
section
set_option maxHeartbeats 1000000
set_option maxRecDepth 10000
open Go Go.RowKit
def Lasts(b b':Book)(c:Nat):Prop:=((b.after 9999).cases c).state=1→((b'.after 9999).cases c).state=1∧((b'.after 9999).cases c).day≤((b.after 9999).cases c).day
theorem ok_of{b b':Book}{c:Nat}{d:Int}(hf:(b.fee c d).2=true→(b'.fee c d).2=true∧(b'.fee c d).1≤(b.fee c d).1)(hcm:b.came c d b.ps.length≤b'.came c d b'.ps.length)(h:b.ok c d):b'.ok c d:=by
 obtain⟨h1,h2⟩:=h;obtain⟨k1,k2⟩:=hf h1;exact⟨k1,by omega⟩
theorem ite_iff{α:Type}{p q:Prop}[Decidable p][Decidable q]{x y z:α}(h:p↔q)(e:x=y):(if p then x else z)=if q then y else z:=by
 subst e;by_cases hp:p
 ·rw[if_pos hp,if_pos (h.1 hp)]
 ·rw[if_neg hp,if_neg (λk=>hp (h.2 k))]
theorem NH{b b':Book}{c:Nat}{d:Int}(hco:b'.bg c=b.bg c):∀k,(∀i,i<k→b'.aV i=b.aV i)→b'.came c d k=b.came c d k
 |0,_=>rfl
 |k+1,h=>by
  have hk:=h k (by omega);have hi:(b'.hits c k∧(b'.aV k).day≤d)↔(b.hits c k∧(b.aV k).day≤d):=by unfold Book.hits;rw[hk,hco]
  simp only[Book.came];rw[NH hco k (λi hi=>h i (by omega))]
  congr 1
  exact ite_iff hi (by rw[hk])
theorem LH{b:Book}{p:Pay}(hv:Valid b)(hst:b.still)(hv':Valid { b with ps:=b.ps++[p] })(hp:p.kind≠2){c:Nat}(hc:c<b.cs.length):Lasts b { b with ps:=b.ps++[p] } c:=λhx=>by
 have hst':Book.still { b with ps:=b.ps++[p] }:=λq hq=>by
  rcases List.mem_append.1 hq with h|h
  ·exact hst q h
  ·rw[List.mem_singleton.1 h];exact hp
 refine TF hv hst hv' hst' hc hc (λd _ _ h=>ok_of (b:=b) (λh=>⟨h,Int.le_refl _⟩) ?_ h) hx;have hsame:∀i,i<b.ps.length→Book.aV { b with ps:=b.ps++[p] } i=b.aV i:=λi hi=>by
  simp only[Book.aV,List.getD_eq_getElem?_getD];rw[List.getElem?_append_left hi]
 have e:=NH (b:=b) (b':={ b with ps:=b.ps++[p] }) (c:=c) (d:=d) rfl b.ps.length hsame;have hpp:=hv'.p p (by simp);have hlen:(Book.ps { b with ps:=b.ps++[p] }).length=b.ps.length+1:=by simp
 rw[hlen]
 show b.came c d b.ps.length≤Book.came { b with ps:=b.ps++[p] } c d b.ps.length+_
 rw[e];have:(Book.aV { b with ps:=b.ps++[p] } b.ps.length)=p:=by simp[Book.aV]
 rw[this];split<;>omega
structure Kinder (b b':Book):Prop where
 ps:b'.ps=b.ps
 ks:b'.cs.length=b.cs.length
 bg:∀c,c<b.cs.length→b'.bg c=b.bg c
 each:∀c,c<b.cs.length→(b'.dM c).each=(b.dM c).each
 base:∀c,c<b.cs.length→(b'.dM c).base≤(b.dM c).base
 free:∀c,c<b.cs.length→(b.dM c).free≤(b'.dM c).free
 classes:∀c,c<b.cs.length→(b'.aY c).classes≤(b.aY c).classes
 due:∀c,c<b.cs.length→(b.aY c).due≤(b'.aY c).due
 fZ:∀c,c<b.cs.length→(b.aY c).due+(b.aY c).fZ≤(b'.aY c).due+(b'.aY c).fZ
 extra:∀c,c<b.cs.length→(b'.aY c).extra≤(b.aY c).extra
end
section
set_option maxHeartbeats 1000000
set_option maxRecDepth 10000
open Go Go.RowKit Go.ChangeShapes Go.WideShapes Go.Deep Go.Joins
theorem Ol{α:Type}{W:World}{a:Addr}{size:Nat}{row:α→List Value}(n:Nat)(h0:∀x,∃v,(row x)[0]?=some v)(h:∀i,i<n→∃x:α,∀j v,(row x)[j]?=some v→W.cell? (a.add (i * size+j))=some v) :
  ∃xs:List α,xs.length=n∧bD W.heap.size (some a) size (xs.map row) W:=by
 have key:∀m,m≤n→∃xs:List α,xs.length=m∧∀i x,xs[i]?=some x→∀j v,(row x)[j]?=some v→W.cell? (a.add (i * size+j))=some v:=by
  intro m
  induction m with
  |zero=>exact λ_=>⟨[],rfl,λi x hx=>by simp at hx⟩
  |succ m ih=>
   intro hm;obtain⟨xs,e1,e3⟩:=ih (by omega);obtain⟨x,hx⟩:=h m (by omega);refine⟨xs++[x],by simp[e1],λi y hy j v hv=>?_⟩
   ·rcases Nat.lt_or_ge i xs.length with hl|hl
    ·rw[List.getElem?_append_left hl]at hy;exact e3 i y hy j v hv
    ·rw[List.getElem?_append_right hl]at hy;have hi:i-xs.length=0:=by
      rcases Nat.eq_zero_or_pos (i - xs.length)with k|k
      ·exact k
      ·rw[List.getElem?_eq_none (by simp only[aC,aF];omega)]at hy;cases hy
     rw[hi]at hy;obtain rfl:x=y:=by simpa using hy
     obtain rfl:i=m:=by omega
     exact hx j v hv
 obtain⟨xs,e1,e3⟩:=key n (ak _);refine⟨xs,e1,λi r hr=>?_⟩;rw[List.getElem?_map]at hr;obtain⟨x,hx,rfl⟩:=Option.map_eq_some_iff.1 hr;have hlen:0<xs.length:=by
  have:=(List.getElem?_eq_some_iff.1 hx).1;omega
 obtain⟨b,o,s⟩:=a;obtain⟨v0,hv0⟩:=h0 (xs[0]);have c0:=e3 0 xs[0] (List.getElem?_eq_getElem hlen) 0 v0 hv0;have hs:s=none:=by
  have:=World.cell?_spot c0;simpa[Addr.add]using this
 subst hs;refine⟨b,o,rfl,?_,λj v hv=>?_⟩
 ·have:=c0;simp only[Nat.zero_mul,Nat.add_zero,Addr.add_mid]at this;unfold World.cell? at this;rcases Nat.lt_or_ge b W.heap.size with hb|hb
  ·exact hb
  ·rw[Array.getElem?_eq_none hb]at this;cases this
 ·have:=e3 i x hx j v hv;rw[Addr.add_mid,← Nat.add_assoc]at this;exact this
section
variable {H:Type} {enc:TypeId×Value→H} {W:World} {spare:Nat→Bool}
theorem xQ{α:Type}{t e:TypeId}{fs:Array Field}{tys:List TypeId}{fuel size:Nat}{v:Value}{x:DataW H×List MemPlace}{row:α→List Value}(ht:Tryz.prog.underlying t=some (.slice e))(he:Tryz.prog.underlying e=some (.struct fs))
  (hone:oneCellFields Tryz.prog fs=true) (hty:fs.toList.map (·.type)=tys) (hsz:tys.length=size) (hC:Tryz.prog.cellsOf e=size) (h:DataW.trod enc Tryz.prog W 0 spare true fuel t [v]=some x) (h0:∀x,∃v,(row x)[0]?=some v)
  (hrow:∀(cs:List Value) (n:Nat),cs.length=size→(∀(j:Nat) (t:TypeId) (v:Value),tys[j]?=some t→cs[j]?=some v→∃y,DataW.trod enc Tryz.prog W 0 spare true n t [v]=some y)→∃x,row x=cs) :
  ∃(a:Option Addr) (cap:Nat) (xs:List α),v=.slice a xs.length cap∧bD W.heap.size a size (xs.map row) W:=by
 have hfs:fs.size=size:=by rw[← hsz,← hty,List.length_map,Array.length_toList]
 rcases open_slice ht h with⟨hcs,_⟩|⟨a,len,cap,m,n,D,Pl,hcs,_,hl,hm,hmm,_,hi⟩
 ·obtain rfl:v=.slice none 0 0:=by simpa using hcs
  exact⟨none,0,[],rfl,λi r hr=>by simp at hr⟩
 ·obtain rfl:v=.slice (some a) len cap:=by simpa using hcs
  have hlm:len≤m:=by rw[hmm];split<;>omega
  obtain⟨xs,e1,e3⟩:=Ol (W:=W) (a:=a) (size:=size) (row:=row) len h0 λi him=>by
   obtain⟨cs',hc,ht'⟩:=hi i (by omega);rw[hC]at hc;obtain⟨ys,n',_,_,hlen,hyl,hf⟩:=DataW.trod_struct he ht';obtain⟨_,hcl,hat⟩:=World.cells?_some hc;obtain⟨x,hx⟩:=hrow cs' n' hcl λj t v hj hv=>by
    rw[← hty,List.getElem?_map,Array.getElem?_toList]at hj;obtain⟨f,hf0,rfl⟩:=Option.map_eq_some_iff.1 hj;obtain⟨ho,hk⟩:=hone_of hone j f hf0;have hjl:j<fs.size:=(Array.getElem?_eq_some_iff.1 hf0).1;have h1:=hf j f hf0;rw[ho,hk]at h1;have hvl:=(List.getElem?_eq_some_iff.1 hv)
    have hone':(cs'.drop j).take 1=[v]:=by
     rw[List.drop_eq_getElem_cons hvl.1,hvl.2];rfl
    rw[hone']at h1;have hys:ys[j]?=some (ys[j]'(by omega)):=List.getElem?_eq_getElem (by omega);exact⟨_,h1.trans hys⟩
   refine⟨x,λj v hv=>?_⟩;rw[hx]at hv;have hjl:j<size:=by have:=(List.getElem?_eq_some_iff.1 hv).1;omega
   have:=hat j hjl;rw[Go.Deep.add_add]at this;rw[this,hv]
  subst e1;exact⟨some a,cap,xs,rfl,e3⟩
theorem QE{t e:TypeId}{fuel:Nat}{v:Value}{x:DataW H×List MemPlace}(ht:Tryz.prog.underlying t=some (.slice e))(he:Tryz.prog.underlying e=some .string)(hC:Tryz.prog.cellsOf e=1)(h:DataW.trod enc Tryz.prog W 0 spare true fuel t [v]=some x) :
  ∃(a:Option Addr) (cap:Nat) (xs:List ByteArray),v=.slice a xs.length cap∧xs.length≤cap∧bD W.heap.size a 1 (xs.map λs=>[.string s]) W:=by
 rcases open_slice ht h with⟨hcs,_⟩|⟨a,len,cap,m,n,D,Pl,hcs,_,hl,hm,hmm,_,hi⟩
 ·obtain rfl:v=.slice none 0 0:=by simpa using hcs
  exact⟨none,0,[],rfl,ak _,λi r hr=>by simp at hr⟩
 ·obtain rfl:v=.slice (some a) len cap:=by simpa using hcs
  have hlm:len≤m:=by rw[hmm];split<;>omega
  obtain⟨xs,e1,e3⟩:=Ol (W:=W) (a:=a) (size:=1) (row:=λs:ByteArray=>[.string s]) len (λx=>⟨_,rfl⟩) λi him=>by
   obtain⟨cs',hc,ht'⟩:=hi i (by omega);rw[hC]at hc;obtain⟨_,hcl,hat⟩:=World.cells?_some hc;obtain⟨s,hs,_,hsz⟩:=DataW.trod_string he ht';refine⟨s,λj v hv=>?_⟩;have hj:j=0:=by have:=(List.getElem?_eq_some_iff.1 hv).1;simpa using this
   subst hj;have:=hat 0 (by decide);rw[Go.Deep.add_add,hs]at this;rw[this];simpa using hv
  subst e1;exact⟨some a,cap,xs,rfl,hl,e3⟩
theorem trf_row{n:Nat}(cs:List Value)(hl:cs.length=5)(h:∀(j:Nat) (t:TypeId) (v:Value),[9,3,3,3,3][j]?=some t→cs[j]?=some v→∃y,DataW.trod enc Tryz.prog W 0 spare true n t [v]=some y):∃x:jA,x.row=cs:=by
 match cs,hl with
 | [c0,c1,c2,c3,c4],_=>
  obtain⟨y0,h0⟩:=h 0 9 c0 rfl rfl;obtain⟨y1,h1⟩:=h 1 3 c1 rfl rfl;obtain⟨y2,h2⟩:=h 2 3 c2 rfl rfl;obtain⟨y3,h3⟩:=h 3 3 c3 rfl rfl;obtain⟨y4,h4⟩:=h 4 3 c4 rfl rfl;obtain⟨s,e0,_,_⟩:=DataW.trod_string Tryz.underlying9 h0;obtain⟨n1,e1,_,_⟩:=DataW.trod_int Tryz.underlying3 h1;obtain⟨n2,e2,_,_⟩:=DataW.trod_int Tryz.underlying3 h2;obtain⟨n3,e3,_,_⟩:=DataW.trod_int Tryz.underlying3 h3;obtain⟨n4,e4,_,_⟩:=DataW.trod_int Tryz.underlying3 h4;simp only[List.cons.injEq,and_true]at e0 e1 e2 e3 e4;subst e0 e1 e2 e3 e4;exact⟨⟨s,n1,n2,n3,n4⟩,rfl⟩
theorem cas_row{n:Nat}(cs:List Value)(hl:cs.length=6)(h:∀(j:Nat) (t:TypeId) (v:Value),[9,3,3,3,3,3][j]?=some t→cs[j]?=some v→∃y,DataW.trod enc Tryz.prog W 0 spare true n t [v]=some y):∃x:jw,x.row=cs:=by
 match cs,hl with
 | [c0,c1,c2,c3,c4,c5],_=>
  obtain⟨y0,h0⟩:=h 0 9 c0 rfl rfl;obtain⟨y1,h1⟩:=h 1 3 c1 rfl rfl;obtain⟨y2,h2⟩:=h 2 3 c2 rfl rfl;obtain⟨y3,h3⟩:=h 3 3 c3 rfl rfl;obtain⟨y4,h4⟩:=h 4 3 c4 rfl rfl;obtain⟨y5,h5⟩:=h 5 3 c5 rfl rfl;obtain⟨s,e0,_,_⟩:=DataW.trod_string Tryz.underlying9 h0;obtain⟨n1,e1,_,_⟩:=DataW.trod_int Tryz.underlying3 h1;obtain⟨n2,e2,_,_⟩:=DataW.trod_int Tryz.underlying3 h2;obtain⟨n3,e3,_,_⟩:=DataW.trod_int Tryz.underlying3 h3;obtain⟨n4,e4,_,_⟩:=DataW.trod_int Tryz.underlying3 h4;obtain⟨n5,e5,_,_⟩:=DataW.trod_int Tryz.underlying3 h5;simp only[List.cons.injEq,and_true]at e0 e1 e2 e3 e4 e5;subst e0 e1 e2 e3 e4 e5;exact⟨⟨s,n1,n2,n3,n4,n5⟩,rfl⟩
theorem Oi{n:Nat}(cs:List Value)(hl:cs.length=5)(h:∀(j:Nat) (t:TypeId) (v:Value),[91,3,3,3,3][j]?=some t→cs[j]?=some v→∃y,DataW.trod enc Tryz.prog W 0 spare true n t [v]=some y):∃x:dI,x.row=cs:=by
 match cs,hl with
 | [c0,c1,c2,c3,c4],_=>
  obtain⟨y0,h0⟩:=h 0 91 c0 rfl rfl;obtain⟨y1,h1⟩:=h 1 3 c1 rfl rfl;obtain⟨y2,h2⟩:=h 2 3 c2 rfl rfl;obtain⟨y3,h3⟩:=h 3 3 c3 rfl rfl;obtain⟨y4,h4⟩:=h 4 3 c4 rfl rfl;obtain⟨n0,e0,_,_⟩:=DataW.trod_int Tryz.underlying91 h0;obtain⟨n1,e1,_,_⟩:=DataW.trod_int Tryz.underlying3 h1;obtain⟨n2,e2,_,_⟩:=DataW.trod_int Tryz.underlying3 h2;obtain⟨n3,e3,_,_⟩:=DataW.trod_int Tryz.underlying3 h3;obtain⟨n4,e4,_,_⟩:=DataW.trod_int Tryz.underlying3 h4;simp only[List.cons.injEq,and_true]at e0 e1 e2 e3 e4;subst e0 e1 e2 e3 e4;exact⟨⟨n0,n1,n2,n3,n4⟩,rfl⟩
theorem und69:Tryz.prog.underlying 186=some (.struct (Tryz.prog.fieldsOf 186)):=by kernel_rfl
theorem und60:Tryz.prog.underlying 46=some (.struct (Tryz.prog.fieldsOf 46)):=by kernel_rfl
theorem UF:Tryz.prog.underlying 93=some (.struct (Tryz.prog.fieldsOf 93)):=by kernel_rfl
theorem one69:oneCellFields Tryz.prog (Tryz.prog.fieldsOf 186)=true:=by kernel_rfl
theorem one60:oneCellFields Tryz.prog (Tryz.prog.fieldsOf 46)=true:=by kernel_rfl
theorem one56:oneCellFields Tryz.prog (Tryz.prog.fieldsOf 93)=true:=by kernel_rfl
theorem tys69:(Tryz.prog.fieldsOf 186).toList.map (·.type)=[9,3,3,3,3]:=by kernel_rfl
theorem tys60:(Tryz.prog.fieldsOf 46).toList.map (·.type)=[9,3,3,3,3,3]:=by kernel_rfl
theorem UA:(Tryz.prog.fieldsOf 93).toList.map (·.type)=[91,3,3,3,3]:=by kernel_rfl
theorem ce69:Tryz.prog.cellsOf 186=5:=by kernel_rfl
theorem ce60:Tryz.prog.cellsOf 46=6:=by kernel_rfl
theorem ce56:Tryz.prog.cellsOf 93=5:=by kernel_rfl
theorem ce9:Tryz.prog.cellsOf 9=1:=by kernel_rfl
set_option maxRecDepth 100000 in
theorem Qa{b0:Nat}{r:Reach}{v:Value}{d:DataW H}{p:List MemPlace}(hv:Value.okWide Tryz.prog W r b0 27 v)(h:DataW.Trod enc Tryz.prog W 0 spare true 27 v d p):∃(l:Lay) (b:aO),v=.agg (l.bn b)∧b.aK.length≤l.cc∧bQ W.heap.size l b W:=by
 obtain⟨v0,v1,v2,v3,y0,y1,y2,y3,n,rfl,-,-,h0,h1,h2,h3⟩:=open_agg4 Tryz.underlying27 (by kernel_rfl) (by kernel_rfl) hv h;obtain⟨a0,k0,x0,rfl,hcap,r0⟩:=QE Tryz.underlying22 Tryz.underlying9 ce9 h0;obtain⟨a1,k1,x1,rfl,r1⟩:=xQ (row:=jA.row) Tryz.underlying23 und69 one69 tys69 (size:=5) rfl ce69 h1 (λx=>⟨_,rfl⟩) λcs n=>trf_row cs;obtain⟨a2,k2,x2,rfl,r2⟩:=xQ (row:=jw.row) Tryz.underlying24 und60 one60 tys60 (size:=6) rfl ce60 h2 (λx=>⟨_,rfl⟩) λcs n=>cas_row cs;obtain⟨a3,k3,x3,rfl,r3⟩:=xQ (row:=dI.row) Tryz.underlying25 UF one56 UA (size:=5) rfl ce56 h3 (λx=>⟨_,rfl⟩) λcs n=>Oi cs;exact⟨⟨a0,a1,a2,a3,k0,k1,k2,k3⟩,⟨x0,x1,x2,x3⟩,rfl,hcap,ak _,r0,r1,r2,r3⟩
end
end
section
set_option maxHeartbeats 1000000
set_option maxRecDepth 10000
open Go Go.Conc Go.RowKit Lift
theorem Nr[Keep]{P:Program}{wa:World}(a:Addr):(Crew.waste P (λ_=>False) wa).cell? a=wa.cell? a:=by
 by_cases hg:∀o,wa.heap[a.block]?=some o→Lift.Good P o
 ·have e:=Crew.sU (P:=P) (S:=λ_=>False) (w:=wa) (b:=a.block) (λh=>h) hg;unfold World.cell?;rw[e]
 ·obtain⟨o,ho⟩:=Classical.not_forall.1 hg;obtain⟨h1,h2⟩:=Classical.not_imp.1 ho;have e:=Crew.sQ (P:=P) (S:=λ_=>False) (w:=wa) (b:=a.block) (λh=>h) h1 h2;rw[Lift.Ip h1 h2];unfold World.cell?;rw[e];rfl
section
variable {H:Type} {enc:TypeId×Value→H}
theorem y8{a:Assume}{C:Checked}{os:Os}{f:FuncId}{fn:Func}{s:ChangeSpec}{conds:List PathCond}{apart fresh handsOn again:Bool}{X:World→Array Value→Prop}
  (hX:∀(w w':World) (args:Array Value),w.heap=w'.heap→X w args→X w' args)
  (own:ownKnob C.prog.godebug=none) (started:os.Started) (hfn:C.prog.funcs[f]?=some fn)
  (witness:∃(w:World) (tape:Tape) (i:Input),w.os=os∧(w.forCall tape i).Shaped C.prog∧i.vars=[]∧Input.okWide C.prog (w.forCall tape i) .any w.heap.size f i∧
   ((s.pre enc C.prog fn conds apart (w.forCall tape i).memory i.args∧X (w.forCall tape i).memory i.args)∧sizedMet enc C.prog fn (OpenSpec.ofChange s) apart (w.forCall tape i).memory i.args)∧a.holds C.prog (lone (Frame.enter C.prog f i.args .normal) [] (w.forCall tape i)))
  (runs:∀(W:World) (base:Nat) (args:Array Value) (ds gs:List (DataW H)) (before:List MemPlace),
   (∀(j:Nat) t v,fn.params[j]?=some t→args[j]?=some v→Value.okWide C.prog W .any base t v)→
   DataW.Whole enc C.prog fn.params.toList s.vars apart W args.toList ds gs before→X W args→
   ∃M last o w' t',runNT C.prog (M+1) (solo (G (Frame.enter C.prog f args .normal) []) W) #[]=(.ended o w',t')∧runN C.prog M (solo (G (Frame.enter C.prog f args .normal) []) W)=.next last∧
    step C.prog last=.ended o w'∧Conc.Good C.prog (λv W'=>s.post enc C.prog fn apart fresh handsOn again W.blind args v W'.blind) last o w' t') :
  ReturnsInLeavingWide a C os f .any (λw args=>(s.pre enc C.prog fn conds apart w args∧X w args)∧sizedMet enc C.prog fn (OpenSpec.ofChange s) apart w args) (s.post enc C.prog fn apart fresh handsOn again):=by
 refine returnsInLeavingWide_of_good own started witness ?_;intro w tape i _ _ _ hok hpre hholds;obtain⟨_,_,_,fn',hfn',_,_,_,_,hval⟩:=hok;have e:fn'=fn:=Option.some.inj (hfn'.symm.trans hfn);subst e;obtain⟨⟨⟨ds,gs,before,hw,hc⟩,hx⟩,hz⟩:=hpre;have hw':=DataW.Whole.of_heap (w':=w.forCall tape i) (by rfl) hw;exact runs (w.forCall tape i) w.heap.size i.args ds gs before hval hw' (hX _ _ _ (by rfl) hx)
end
theorem TG{P:Program}{f:FuncId}{fn:Func}{args:Array Value}{wa:World}(hf:P.funcs[f]?=some fn){tr:Tmp}(hrs:fn.results=#[.tmp tr])(hi:P.inits.idxOf? f=none)
  (law:∀[Keep] (w:World),(∀a,w.cell? a=wa.cell? a)→w.heap.size=wa.heap.size→Keep.lim=wa.heap.size→
   Raw P (rU P f fn λv w1 S1=>v=.bool true∧fK w.heap.size w (λ_=>False) w1 S1) (G (Frame.enter P f args .normal) []) w (λ_=>False)) :
  ∃N last o w' t',runNT P (N+1) (solo (G (Frame.enter P f args .normal) []) wa) #[]=(.ended o w',t')∧runN P N (solo (G (Frame.enter P f args .normal) []) wa)=.next last∧step P last=.ended o w'∧
   Conc.Good P (λv w'=>v=.bool true∧Below wa.heap.size wa.blind w'.blind) last o w' t':=by
 refine KT (R:=λv=>v=.bool true) hf hrs hi λt=>?_
 letI:Keep:=⟨wa.heap.size,wa.heap,t⟩
 have h:=law (Crew.waste P (λ_=>False) wa) (λa=>Nr a) Crew.mG rfl;rw[Crew.mG]at h;exact h
end
