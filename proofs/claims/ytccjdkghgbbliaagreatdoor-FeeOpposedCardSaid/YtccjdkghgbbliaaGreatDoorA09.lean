/- The days on which something can happen: the iterator, inside the fence. -/
import Derived.Sort.OwnSortedInts
import Derived.Lib.RowBridge
import Derived.RangeFuncNested
import Derived.RangeFuncBound
import Derived.Test.YtccjdkghgbbliaaGreatDoorA08
set_option linter.all false
namespace Go.Proofs.YtccjdkghgbbliaaGreatDoor
section
set_option maxHeartbeats 1000000
set_option maxRecDepth 10000
open Go Go.RowKit Lift Go.Sort
attribute [local go_sem] Oper.semAt_some
def dH(T:Nat)(w:World):Option Nat:=(w.cell? ⟨T,14,none⟩).bind Value.ownBlock
structure KpT (T Sb:Nat) (W W':World):Prop where
 size:W.heap.size≤W'.heap.size
 kept:∀k cs ty m,W.heap[k]?=some (.cells cs ty m)→k≠T→k≠Sb→dH T W≠some k→W'.heap[k]?=some (.cells cs ty m)
 void:dH T W'=dH T W∨∃k,dH T W'=some k∧W.heap.size≤k
def Book.rawDays(b:Book)(k m:Nat):List Int:=0::((b.ps.take k).map (·.day)++(b.cs.take m).map λc=>c.due+c.fZ+1)
theorem Book.JO(b:Book){k:Nat}(hk:k<b.ps.length):b.rawDays (k+1) 0=b.rawDays k 0++[(b.aV k).day]:=by
 unfold Book.rawDays;rw[List.take_add_one];have:b.ps[k]?=some (b.aV k):=by simp[Book.aV,hk]
 simp[this]
theorem Book.GZ(b:Book){n k:Nat}(hk:k<b.cs.length):b.rawDays n (k+1)=b.rawDays n k++[(b.aY k).due+(b.aY k).fZ+1]:=by
 unfold Book.rawDays;rw[List.take_add_one];have:b.cs[k]?=some (b.aY k):=by simp[Book.aY,hk]
 simp[this]
theorem Book.JM(b:Book):b.rawDays b.ps.length b.cs.length=b.dD:=by
 unfold Book.rawDays Book.dD;simp
theorem Book.Di(b:Book)(hv:Valid b):b.bP.length≤17:=by
 rw[← qC];have h:(Lib.compact (b.dD.mergeSort λx y=>decide (x≤y))).length≤_:=Lib.compact_length_le _;have:=hv.np;have:=hv.nk;have e:(b.dD.mergeSort λx y=>decide (x≤y)).length=1+b.ps.length+b.cs.length:=by simp[Book.dD];omega
 omega
theorem JG(W:World)(x:Int):(W.alloc (.cells #[.int .i64 x] 3)).ownsRow W.heap.size 3 1 (.slice (some ⟨W.heap.size,0,none⟩) 1 1) (1+0) ([x].map (Value.int .i64)):=
 ⟨rfl,.inr ⟨W.heap.size,1,_,rfl,ak _,World.alloc_heap_new W _,ak _,by unfold maxLen;omega,rfl,rfl⟩⟩
theorem cell_two_new(w:World)(o:Obj)(x:Value)(j:Nat)(u:Value)(h:[x][j]?=some u):((w.alloc o).alloc (.cells #[x] 3)).cell? ((⟨w.heap.size+1,0,none⟩:Addr).add j)=some u:=by
 have:=cell_one_new (w.alloc o) x 3 j u h;rwa[World.size_alloc]at this
set_option maxHeartbeats 16000000 in
set_option maxRecDepth 1000000 in
theorem Iz{N:Nat}{l:Lay}{b:Book}(hv:Valid b){B1 B2 T Sb:Nat}{till:Int}{w:World}(hbk:dZ N l b w)
  (hB1:Blk w B1 123 #[.slice l.cb b.aK.length l.cc,.slice l.tb b.ts.length l.tc,.slice l.kb b.cs.length l.kc,.slice l.pb b.ps.length l.pc]) (hB2:Blk w B2 3 #[.int .i64 till])
  (hT:T<w.heap.size) (hS:Sb<w.heap.size) (Tn:dH T w=none) (h1T:B1≠T∧B1≠Sb) (h2T:B2≠T∧B2≠Sb) :
  SeqStopsK Fz 0 Tryz.prog 160 #[.pointer (some ⟨B1,0,none⟩),.pointer (some ⟨B2,0,none⟩)] (λx:Int=>#[.int .i64 x]) (KpT T Sb) (λxs=>xs=b.bP.filter λd=>decide (d≤till)) (λ_=>True) 100 w:=by
 intro lp J Jx W hW hJ hJx hY h0;obtain⟨i0,hi0,hz0,hz1,hz2⟩:=info_parts Tryz.AA;have hbkW:=hbk.below (hW.mono hbk.hN);have hq1:=hB1.below hW;have hq2:=hB2.below hW;have hTW:T<W.heap.size:=aB hT hW.size;have hSW:Sb<W.heap.size:=aB hS hW.size;have hvW:dH T W=none:=by unfold dH at *;rw[hW.cell (p:=⟨T,14,none⟩) hT];exact Tn
 have hnp:=hv.np;have hnk:=hv.nk;have q2:=hq1.cell 2;have q3:=hq1.cell 3;simp at q2 q3;have hlt1:=hq1.lt;have hlt2:=hq2.lt;gi_enter Tryz.func160,Tryz.ntmps160
 gi_wp2;gi_loopw [4,16] (λv i wr=>∃k:Nat,k≤b.ps.length∧i=.int .i64 k∧wr.ownsRow W.heap.size 3 1 v (1+k) ((b.rawDays k 0).map (Value.int .i64))∧Below W.heap.size W wr) (λ_ i _=>b.ps.length-(intOf i).toNat)
 case atStart=>
  refine⟨0,Nat.zero_le _,rfl,?_,(Below.refl _ _).alloc (ak _) _⟩;exact JG W 0
 case round=>
  obtain⟨k,hk,rfl,hrow,HB⟩:=hrel;have SS:=hbkW.below (HB.mono hbkW.hN);have hsz:=HB.size;by_cases hlt:k<b.ps.length
  ·obtain⟨pb,po,hP⟩:=SS.pay hlt;have p0:=hP.rp 0 _ rfl;have p1:=hP.rp 1 _ rfl;have p2:=hP.rp 2 _ rfl;have p3:=hP.rp 3 _ rfl;have p4:=hP.rp 4 _ rfl;simp only[Nat.add_zero]at p0;have hpw:pb<wr.heap.size:=aB hP.hp SS.hN;rw[hP.ep];have hraw:=b.JO hlt;generalize b.aV k=p at *;obtain⟨kd,dy,kc,am,cc⟩:=p;simp only at *;have cn:=cell_two_new wr
   gi_wp2_with (gi_at_builtin;refine wpListIn_append_own _ rfl _ _ 28 rfl W.heap.size 3 i0 (.int .i64 0) 1 8 Tryz.underlying28 hi0 hz0 hz1 hz2 rfl (by decide) _ _ _ rfl ((hrow.alloc _).alloc _) ⟨wr.heap.size+1,0,none⟩ 1 1 [.int .i64 dy] rfl rfl (cn _ _) (by simp[Value.oneCell']) (by unfold maxLen;omega) (by omega) (by simp;omega) ?_;intro v' w3 hown' hg3 _;go_frame)
   go_roundw
   case rel=>
    refine⟨k+1,by omega,by go_num,?_,?_⟩
    ·rw[show 1+k+1=1+(k+1) by omega]at hown';rw[hraw];simpa using hown'
    ·exact(((HB.alloc hsz _).alloc (by simp;omega) _)).grown hg3 (by simp;omega) (λj hj=>(hrow.lt j hj).1)
   case measure=>simp[intOf];omega
  ·obtain rfl:k=b.ps.length:=by omega
   have c2:=(hq1.below HB).cell 2;have c3:=(hq1.below HB).cell 3;simp at c2 c3;have Td:=(hq1.below HB).lt;gi_wp2;gi_loopw [4,30] (λv i wr=>∃k:Nat,k≤b.cs.length∧i=.int .i64 k∧wr.ownsRow W.heap.size 3 1 v (1+b.ps.length+k) ((b.rawDays b.ps.length k).map (Value.int .i64))∧Below W.heap.size W wr) (λ_ i _=>b.cs.length-(intOf i).toNat)
   case atStart=>exact⟨0,Nat.zero_le _,rfl,hrow,HB⟩
   case round=>
    obtain⟨k,hk,rfl,hrow,HB⟩:=hrel;have SS:=hbkW.below (HB.mono hbkW.hN);have hsz:=HB.size;by_cases hlt:k<b.cs.length
    ·obtain⟨kb,ko,tb,to,H⟩:=SS.case hv hlt;have p0:=H.rk 0 _ rfl;have p1:=H.rk 1 _ rfl;have p2:=H.rk 2 _ rfl;have p3:=H.rk 3 _ rfl;have p4:=H.rk 4 _ rfl;have p5:=H.rk 5 _ rfl;simp only[Nat.add_zero]at p0;have vk:=hv.k _ (hv.cas hlt);have hpw:kb<wr.heap.size:=aB H.hk SS.hN;rw[H.ek];have hraw:=b.GZ (n:=b.ps.length) hlt;generalize b.aY k=p at *;obtain⟨nm,tr,cl,du,gr,ex⟩:=p;simp only at *;have hw1:wrap64 (du+gr)=du+gr:=by unfold wrap64;omega
     have hw2:wrap64 (du+gr+1)=du+gr+1:=by unfold wrap64;omega
     have cn:=cell_two_new wr
     gi_wp2_with (gi_at_builtin;refine wpListIn_append_own _ rfl _ _ 28 rfl W.heap.size 3 i0 (.int .i64 0) 1 8 Tryz.underlying28 hi0 hz0 hz1 hz2 rfl (by decide) _ _ _ rfl ((hrow.alloc _).alloc _) ⟨wr.heap.size+1,0,none⟩ 1 1 [.int .i64 (du+gr+1)] rfl rfl (cn _ _) (by simp[Value.oneCell']) (by unfold maxLen;omega) (by omega) (by simp;omega) ?_;intro v' w3 hown' hg3 _;go_frame)
     go_roundw
     case rel=>
      refine⟨k+1,by omega,by go_num,?_,?_⟩
      ·rw[show 1+b.ps.length+k+1=1+b.ps.length+(k+1) by omega]at hown';rw[hraw];simpa using hown'
      ·exact(((HB.alloc hsz _).alloc (by simp;omega) _)).grown hg3 (by simp;omega) (λj hj=>(hrow.lt j hj).1)
     case measure=>simp[intOf];omega
    ·obtain rfl:k=b.cs.length:=by omega
     rw[b.JM]at hrow;rcases hrow.2 with⟨_,hn0⟩|⟨g,cap,cur,rfl,hbase,hb,m1,m2,m3,m4⟩
     ·omega
     have hlen:b.dD.length=1+b.ps.length+b.cs.length:=by simp[Book.dD];omega
     have m4':cur.toList.take b.dD.length=b.dD.map (Value.int .i64):=by rw[hlen];simpa using m4
     have hgl:g<wr.heap.size:=(Array.getElem?_eq_some_iff.1 hb).1;have hc:=sort_in g 0 cap b.dD wr (holds_of_blockI hb m4') hgl (by omega);rw[hlen]at hc;have hsl:(b.dD.mergeSort λx y=>decide (x≤y)).length=b.dD.length:=by simp
     have hcomp:∀n os,CallsIn Fz 0 Tryz.prog 62 #[.slice (some ⟨g,0,none⟩) (1+b.ps.length+b.cs.length) cap] (grow (putRow (Value.int .i64) (Sort.ahead wr n) g 0 (b.dD.mergeSort λx y=>decide (x≤y)).toArray) os) λe w'=>
       e=.returned (.slice (some ⟨g,0,none⟩) b.bP.length cap)∧(∃cs,w'.heap[g]?=some (.cells cs 3 (0,0))∧∀j (hj:j<b.bP.length),cs[j]?=some (.int .i64 b.bP[j]))∧Below W.heap.size W w':=λn os=>by
      have hb2:=heap_sortedI (n:=n) (os:=os) (b.dD.mergeSort λx y=>decide (x≤y)).toArray hb;have hg2:=grownBy_sortedI (w:=wr) (g:=g) (n:=n) (os:=os) (b.dD.mergeSort λx y=>decide (x≤y)).toArray;have HB2:=HB.grown hg2 hsz (λj hj=>by cases hj;exact hbase);have ht2:=take_putCellsI cur (b.dD.mergeSort λx y=>decide (x≤y)) (by rw[hsl,hlen];omega);generalize hS:(b.dD.mergeSort λx y=>decide (x≤y))=S at *;generalize grow (putRow (Value.int .i64) (Sort.ahead wr n) g 0 S.toArray) os=w2 at *;have hc2:=KO g 0 cap S w2 (holds_of_blockI hb2 (by simpa using ht2)) (by omega) (by omega);rw[hsl,hlen]at hc2;refine hc2.mono ?_;rintro e w3 ⟨rfl,q,rfl⟩;rw[← hlen,← hsl];have hev:Lib.compact S=b.bP:=by rw[← hS];exact qC b
      have hle:(Lib.compact S).length≤S.length:=Lib.compact_length_le S;have ew:∀d,putRow (Value.int .i64) (Sort.ahead w2 q) g 0 d=grow (putRow (Value.int .i64) (Sort.ahead w2 q) g 0 d) #[]:=λd=>by unfold grow;rw[Array.append_empty]
      rw[ew];have hb3:=heap_sortedI (n:=q) (os:=#[]) (Lib.compact S++List.replicate (S.length-(Lib.compact S).length) 0).toArray hb2;have hg3:=grownBy_sortedI (w:=w2) (g:=g) (n:=q) (os:=#[]) (Lib.compact S++List.replicate (S.length-(Lib.compact S).length) 0).toArray;refine⟨by rw[hev],⟨_,hb3,λj hj=>?_⟩,HB2.grown hg3 HB2.size (λj hj=>by cases hj;exact hbase)⟩;rw[hev]at hle ⊢;have hcs:(putCells (Value.int .i64) 0 S.toArray cur).size=cur.size:=by simp[putCells]
      have ht3:=take_putCellsI (putCells (Value.int .i64) 0 S.toArray cur) (b.bP++List.replicate (S.length-b.bP.length) 0) (by rw[hcs];simp;omega);have:((putCells (Value.int .i64) 0 (b.bP++List.replicate (S.length-b.bP.length) 0).toArray (putCells (Value.int .i64) 0 S.toArray cur)).toList.take (b.bP++List.replicate (S.length-b.bP.length) 0).length)[j]?=((b.bP++List.replicate (S.length-b.bP.length) 0).map (Value.int .i64))[j]?:=by rw[ht3]
      rw[List.getElem?_take_of_lt (by simp;omega),List.getElem?_map,List.getElem?_append_left hj,List.getElem?_eq_getElem hj]at this;simpa using this
     gi_wp2_with (first
      |(gi_at_call 61;refine hc.mono ?_;rintro e w2 ⟨rfl,nn,os,rfl⟩)
      |(gi_at_call 62;refine(hcomp _ _).mono ?_;rintro e w3 ⟨rfl,⟨cs3,hb3,hcs3⟩,HB3⟩))
     have hevl:=b.Di hv;have hsz3:=HB3.size;have hbg3:g<w3.heap.size:=(Array.getElem?_eq_some_iff.1 hb3).1;have hq3:=hq2.below HB3;have hbB2:=hq3.lt;have hv3:dH T w3=none:=by unfold dH at *;rw[HB3.cell (p:=⟨T,14,none⟩) hTW];exact hvW
     have hgT:g≠T:=by omega
     have hgS:g≠Sb:=by omega
     gi_loopw [49] (λi wr=>∃k:Nat,k≤b.bP.length∧i=.int .i64 k∧J (b.bP.take k) wr∧(∀j (hj:j<k),∀hj':j<b.bP.length,b.bP[j]≤till)∧wr.heap[g]?=some (.cells cs3 3 (0,0))∧wr.heap[B2]?=some (.cells #[.int .i64 till] 3 (0,0))∧w3.heap.size≤wr.heap.size∧(dH T wr=none∨∃k,dH T wr=some k∧w3.heap.size≤k)) (λi _=>b.bP.length-(intOf i).toNat)
     case atStart=>
      refine⟨0,Nat.zero_le _,rfl,?_,λj hj=>by omega,hb3,hq3,ak _,.inl hv3⟩;rw[List.take_zero];exact hJ [] W w3 none h0 ⟨HB3.os,HB3.tape,HB3.output,HB3.size,λk hk _=>HB3.block k hk⟩ (λr e=>by cases e)
     case round=>
      obtain⟨k,hk,rfl,hJk,hle,hgb,hB2b,hszr,hvr⟩:=hrel;by_cases hlt:k<b.bP.length
      ·have hgc:wr.cell? ⟨g,k,none⟩=some (.int .i64 b.bP[k]):=by simp[World.cell?,hgb,hcs3 k hlt]
       have hBc:wr.cell? ⟨B2,0,none⟩=some (.int .i64 till):=by simp[World.cell?,hB2b]
       by_cases hgt:till<b.bP[k]
       ·have hfil:=yw b.jJ till k hk (λj hj=>hle j hj (by omega)) (λ_=>hgt);generalize b.bP[k]=x at *;gi_wp2;refine⟨λ_ h=>(by cases h),?_⟩;gi_wp2
        (try simp only[Exit.inBlock,Exit.then]);refine bodyPost_ret (results_none rfl _ _ _) rfl ?_
        exact⟨⟨_,rfl⟩,.inl ⟨_,hfil.symm,hJk⟩⟩
       ·obtain⟨fn,tmps,assign,body,hy,hR⟩:=hY (b.bP.take k) b.bP[k] wr hJk (by rw[List.length_take];omega);have htk:b.bP.take k++[b.bP[k]]=b.bP.take (k+1):=by rw[List.take_add_one,List.getElem?_eq_getElem hlt];rfl
        have hle2:∀j (hj:j<k+1),∀hj':j<b.bP.length,b.bP[j]≤till:=λj hj hj'=>by
         by_cases e:j=k
         ·subst e;omega
         ·exact hle j (by omega) hj'
        generalize b.bP[k]=x at *;gi_wp2;refine hR.mono ?_;rintro e W4 (⟨rfl,hJ4,hk4⟩|⟨rfl,hJx4⟩)
        ·have hvg:∀q,q<w3.heap.size→dH T wr≠some q:=λq hq e=>by
          rcases hvr with h|⟨k',h,hk'⟩
          ·rw[h]at e;cases e
          ·rw[h]at e;have:=Option.some.inj e;omega
         have hgb4:=hk4.kept g _ _ _ hgb hgT hgS (hvg g hbg3);have hBb4:=hk4.kept B2 _ _ _ hB2b h2T.1 h2T.2 (hvg B2 hbB2);have hsz4:=hk4.size;have hv4:dH T W4=none∨∃k,dH T W4=some k∧w3.heap.size≤k:=by
          rcases hk4.void with h|⟨k',h,hk'⟩
          ·rw[h];exact hvr
          ·exact .inr ⟨k',h,by omega⟩
         gi_wp2;go_roundw
         case rel=>exact⟨k+1,by omega,by go_num,by rw[← htk];exact hJ4,hle2,hgb4,hBb4,by omega,hv4⟩
         case measure=>simp[intOf];omega
        ·gi_wp2
         (try simp only[Exit.inBlock,Exit.then]);refine bodyPost_ret (results_none rfl _ _ _) rfl ?_
         exact⟨⟨_,rfl⟩,.inr ⟨_,trivial,hJx4⟩⟩
      ·obtain rfl:k=b.bP.length:=by omega
       gi_wp2;go_end0;refine⟨⟨_,rfl⟩,.inl ⟨_,?_,hJk⟩⟩;exact(yw b.jJ till _ hk (λj hj=>hle j hj (by omega)) (λh=>by omega)).symm
end
section
set_option maxHeartbeats 1000000
set_option maxRecDepth 10000
open Go Go.RowKit Lift Go.Sort
def fC(w w':World):Prop:=∀(k:Nat) (cs:Array Value) (ty:TypeId) (m:Nat×Nat),w.heap[k]?=some (.cells cs ty m)→w'.heap[k]?=some (.cells cs ty m)
theorem cellC{w:World}{a:Addr}{v:Value}(hc:w.cell? a=some v):∃c e f,w.heap[a.block]?=some (.cells c e f):=by
 unfold World.cell? at hc;cases h:w.heap[a.block]? with
 |none=>rw[h]at hc;cases hc
 |some o=>
  rw[h]at hc;cases o<;>first|exact⟨_,_,_,rfl⟩|(simp at hc;done)
theorem fC.cell{w w':World}(h:fC w w'){a:Addr}{v:Value}(hc:w.cell? a=some v):w'.cell? a=some v:=by
 obtain⟨c,e,f,hb⟩:=cellC hc;have:=h _ _ _ _ hb;unfold World.cell? at hc ⊢;rw[hb]at hc;rw[this];exact hc
theorem bD.stand{N:Nat}{base:Option Addr}{size:Nat}{rows:List (List Value)}{w w':World}(h:bD N base size rows w)(hb:fC w w'):bD N base size rows w':=λi r hr=>by
 obtain⟨b,o,h1,h2,h3⟩:=h i r hr;exact⟨b,o,h1,h2,λj v hv=>hb.cell (h3 j v hv)⟩
theorem dZ.stand{N:Nat}{l:Lay}{b:Book}{w w':World}(h:dZ N l b w)(hs:w.heap.size≤w'.heap.size)(hb:fC w w'):dZ N l b w':=⟨Nat.le_trans h.hN hs,h.cs.stand hb,h.ts.stand hb,h.ks.stand hb,h.ps.stand hb⟩
section
variable {N:Nat} {l:Lay} {b:Book} {t:Tl} {s:St} {w w':World}
def Tl.bare(T Sb:Nat):Tl:=⟨T,Sb,[],none,0⟩
theorem aJ.unpin(h:aJ N l b t s w):aJ N l b (Tl.bare t.T t.Sb) s w:=by
 obtain⟨vv,h1,h2,h3,h4,h5⟩:=h.till;refine⟨h.bk,h.NT,h.NS,h.ne,⟨vv,h1,h2,h3,h4,?_⟩,⟨Nat.zero_le _,λp hp=>by cases hp⟩,h.stand⟩;cases e:vv.ownBlock with
 |none=>exact .inl e
 |some k=>exact .inr ⟨k,e,Nat.zero_le _⟩
theorem aJ.stands{T Sb:Nat}(h:aJ N l b (Tl.bare T Sb) s w)(hs:w.heap.size≤w'.heap.size)(hb:fC w w'):aJ N l b (Tl.bare T Sb) s w':=by
 obtain⟨vv,h1,h2,h3⟩:=h.till;obtain⟨cs,k1,k2⟩:=h.stand;refine⟨h.bk.stand hs hb,h.NT,h.NS,h.ne,⟨vv,hb _ _ _ _ h1,?_,h3⟩,⟨Nat.zero_le _,λp hp=>by cases hp⟩,⟨cs,hb _ _ _ _ k1,k2⟩⟩;obtain⟨a1,a2⟩:=h2;refine⟨a1,?_⟩;rcases a2 with a2|⟨g,cap,cur,c1,c2,c3,c4⟩
 ·exact .inl a2
 ·exact .inr ⟨g,cap,cur,c1,c2,hb _ _ _ _ c3,c4⟩
open Classical in
noncomputable def MP (T Sb:Nat) (w:World):List (Nat×Obj):=(List.range w.heap.size).filterMap λk=>if k=T∨k=Sb∨dH T w=some k then none else(w.heap[k]?).map λo=>(k,o)
theorem AX{T Sb:Nat}{w:World}{p:Nat×Obj}:p∈MP T Sb w↔w.heap[p.1]?=some p.2∧p.1≠T∧p.1≠Sb∧dH T w≠some p.1:=by
 unfold MP;rw[List.mem_filterMap];constructor
 ·rintro⟨k,hk,h⟩;split at h
  ·cases h
  ·rename_i hn;obtain⟨o,ho,rfl⟩:=Option.map_eq_some_iff.1 h;exact⟨ho,λe=>hn (.inl e),λe=>hn (.inr (.inl e)),λe=>hn (.inr (.inr e))⟩
 ·rintro⟨h1,h2,h3,h4⟩;refine⟨p.1,List.mem_range.2 (Array.getElem?_eq_some_iff.1 h1).1,?_⟩;rw[if_neg (by rintro(e|e|e);exact h2 e;exact h3 e;exact h4 e),h1];rfl
theorem aJ.Np(h:aJ N l b t s w):∃vv,dH t.T w=vv.ownBlock∧t.from vv∧w.ownsRow N 3 1 vv s.bV.length (s.bV.map λx=>.int .i64 x):=by
 obtain⟨vv,h1,h2,h3,h4,h5⟩:=h.c14;exact⟨vv,by unfold dH;rw[h1];rfl,h5,h2⟩
noncomputable def Tl.all (T Sb:Nat) (w:World):Tl:=⟨T,Sb,MP T Sb w,dH T w,w.heap.size⟩
theorem aJ.pinAll(h:aJ N l b t s w):aJ N l b (Tl.all t.T t.Sb w) s w:=by
 obtain⟨vv,h1,h2,h3,h4,h5⟩:=h.till;have hv:dH t.T w=vv.ownBlock:=by unfold dH;simp only[World.cell?,h1];rfl
 exact⟨h.bk,h.NT,h.NS,h.ne,⟨vv,h1,h2,h3,h4,.inl hv.symm⟩,⟨ak _,λp hp=>by
  obtain⟨a1,a2,a3,a4⟩:=AX.1 hp;exact⟨a1,a2,a3,a4,(Array.getElem?_eq_some_iff.1 a1).1⟩⟩,h.stand⟩
structure rV (T Sb:Nat) (W W':World):Prop where
 size:W.heap.size≤W'.heap.size
 same:∀(k:Nat) (o:Obj),W.heap[k]?=some o→k≠T→k≠Sb→dH T W≠some k→W'.heap[k]?=some o
 void:dH T W'=dH T W∨∃k,dH T W'=some k∧W.heap.size≤k
theorem aJ.Gj{T Sb:Nat}(h:aJ N l b (Tl.all T Sb w) s w'):rV T Sb w w':=by
 refine⟨h.pin.lim,λk o hk h1 h2 h3=>(h.pin.at_ (k,o) (AX.2 ⟨hk,h1,h2,h3⟩)).1,?_⟩;obtain⟨vv,e,hf,_⟩:=h.Np;have e':dH T w'=vv.ownBlock:=e;rw[e'];exact hf
theorem rV.kp{T Sb:Nat}(h:rV T Sb w w'):KpT T Sb w w':=⟨h.size,λk cs ty m hk h1 h2 h3=>h.same k _ hk h1 h2 h3,h.void⟩
theorem rV.others(h0:aJ N l b t s w)(h:rV t.T t.Sb w w'):KeepsOthers w w':=⟨h.size,λk o hk ho=>by
 have isc:∀{q:Nat} {cs:Array Value} {ty:TypeId} {m:Nat×Nat},w.heap[q]?=some (.cells cs ty m)→k≠q:=λhq e=>by
  subst e;rw[hk]at hq;cases hq;cases ho
 obtain⟨vv,h1,h2,h3⟩:=h0.till;obtain⟨cs,k1,k2⟩:=h0.stand;refine h.same k o hk (isc h1) (isc k1) λe=>?_;obtain⟨vv',e',_,hrow⟩:=h0.Np;rw[e]at e';rcases hrow.2 with⟨rfl,_⟩|⟨g,cap,cur,rfl,_,c3,_⟩
 ·cases e'
 ·have:k=g:=Option.some.inj e';exact isc c3 this⟩
end
theorem KpT.trans{T Sb:Nat}{A B C:World}(h:KpT T Sb A B)(k:KpT T Sb B C):KpT T Sb A C:=by
 refine⟨Nat.le_trans h.size k.size,λi cs ty m hi h1 h2 h3=>?_,?_⟩
 ·refine k.kept i cs ty m (h.kept i cs ty m hi h1 h2 h3) h1 h2 λe=>?_;have hlt:=(Array.getElem?_eq_some_iff.1 hi).1;rcases h.void with e'|⟨q,e',hq⟩
  ·rw[e']at e;exact h3 e
  ·rw[e']at e;have:=Option.some.inj e;omega
 ·rcases k.void with e|⟨q,e,hq⟩
  ·rw[e];exact h.void
  ·exact .inr ⟨q,e,Nat.le_trans h.size hq⟩
theorem KpT.put{T Sb:Nat}{W:World}{j:Nat}{o:Obj}(o':Obj)(hj:W.heap[j]?=some o)(ho:o.isCells=false)(hT:T≠j):KpT T Sb W (W.putObj j o'):=by
 refine⟨by simp[World.putObj],λk cs ty m hk _ _ _=>?_,.inl ?_⟩
 ·rw[World.putObj_heap_other (λe=>by subst e;rw[hj]at hk;cases hk;cases ho)];exact hk
 ·unfold dH World.cell?;simp only[World.putObj_heap_other hT]
theorem pz{f:Nat→St→St}(hf:∀i s,(f i s).bV=s.bV)(s:St):∀k,(iter f k s).bV=s.bV
 |0=>rfl
 |k+1=>by show(f k (iter f k s)).bV=_;rw[hf,pz hf s k]
theorem nJ{f:Nat→St→St}(hf:∀i s,(f i s).bV.length≤s.bV.length+1)(s:St):∀k,(iter f k s).bV.length≤s.bV.length+k
 |0=>ak _
 |k+1=>by have h1:=hf k (iter f k s);have:=nJ hf s k;show(f k (iter f k s)).bV.length≤_;omega
theorem yG(b:Book)(d:Int)(s:St):(s.iY b d).bV=s.bV:=pz (λc s=>by unfold St.jW;split<;>rfl) s _
theorem vw(b:Book)(d:Int)(s:St):(s.keep b d).bV=s.bV:=pz (λc s=>by unfold St.oq;split<;>rfl) s _
theorem Lu(b:Book)(d:Int)(i:Nat)(s:St):(St.jH b d i s).bV=s.bV:=by
 unfold St.jH St.inn;split
 ·split
  ·rfl
  ·split<;>rfl
 ·rfl
theorem Ew(b:Book)(d:Int)(s:St):∀k,(iter (St.jH b d) k s).bV=s.bV:=pz (Lu b d) s
theorem TP(b:Book)(i:Nat)(s:St):(s.mv b i).bV.length≤s.bV.length+1:=by
 unfold St.mv;split
 ·rw[vw];exact Nat.le_succ _
 ·simp
theorem AY(b:Book)(d:Int)(i:Nat)(s:St):(St.mX b d i s).bV.length≤s.bV.length+1:=by
 unfold St.mX;split
 ·exact TP b i s
 ·exact Nat.le_succ _
theorem KP(b:Book)(s:St)(d:Int):(St.xq b s d).bV.length≤s.bV.length+b.ps.length:=by
 unfold St.xq St.mvs;have:=nJ (AY b d) (((s.iY b d).ins b d).keep b d) b.ps.length;rw[vw]at this;unfold St.ins at this;rw[Ew,yG]at this;unfold St.ins;exact this
def Book.days(b:Book)(pre:List Int):St:=pre.foldl (St.xq b) St.init
theorem OL(b:Book)(pre:List Int)(d:Int):b.days (pre++[d])=St.xq b (b.days pre) d:=by unfold Book.days;rw[List.foldl_append];rfl
theorem yt(b:Book):∀(pre:List Int) (s:St),(pre.foldl (St.xq b) s).bV.length≤s.bV.length+pre.length * b.ps.length
 | [],s=>by simp
 |d::pre,s=>by
  have h1:=yt b pre (St.xq b s d);have h2:=KP b s d;simp only[List.foldl_cons,aC,Nat.add_mul,Nat.one_mul];omega
theorem KQ(b:Book)(pre:List Int):(b.days pre).bV.length≤pre.length * b.ps.length:=by
 have:=yt b pre St.init;rw[show St.init.bV.length=0 from rfl,Nat.zero_add]at this;exact this
end
