/- slices.DeleteFunc over a list of one's own, with the closure of goods.Cut: inside the fence. -/
import Derived.Test.YtccjdkghgbbliaaGreatDoorA47
set_option linter.all false
namespace Go.Proofs.YtccjdkghgbbliaaGreatDoor
section
set_option maxHeartbeats 1000000
set_option maxRecDepth 10000
set_option maxHeartbeats 64000000
set_option maxRecDepth 100000
open Go Go.RowKit Lift Go.Sort
theorem gbOf{w w':World}{row:Option Nat}(h:Below w.heap.size w w'):w.grownBy w' row:=⟨h.os,h.tape,h.output,h.size,λk hk _=>h.block k hk⟩
theorem Ef(w:World)(g j:Nat)(v:Value):w.grownBy (w.setCell ⟨g,j,none⟩ v) (some g):=
 ⟨rfl,rfl,rfl,by simp,λi hi ne=>Below.heap_setCell w ⟨g,j,none⟩ v i (λe=>ne (by rw[e]))⟩
theorem Aw(g:Nat):∀(vs:List Value) (o:Nat) (w:World),w.grownBy (w.setCells g o vs) (some g)
 | [],_,w=>⟨rfl,rfl,rfl,ak _,λ_ _ _=>rfl⟩
 |v::r,o,w=>(Ef w g o v).trans (Aw g r (o+1) _)
def sW(N0:Nat)(w:World)(v:Value)(zs:List Int):Prop:=∃base cap,v=.slice base zs.length cap∧zs.length≤cap∧(base=none∨∃g,base=some ⟨g,0,none⟩∧N0≤g∧g<w.heap.size)∧∀k,k<zs.length→∃g,base=some ⟨g,0,none⟩∧w.cell? ⟨g,k,none⟩=some (.int .i64 (zs.getD k 0))∧w.frozen? ⟨g,k,none⟩=false
theorem sW.seq{N0:Nat}{w:World}{v:Value}{zs:List Int}(h:sW N0 w v zs):cZ w v zs:=by
 obtain⟨base,cap,rfl,h1,h2,h3⟩:=h;refine⟨base,0,cap,rfl,λi hi=>?_⟩;obtain⟨g,rfl,h4,h5⟩:=h3 i hi;rcases h2 with h2|⟨g',h2,h6,h7⟩
 ·cases h2
 ·cases h2;exact⟨g,rfl,h7,by rw[Nat.zero_add];exact h4⟩
theorem sW.below{N0:Nat}{w w':World}{v:Value}{zs:List Int}(h:sW N0 w v zs)(hb:Below w.heap.size w w'):sW N0 w' v zs:=by
 obtain⟨base,cap,rfl,h1,h2,h3⟩:=h;refine⟨base,cap,rfl,h1,?_,λk hk=>?_⟩
 ·rcases h2 with h2|⟨g',h2,h6,h7⟩
  ·exact .inl h2
  ·exact .inr ⟨g',h2,h6,aA h7 hb.size⟩
 ·obtain⟨g,rfl,h4,h5⟩:=h3 k hk;rcases h2 with h2|⟨g',h2,h6,h7⟩
  ·cases h2
  ·cases h2;exact⟨g,rfl,(hb.cell (p:=⟨g,k,none⟩) h7).trans h4,(World.frozen?_of_block (a:=⟨g,k,none⟩) (hb.block g h7)).trans h5⟩
def Says(X:Nat)(P:Int→Bool)(w:World):Prop:=∀x:Int,CallsIn Fz 0 Tryz.prog 57 #[.int .i64 x,.pointer (some ⟨X,0,none⟩)] w λe w2=>e=.returned (.bool (P x))∧Below w.heap.size w w2
theorem Pj{N0 X:Nat}{P:Int→Bool}{w:World}{v:Value}{zs:List Int}(h:sW N0 w v zs)(hP:∀w',w.grownBy w' v.ownBlock→Says X P w')(hn:zs.length<1000000) :
  CallsIn Fz 0 Tryz.prog 115 #[v,.func (.func 57) #[] #[.pointer (some ⟨X,0,none⟩)]] w λe w'=>(∃r:Int,e=.returned (.int .i64 r)∧((r=-1∧∀k,k<zs.length→P (zs.getD k 0)=false)∨∃i:Nat,r=i∧i<zs.length∧P (zs.getD i 0)=true∧∀k,k<i→P (zs.getD k 0)=false))∧Below w.heap.size w w':=by
 have hown:=λ{w'} (hb:Below w.heap.size w w')=>h.below hb;obtain⟨base,cap,rfl,h1,h2,h3⟩:=h;have HP:=Lib.hid hP;have H2:=Lib.hid h2;have H3:=Lib.hid h3;clear hP h2 h3 hown;gi_enter Tryz.func115,Tryz.ntmps115
 gi_wp2;gi_loopw [8] (λv wr=>∃k:Nat,k≤zs.length∧v=.int .i64 k∧Below w.heap.size w wr∧∀i,i<k→P (zs.getD i 0)=false) (λv _=>zs.length-(intOf v).toNat)
 case atStart=>exact⟨0,Nat.zero_le _,rfl,Below.refl _ _,λi hi=>by omega⟩
 case round=>
  obtain⟨k,hk,rfl,hb,hno⟩:=hrel;have HN:=Lib.hid hno;clear hno;by_cases hl:k<zs.length
  ·have hl':(k:Int)<zs.length:=by omega
   obtain⟨g,rfl,c1,c2⟩:=H3.out k hl;have hg:g<w.heap.size:=by
    rcases H2.out with q|⟨g',q,_,q2⟩
    ·cases q
    ·cases q;exact q2
   have c0:=(hb.cell (p:=⟨g,k,none⟩) hg).trans c1;have Py:g<wr.heap.size:=aA hg hb.size;have hs:=HP.out wr (gbOf hb);clear c1 c2;obtain⟨x,hx⟩:∃x,zs.getD k 0=x:=⟨_,rfl⟩
   rw[hx]at c0;have HX:=Lib.hid hx;clear hx;have hc:=hs x;obtain⟨q,hq⟩:∃q,P x=q:=⟨_,rfl⟩
   rw[hq]at hc;have HQ:=Lib.hid hq;clear hq hs;rcases q with _|_
   ·gi_wp2_with (gi_at_call 57;refine hc.mono ?_;rintro e w3 ⟨rfl,hb3⟩)
    go_roundw
    case rel=>
     refine⟨k+1,by omega,by go_num,hb.trans (hb3.mono hb.size),λi hi=>?_⟩;rcases(show i<k∨i=k by omega)with z|rfl
     ·exact HN.out i z
     ·rw[HX.out,HQ.out]
    case measure=>simp[intOf];omega
   ·gi_wp2_with (gi_at_call 57;refine hc.mono ?_;rintro e w3 ⟨rfl,hb3⟩)
    go_ret;exact⟨⟨k,rfl,.inr ⟨k,rfl,hl,by rw[HX.out,HQ.out],HN.out⟩⟩,hb.trans (hb3.mono hb.size)⟩
  ·obtain rfl:k=zs.length:=by omega
   gi_wp2;go_ret;exact⟨⟨-1,rfl,.inl ⟨rfl,HN.out⟩⟩,hb⟩
def keep(P:Int→Bool)(zs:List Int)(k:Nat):List Int:=(zs.take k).filter λx=>!P x
theorem xA{P:Int→Bool}{zs:List Int}{k:Nat}(hk:k<zs.length):keep P zs (k+1)=keep P zs k++if P (zs.getD k 0)=true then[]else[zs.getD k 0]:=by
 unfold keep;rw[List.take_add_one,List.getElem?_eq_getElem hk,List.filter_append,List.getD_eq_getElem?_getD,List.getElem?_eq_getElem hk];simp only[Option.toList_some,Option.getD_some,List.filter_cons,List.filter_nil];cases P zs[k]<;>rfl
theorem AU{P:Int→Bool}{zs:List Int}:∀{i:Nat},i≤zs.length→(∀k,k<i→P (zs.getD k 0)=false)→keep P zs i=zs.take i
 |0,_,_=>rfl
 |i+1,hi,h=>by
  rw[xA (by omega),AU (by omega) λk hk=>h k (by omega),h i (by omega),List.take_add_one,List.getElem?_eq_getElem (by omega),List.getD_eq_getElem?_getD,List.getElem?_eq_getElem (by omega)];rfl
theorem RV{α:Type}{l:List α}{x d:α}{k:Nat}:(l++[x]).getD k d=if k<l.length then l.getD k d else if k=l.length then x else d:=by
 simp only[List.getD_eq_getElem?_getD];by_cases h:k<l.length
 ·rw[if_pos h,List.getElem?_append_left h]
 ·rw[if_neg h,List.getElem?_append_right (by omega)];by_cases h2:k=l.length
  ·subst h2;simp
  ·rw[if_neg h2,List.getElem?_eq_none (by simp;omega)];rfl
theorem KL{N0 X:Nat}{P:Int→Bool}{w:World}{v:Value}{zs:List Int}(h:sW N0 w v zs)(hN0:N0≤w.heap.size)(hP:∀w',w.grownBy w' v.ownBlock→Says X P w')(hn:zs.length<1000000) :
  CallsIn Fz 0 Tryz.prog 56 #[v,.func (.func 57) #[] #[.pointer (some ⟨X,0,none⟩)]] w λe w'=>(∃v',e=.returned v'∧sW N0 w' v' (zs.filter λx=>!P x))∧Below N0 w w':=by
 have hi:=Pj h hP hn;have hall:keep P zs zs.length=zs.filter λx=>!P x:=by simp[keep]
 have hbel:=λw' (hb:Below w.heap.size w w')=>h.below hb;obtain⟨base,cap,rfl,h1,h2,h3⟩:=h;have HP:=Lib.hid hP;have H2:=Lib.hid h2;have H3:=Lib.hid h3;have HA:=Lib.hid hall;have HB:=Lib.hid hbel;have hz28:=Tryz.underlying28;clear hP h2 h3 hall hbel;have hbq:∀i:Nat,((i:Int)==-1)=false:=λi=>NP (by omega);gi_enter Tryz.func56,Tryz.ntmps56
 gi_wp2_with (gi_at_call 115;refine hi.mono ?_;rintro e w2 ⟨⟨r,rfl,hr⟩,hb2⟩;rcases hr with⟨rfl,hr⟩|⟨i,rfl,hil,hpi,hr⟩)
 ·go_ret;have e:(zs.filter λx=>!P x)=zs:=by
   rw[← HA.out,AU (ak _) hr,List.take_length]
  rw[e];exact⟨⟨_,rfl,HB.out _ hb2⟩,hb2.mono hN0⟩
 ·obtain⟨g,rfl,-⟩:=H3.out i hil;obtain⟨hg0,hg⟩:N0≤g∧g<w.heap.size:=by
   rcases H2.out with q|⟨g',q,q1,q2⟩
   ·cases q
   ·cases q;exact⟨q1,q2⟩
  have hc2:∀k,k<zs.length→w2.cell? ⟨g,k,none⟩=some (.int .i64 (zs.getD k 0))∧w2.frozen? ⟨g,k,none⟩=false:=λk hk=>by
   obtain⟨g',q,q1,q2⟩:=H3.out k hk;cases q;exact⟨(hb2.cell (p:=⟨g,k,none⟩) hg).trans q1,(World.frozen?_of_block (a:=⟨g,k,none⟩) (hb2.block g hg)).trans q2⟩
  have hk0:=AU (P:=P) (Nat.le_of_lt hil) hr;have hk1:keep P zs (i+1)=zs.take i:=by rw[xA hil,hpi,hk0];simp
  have HR:=Lib.hid hr;clear hr;gi_wp2;gi_loopw [5,6] (λa b wr=>∃ki kj:Nat,a=.int .i64 ki∧b=.int .i64 kj∧ki<kj∧kj≤zs.length∧ki=(keep P zs kj).length∧g<wr.heap.size∧w.grownBy wr (some g)∧(∀k,k<ki→wr.cell? ⟨g,k,none⟩=some (.int .i64 ((keep P zs kj).getD k 0)))∧(∀k,kj≤k→k<zs.length→wr.cell? ⟨g,k,none⟩=some (.int .i64 (zs.getD k 0)))∧∀k,k<zs.length→(wr.cell? ⟨g,k,none⟩).isSome=true∧wr.frozen? ⟨g,k,none⟩=false) (λ_ b _=>zs.length-(intOf b).toNat)
  case atStart=>
   refine⟨i,i+1,rfl,by go_num,by omega,by omega,by rw[hk1,List.length_take];omega,aA hg hb2.size,(gbOf hb2),λk hk=>?_,λk _ hk=>(hc2 k hk).1,λk hk=>⟨by rw[(hc2 k hk).1];rfl,(hc2 k hk).2⟩⟩;rw[(hc2 k (by omega)).1,hk1];simp only[List.getD_eq_getElem?_getD];rw[List.getElem?_take_of_lt hk]
  case round=>
   clear hc2 hk0 hk1;obtain⟨ki,kj,rfl,rfl,hkk,hkj,hki,Py,hgb,hA,hB,hC⟩:=hrel;have A1:=Lib.hid hA;have B1:=Lib.hid hB;have C1:=Lib.hid hC;have KI:=Lib.hid hki;clear hA hB hC hki;by_cases hl:kj<zs.length
   ·have hl':(kj:Int)<zs.length:=by omega
    have hl2:(ki:Int)<zs.length:=by omega
    have c0:=B1.out kj (ak _) hl;obtain⟨d0',d1⟩:=C1.out ki (by omega);obtain⟨v0,d0⟩:=Option.isSome_iff_exists.1 d0';clear d0';have hs:=HP.out wr (by simpa[Value.ownBlock]using hgb);have hsu:=xA (P:=P) hl;obtain⟨x,hx⟩:∃x,zs.getD kj 0=x:=⟨_,rfl⟩
    rw[hx]at c0 hsu;clear hx;have hc:=hs x;obtain⟨q,hq⟩:∃q,P x=q:=⟨_,rfl⟩
    rw[hq]at hc hsu;have HS:=Lib.hid hsu;clear hq hs hsu;rcases q with _|_
    ·gi_wp2_with (gi_at_call 57;refine hc.mono ?_;rintro e w3 ⟨rfl,hb3⟩;have d2:=(World.frozen?_of_block (a:=⟨g,ki,none⟩) (hb3.block g Py)).trans d1;have d3:=(hb3.cell (p:=⟨g,ki,none⟩) Py).trans d0;have d4:=aA Py hb3.size)
     go_roundw
     case rel=>
      have hK:keep P zs (kj+1)=keep P zs kj++[x]:=by rw[HS.out];simp
      have hlen:=KI.out;refine⟨ki+1,kj+1,by go_num,by go_num,by omega,by omega,by rw[hK,List.length_append,← hlen];rfl,by simpa using d4,(hgb.trans (gbOf hb3)).trans (Ef _ _ _ _),λk hk=>?_,λk h1 h2=>?_,λk hk=>?_⟩
      ·rw[hK,RV,← hlen];by_cases e:k=ki
       ·subst e;rw[if_neg (by omega),if_pos rfl];exact World.cell?_setCell_same _ _ _ d3
       ·rw[if_pos (by omega),World.cell?_setCell_other _ _ _ _ (by first|(simp;done)|(simp;omega))];exact(hb3.cell (p:=⟨g,k,none⟩) Py).trans (A1.out k (by omega))
      ·rw[World.cell?_setCell_other _ _ _ _ (by first|(simp;done)|(simp;omega))];exact(hb3.cell (p:=⟨g,k,none⟩) Py).trans (B1.out k (by omega) h2)
      ·refine⟨?_,by rw[World.frozen?_setCell];exact(World.frozen?_of_block (a:=⟨g,k,none⟩) (hb3.block g Py)).trans (C1.out k hk).2⟩;by_cases e:k=ki
       ·subst e;rw[World.cell?_setCell_same _ _ _ d3];rfl
       ·rw[World.cell?_setCell_other _ _ _ _ (by first|(simp;done)|(simp;omega)),hb3.cell (p:=⟨g,k,none⟩) Py];exact(C1.out k hk).1
     case measure=>simp[intOf];omega
    ·gi_wp2_with (gi_at_call 57;refine hc.mono ?_;rintro e w3 ⟨rfl,hb3⟩)
     go_roundw
     case rel=>
      have hK:keep P zs (kj+1)=keep P zs kj:=by rw[HS.out];simp
      refine⟨ki,kj+1,rfl,by go_num,by omega,by omega,by rw[hK];exact KI.out,aA Py hb3.size,hgb.trans (gbOf hb3),λk hk=>?_,λk h1 h2=>?_,λk hk=>?_⟩
      ·rw[hK];exact(hb3.cell (p:=⟨g,k,none⟩) Py).trans (A1.out k hk)
      ·exact(hb3.cell (p:=⟨g,k,none⟩) Py).trans (B1.out k (by omega) h2)
      ·exact⟨by rw[hb3.cell (p:=⟨g,k,none⟩) Py];exact(C1.out k hk).1,(World.frozen?_of_block (a:=⟨g,k,none⟩) (hb3.block g Py)).trans (C1.out k hk).2⟩
     case measure=>simp[intOf];omega
   ·obtain rfl:kj=zs.length:=by omega
    have hcl:∀ty,(Builtin.clear_ #[28] ty #[.slice (some ⟨g,ki,none⟩) (zs.length-ki) (cap-ki)]).run Tryz.prog wr=.ok (.tuple #[]) (wr.setCells g ki (List.replicate (zs.length-ki) (.int .i64 0))):=
     λty=>Lib.run_clear_slice wr _ _ ty _ hz28 Tryz.zeroValue3 rfl rfl g ki _ _ (by omega) (λt ht=>(C1.out (ki+t) (by omega)).1) (λt ht=>(C1.out (ki+t) (by omega)).2)
    have hkc:(ki:Int)≤zs.length:=by omega
    have hkc2:(ki:Int)≤cap:=by omega
    gi_wp2;go_ret;have hlen:=KI.out;have hg2:=hgb.trans (Aw g (List.replicate (zs.length-ki) (.int .i64 0)) ki wr);rw[HA.out]at hlen;refine⟨⟨_,rfl,some ⟨g,0,none⟩,cap,by rw[← hlen];rfl,by omega,.inr ⟨g,rfl,hg0,aA hg hg2.size⟩,λk hk=>⟨g,rfl,?_,?_⟩⟩,(Below.refl _ w).mono hN0 |>.grown hg2 hN0 (λr e=>by cases e;exact hg0)⟩
    ·rw[World.cell?_setCells_out _ _ _ _ _ (λ_ _=>Or.inl (by simp;omega))];rw[← HA.out]at hk ⊢;exact A1.out k (by rw[KI.out];exact hk)
    ·rw[World.frozen?_setCells];exact(C1.out k (by omega)).2
end
section
set_option maxHeartbeats 1000000
set_option maxRecDepth 10000
set_option maxHeartbeats 64000000
set_option maxRecDepth 100000
open Go Go.RowKit Lift Go.Sort
theorem P5{N0 n:Nat}{w:World}{v:Value}{xs:List Int}(h:w.ownsRow N0 3 1 v n (xs.map (Value.int .i64)))(hn:n=xs.length):sW N0 w v xs:=by
 subst hn;rcases h.2 with⟨rfl,h0⟩|⟨g,cap,cur,rfl,h1,h2,h3,h4,h5,h6⟩
 ·obtain rfl:xs=[]:=List.length_eq_zero_iff.1 h0;exact⟨none,0,rfl,ak _,.inl rfl,λk hk=>by simp at hk⟩
 ·refine⟨_,cap,rfl,h3,.inr ⟨g,rfl,h1,(Array.getElem?_eq_some_iff.1 h2).1⟩,λk hk=>⟨g,rfl,?_,by simp[World.frozen?,h2]⟩⟩;have:=h.cells (g:=g) rfl k (.int .i64 (xs.getD k 0)) (by simp[List.getD_eq_getElem?_getD,hk]);rw[Addr.add_lit,Nat.zero_add]at this;exact this
theorem sW.mono{N0 N1:Nat}{w:World}{v:Value}{zs:List Int}(h:sW N1 w v zs)(hN:N0≤N1):sW N0 w v zs:=by
 obtain⟨base,cap,rfl,h1,h2,h3⟩:=h;refine⟨base,cap,rfl,h1,?_,h3⟩;rcases h2 with h2|⟨g',h2,h6,h7⟩
 ·exact .inl h2
 ·exact .inr ⟨g',h2,by omega,h7⟩
theorem sW.own{N0:Nat}{w:World}{v:Value}{zs:List Int}(h:sW N0 w v zs):∀g,v.ownBlock=some g→N0≤g∧g<w.heap.size:=by
 obtain⟨base,cap,rfl,h1,h2,h3⟩:=h;intro g hg;rcases h2 with rfl|⟨g',rfl,h6,h7⟩
 ·cases hg
 ·cases hg;exact⟨h6,h7⟩
theorem Ri{w:World}{v:Value}{xs:List Int}(hs:cZ w v xs)(hn:xs.length<1000000) :
  CallsIn Fz 0 Tryz.prog 55 #[v] w λe w'=>(∃v',e=.returned v'∧sW w.heap.size w' v' xs)∧Below w.heap.size w w':=by
 obtain⟨base,off,c,rfl,hs⟩:=hs;obtain⟨i0,hi0,hz0,hz1,hz2⟩:=info_parts Tryz.yu;have q:=λ(w:World) (a:Option Addr) (n c n' c':Nat)=>Lib.run_eql_slice_nil (P:=Tryz.prog) w 28 3 a n c n' c' Tryz.underlying28;rcases base with _|ad
 ·obtain rfl:xs=[]:=by
   rcases xs with _|⟨y,ys⟩
   ·rfl
   ·obtain⟨B,e,_⟩:=hs 0 (by simp);cases e
  gi_enter Tryz.func55,Tryz.ntmps55
  gi_wp2;go_ret;exact⟨⟨_,rfl,none,0,rfl,ak _,.inl rfl,λk hk=>by simp at hk⟩,Below.refl _ _⟩
 ·have hnew:∀j u,(xs.map (Value.int .i64))[j]?=some u→(w.alloc (.cells #[] 3)).cell? (ad.add j)=some u:=λj u hu=>by
   have hj:j<xs.length:=by have:=(List.getElem?_eq_some_iff.1 hu).1;simpa using this
   obtain⟨B,e,b1,b2⟩:=hs j hj;cases e;rw[Addr.add_lit];refine Lib.cell?_alloc_some _ ?_;rw[b2];simpa[List.getD_eq_getElem?_getD,hj]using hu
  have HN:=Lib.hid hnew;clear hnew hs;gi_enter Tryz.func55,Tryz.ntmps55
  gi_wp2_with (gi_at_builtin;refine wpListIn_append_own _ rfl _ _ 28 rfl w.heap.size 3 i0 (.int .i64 0) 1 8 Tryz.underlying28 hi0 hz0 hz1 hz2 rfl (by decide) _ _ _ rfl (World.ownsRow_made w #[] 0 (ak _) (Nat.zero_le _) rfl) ad xs.length c (xs.map (Value.int .i64)) rfl (by simp) HN.out (by intro u hu;obtain⟨x,_,rfl⟩:=List.mem_map.1 hu;rfl) (by unfold maxLen;omega) (by omega) (by simp) ?_;intro v' w1 hown hgrow hnil)
  gi_wp2;go_ret;exact⟨⟨v',rfl,P5 (by simpa using hown) rfl⟩,((Below.refl _ w).alloc (ak _) _).grown hgrow (by simp) (λk hk=>by cases hk;exact ak _)⟩
theorem cutF_in{w:World}{X:Nat}{sl:Value}{ys:List Int}{kp:Bool}(hX:Blk w X 152 #[sl,.bool kp])(hs:cZ w sl ys)(hn:ys.length<1000000):Says X (λx=>decide (x∈ys) != kp) w:=by
 intro x;have hc:=λ{w'} (hb:Below w.heap.size w w')=>jH ys sl x w' (hs.below hb) hn;obtain⟨base,off,c,rfl,-⟩:=hs;gi_enter Tryz.func57,Tryz.ntmps57
 gi_wp2;refine aT (λw'=>Below w.heap.size w w') rfl mixed (by kernel_rfl) (λd=>⟨rfl,rfl,rfl,ak _,λ_ _=>rfl⟩) ?_;simp only[aF,aC,aG,Nat.reduceAdd,Nat.zero_add,List.range,List.range.loop]
 iterate 8
  (refine aQ rfl rfl (by kernel_rfl) (.inr rfl) ?_
   apply ah;refine⟨λw' hw' K Q hK=>?_,?_⟩
   ·have qX:=hX.below hw';have x0:=qX.cell 0;have x1:=qX.cell 1;simp at x0 x1;have lX:=qX.lt;have hc':=hc hw'
    gi_wp2_with (gi_at_call 58;refine hc'.mono ?_;rintro e w3 ⟨rfl,hw3⟩;obtain rfl:w'=w3:=hw3.symm)
    try exact hw'
   apply ah;refine⟨rfl,?_⟩)
 intro w5 hw5;gi_wp2;go_ret;exact⟨rfl,hw5⟩
end
section
set_option maxHeartbeats 1000000
set_option maxRecDepth 10000
set_option maxHeartbeats 64000000
set_option maxRecDepth 100000
open Go Go.RowKit Lift Go.Sort
section
variable {N M:Nat} {t:aZ} {w:World}
theorem Cut_in(h:bI N t w)(hO:t.Ok){e:Nat}(hl:e<t.gW.length){v:Value}{xs:List Int}(hs:cZ w v xs)(hn:xs.length≤8)(hL:Lst (t.dI e).items.length xs)
  {cb:Option Addr} {cc:Nat} {rows:List (Value×Bool)} (hr:bC M cb 2 (kG rows) w) (hM:M≤w.heap.size) (hr4:rows.length≤4) (hcs:∀p∈rows,∃ys,cZ w p.1 ys∧Lst (t.dI e).items.length ys∧ys.length≤8) :
  CallsIn Fz 0 Tryz.prog 20 #[.agg t.arr,.int .i64 e,v,.slice cb rows.length cc] w λr w'=>(∃v' zs,r=.returned (.tuple #[v',.int .i64 0])∧cZ w' v' zs∧zs.Sublist xs)∧Below w.heap.size w w':=by
 have hN:=h.hN;have hF:=hO.fin;have hb1:∀A:Array Value,Below w.heap.size w ((w.alloc (.cells t.arr 68)).alloc (.cells A 28)):=λA=>((Below.refl _ w).alloc (ak _) _).alloc (by simp) _;have hB1:∀v:Value,((w.alloc (.cells t.arr 68)).alloc (.cells #[v] 28)).cell? ⟨w.heap.size+1,0,none⟩=some v:=λv=>by
  have:=(Blk.new (w.alloc (.cells t.arr 68)) #[v] 28).cell 0;simpa using this
 have hop:=Jz (h.below ((hb1 #[v]).mono hN)) hO hl (v:=v) (B:=w.heap.size+1) (cap:=1) (hB1 v) (by simp) (hs.below (hb1 _)) (by omega) hL;have hli:=λ{w'} (hb:Below w.heap.size w w') {v ys} (hs:cZ w v ys) (hn:ys.length≤8) hL=>NW (h.below (hb.mono hN)) hF hl (hs.below hb) (by omega) (xs:=ys) hL;have hclo:=λ{w'} (hb:Below w.heap.size w w')=>Ri (hs.below hb) (by omega);have hrow:∀k,k<rows.length→∃b o sl kp ys,cb=some ⟨b,o,none⟩∧b<w.heap.size∧cZ w sl ys∧Lst (t.dI e).items.length ys∧ys.length≤8∧w.cell? ⟨b,o+k * 2,none⟩=some sl∧w.cell? ⟨b,o+k * 2+1,none⟩=some (.bool kp):=λk hk=>by
  obtain⟨b,o,e1,e2,e3⟩:=bC.nI hr hk;obtain⟨ys,y1,y2,y3⟩:=hcs _ (List.getElem_mem hk);exact⟨b,o,_,_,ys,e1,aA e2 hM,y1,y2,y3,by simpa using e3 0 _ rfl,e3 1 _ rfl⟩
 obtain⟨base,off,c,rfl,-⟩:=hs;have hb1':=hb1 #[.slice base xs.length c];have HR:=Lib.hid hrow;clear hL hB1 hb1 hr hcs hrow;have q4:¬((4:Int)<rows.length):=by omega
 gi_enter Tryz.func20,Tryz.ntmps20
 gi_wp2_with (gi_at_call 53;refine hop.mono ?_;rintro r w2 ⟨rfl,hb2⟩;have hB:=hb1'.trans (hb2.mono hb1'.size);clear hb1')
 have hB3:=hB.alloc hB.size (.cells t.arr 148);have hX:=Blk.new w2 t.arr 148;gi_loopw [34] (λi wr=>∃k:Nat,k≤rows.length∧i=.int .i64 k∧Below w.heap.size w wr∧Blk wr w2.heap.size 148 t.arr) (λi _=>rows.length-(intOf i).toNat)
 case atStart=>exact⟨0,Nat.zero_le _,rfl,hB3,hX⟩
 case round=>
  clear hB3 hX hB;obtain⟨k,hk,rfl,hb,hX⟩:=hrel;by_cases hlt:k<rows.length
  ·have hlt':(k:Int)<rows.length:=by omega
   obtain⟨b,o,sl,kp,ys,e1,e2,y1,y2,y3,c0,c1⟩:=HR.out k hlt;have hA:=(Below.refl _ wr).alloc (ak _) (.cells #[sl,.bool kp] 152);have hc:=hli (hb.trans (hA.mono hb.size)) y1 y3 y2;obtain⟨sb,so,sc,rfl,-⟩:=y1;replace c0:=(hb.cell (p:=⟨b,o+k * 2,none⟩) e2).trans c0;replace c1:=(hb.cell (p:=⟨b,o+k * 2+1,none⟩) e2).trans c1;have yX:b<wr.heap.size:=aA e2 hb.size;have x0:=hX.cell 0;have x1:=hX.cell 1;have x2:=hX.cell 2;have lX:=hX.lt;simp at x0 x1 x2;rw[e1];clear y2
   gi_wp2_with (gi_at_call 54;refine hc.mono ?_;rintro r w3 ⟨rfl,hb3⟩)
   go_roundw
   case rel=>exact⟨k+1,by omega,by go_num,hb.trans ((hA.trans (hb3.mono hA.size)).mono hb.size),hX.below (hA.trans (hb3.mono hA.size))⟩
   case measure=>simp[intOf];omega
  ·obtain rfl:k=rows.length:=by omega
   have hc:=hclo hb
   gi_wp2_with (gi_at_call 55;refine hc.mono ?_;rintro r w3 ⟨⟨v',rfl,hown⟩,hb3⟩)
   have hbw:=hb.trans (hb3.mono hb.size);gi_loopw [51,15] (λi left wr=>∃(k:Nat) (zs:List Int),k≤rows.length∧i=.int .i64 k∧Below w.heap.size w wr∧sW w.heap.size wr left zs∧zs.Sublist xs) (λi _ _=>rows.length-(intOf i).toNat)
   case atStart=>exact⟨0,xs,Nat.zero_le _,rfl,hbw,hown.mono hb.size,List.Sublist.refl _⟩
   case round=>
    clear hbw hown hb3 hX hb;obtain⟨k,zs,hk,rfl,hb,hown,hsub⟩:=hrel;by_cases hlt:k<rows.length
    ·have hlt':(k:Int)<rows.length:=by omega
     obtain⟨b,o,sl,kp,ys,e1,e2,y1,y2,y3,c0,c1⟩:=HR.out k hlt;have hA:=(Below.refl _ wr).alloc (ak _) (.cells #[sl,.bool kp] 152);have Sj:=hb.trans (hA.mono hb.size);have hBX:=Blk.new wr #[sl,.bool kp] 152;have hzl:=hsub.length_le;have hsay:∀w',(wr.alloc (.cells #[sl,.bool kp] 152)).grownBy w' u15.ownBlock→Says wr.heap.size (λx=>decide (x∈ys) != kp) w':=λw' hg=>by
      have hne:∀g,u15.ownBlock=some g→w.heap.size≤g∧g<wr.heap.size:=hown.own;refine cutF_in (sl:=sl) ?_ ?_ (by omega)
      ·exact(hg.block wr.heap.size (by simp) (λe=>by have:=(hne _ e.symm).2;omega)).trans hBX
      ·refine y1.below (Sj.trans ⟨hg.os,hg.tape,hg.output,hg.size,λq hq=>hg.block q (aA hq (Nat.le_trans hb.size hA.size)) (λe=>by have:=(hne _ e.symm).1;omega)⟩)
     have hc:=KL (hown.below hA) (Nat.le_trans hb.size hA.size) hsay (by omega);obtain⟨sb,so,sc,rfl,-⟩:=y1;replace c0:=(hb.cell (p:=⟨b,o+k * 2,none⟩) e2).trans c0;replace c1:=(hb.cell (p:=⟨b,o+k * 2+1,none⟩) e2).trans c1;have yX:b<wr.heap.size:=aA e2 hb.size;rw[e1];clear y2 hsay
     gi_wp2_with (gi_at_call 56;refine hc.mono ?_;rintro r w3 ⟨⟨v2,rfl,hown2⟩,hb3⟩)
     go_roundw
     case rel=>exact⟨k+1,_,by omega,by go_num,Sj.trans hb3,hown2,(List.filter_sublist).trans hsub⟩
     case measure=>simp[intOf];omega
    ·obtain rfl:k=rows.length:=by omega
     gi_wp2
     go_ret2
     exact⟨⟨_,zs,rfl,hown.seq,hsub⟩,hb⟩
end
end
section
set_option maxHeartbeats 1000000
set_option maxRecDepth 10000
set_option maxHeartbeats 64000000
set_option maxRecDepth 100000
open Go Go.Conc Go.RowKit Lift
theorem aV{D:Nat→Bool}{i j:Nat}(h:i≠j):bK D i j=D j:=by simp[bK,Ne.symm h]
theorem bT{x:Tmp→Value}{g h:Tmp}{u:Value}(e:g≠h):mO x g u h=x h:=by unfold mO;rw[if_neg (Ne.symm e)]
theorem jE{x:Tmp→Value}{g:Tmp}{u:Value}:mO x g u g=u:=by unfold mO;rw[if_pos rfl]
structure wV (N:Nat) (t:aZ) (X:Nat) (pa:Option Addr) (pn:Nat) (w:World):Prop where
 at_:bI N t w
 bx:Blk w X 68 t.arr
 pk:iq N pa pn w
theorem bI.grow{N:Nat}{t:aZ}{w w':World}(h:bI N t w)(hg:Grow w.heap.size w w'):bI N t w':=
 ⟨Nat.le_trans h.hN hg.size,h.es.grow h.hN hg,λe he=>bC.grow (h.ed e he) h.hN hg,h.ms.grow h.hN hg,h.ks.grow h.hN hg⟩
theorem iq.grow{N n:Nat}{a:Option Addr}{w w':World}(h:iq N a n w)(hN:N≤w.heap.size)(hg:Grow w.heap.size w w'):iq N a n w':=λi hi=>by
 obtain⟨b,o,x,h1,h2,h3,h4⟩:=h i hi;refine⟨b,o,x,h1,h2,?_,h4⟩;unfold World.cell? at h3 ⊢;rw[hg.block b (aA h2 hN)];exact h3
theorem wV.grow{N X pn:Nat}{t:aZ}{pa:Option Addr}{w w':World}(h:wV N t X pa pn w)(hg:Grow w.heap.size w w'):wV N t X pa pn w':=⟨h.at_.grow hg,h.bx.grow hg h.bx.lt,h.pk.grow h.at_.hN hg⟩
theorem wV.same{N X pn:Nat}{t:aZ}{pa:Option Addr}{w w':World}(h:wV N t X pa pn w)(hs:eX w w'):wV N t X pa pn w':=h.grow (hs.g _)
theorem wV.below{N X pn:Nat}{t:aZ}{pa:Option Addr}{w w':World}(h:wV N t X pa pn w)(hb:Below w.heap.size w w'):wV N t X pa pn w':=h.grow (Grow.of hb)
theorem rM[Keep]{w0 w:World}{S0 S:Blks}{M B N X pn:Nat}{l:Lay}{b:aJ}{t:aZ}{pa:Option Addr}{x y:Code}{Q:Qr}{a:Act}(E:iy w0 S0 M l b B w S)(F:wV N t X pa pn w)
  (h:∀wr,eX w wr→iy w0 S0 M l b B wr S→wV N t X pa pn wr→x.wpIn Fz 0 Tryz.prog (λe a' w''=>CG (λa w S=>wpR Tryz.prog Inside y Q a w S) Q e a' w'' S) a wr):wpR Tryz.prog Inside (.seq x y) Q a w S:=
 fJ λwr hs=>h wr hs (E.same hs) (F.same hs)
def Hg(n:Nat)(u:Value)(w:World):Prop:=∃base cc rows,u=.slice base rows.length cc∧bC w.heap.size base 2 (kG rows) w∧rows.length≤4∧∀p∈rows,∃ys,cZ w p.1 ys∧Lst n ys∧ys.length≤8
def Hw(xs:List Int)(u:Value)(w:World):Prop:=∃zs,cZ w u zs∧zs.Sublist xs
def zN(xs:List Int)(u:Value)(w:World):Prop:=∃v',u=.tuple #[v',.int .i64 0]∧Hw xs v' w
theorem Hg.grow{n:Nat}{u:Value}{w w':World}(h:Hg n u w)(hg:Grow w.heap.size w w'):Hg n u w':=by
 obtain⟨base,cc,rows,rfl,h1,h2,h3⟩:=h;exact⟨base,cc,rows,rfl,(h1.grow (ak _) hg).mono hg.size,h2,λp hp=>let ⟨ys,y1,y2⟩:=h3 p hp;⟨ys,y1.grow hg,y2⟩⟩
theorem Hw.grow{xs:List Int}{u:Value}{w w':World}(h:Hw xs u w)(hg:Grow w.heap.size w w'):Hw xs u w':=let ⟨zs,h1,h2⟩:=h;⟨zs,h1.grow hg,h2⟩
theorem zN.grow{xs:List Int}{u:Value}{w w':World}(h:zN xs u w)(hg:Grow w.heap.size w w'):zN xs u w':=let ⟨v,h1,h2⟩:=h;⟨v,h1,h2.grow hg⟩
structure W5 (w0:World) (S0:Blks) (l:Lay) (b:aJ) (B:Nat) (t:aZ) (X:Nat) (pa:Option Addr) (pn n:Nat) (v:Value) (xs:List Int) (D:Nat→Bool) (x:Tmp→Value) (w:World) (S:Blks):Prop where
 E:iy w0 S0 w0.heap.size l b B w S
 F:wV w0.heap.size t X pa pn w
 s:cZ w v xs
 c:D 6=true→Hg n (x 70) w
 r:D 7=true→zN xs (x 71) w
 m:D 8=true→zN xs (x 63) w
 y:D 9=true→Hw xs (x 72) w
 z:D 11=true→Hw xs (x 19) w
section
variable {w0 w w':World} {S0 S S':Blks} {l:Lay} {b:aJ} {B X pn n i:Nat} {t:aZ} {pa:Option Addr} {v:Value} {xs:List Int} {D:Nat→Bool} {x:Tmp→Value} {u:Value}
theorem W5.step(h:W5 w0 S0 l b B t X pa pn n v xs D x w S)(hi:i≠6∧i≠7∧i≠8∧i≠9∧i≠11)(hg:dN w.heap.size w S w' S'):W5 w0 S0 l b B t X pa pn n v xs (bK D i) x w' S':=
 ⟨h.E.grow hg,h.F.grow hg.toGrow,h.s.grow hg.toGrow,λq=>(h.c (by rwa[aV hi.1]at q)).grow hg.toGrow,λq=>(h.r (by rwa[aV hi.2.1]at q)).grow hg.toGrow,λq=>(h.m (by rwa[aV hi.2.2.1]at q)).grow hg.toGrow,
  λq=>(h.y (by rwa[aV hi.2.2.2.1]at q)).grow hg.toGrow,λq=>(h.z (by rwa[aV hi.2.2.2.2]at q)).grow hg.toGrow⟩
theorem W5.mk_c(h:W5 w0 S0 l b B t X pa pn n v xs D x w S)(hb:Below w.heap.size w w')(hu:Hg n u w'):W5 w0 S0 l b B t X pa pn n v xs (bK D 6) (mO x 70 u) w' S:=
 ⟨h.E.below hb,h.F.below hb,h.s.below hb,λ_=>by rw[jE];exact hu,λq=>by(rw[aV (by decide)]at q;rw[bT (by decide)];exact(h.r q).grow (Grow.of hb)),λq=>by(rw[aV (by decide)]at q;rw[bT (by decide)];exact(h.m q).grow (Grow.of hb)),λq=>by(rw[aV (by decide)]at q;rw[bT (by decide)];exact(h.y q).grow (Grow.of hb)),λq=>by(rw[aV (by decide)]at q;rw[bT (by decide)];exact(h.z q).grow (Grow.of hb))⟩
theorem W5.mk_r(h:W5 w0 S0 l b B t X pa pn n v xs D x w S)(hb:Below w.heap.size w w')(hu:zN xs u w'):W5 w0 S0 l b B t X pa pn n v xs (bK D 7) (mO x 71 u) w' S:=
 ⟨h.E.below hb,h.F.below hb,h.s.below hb,λq=>by(rw[aV (by decide)]at q;rw[bT (by decide)];exact(h.c q).grow (Grow.of hb)),λ_=>by rw[jE];exact hu,λq=>by(rw[aV (by decide)]at q;rw[bT (by decide)];exact(h.m q).grow (Grow.of hb)),λq=>by(rw[aV (by decide)]at q;rw[bT (by decide)];exact(h.y q).grow (Grow.of hb)),λq=>by(rw[aV (by decide)]at q;rw[bT (by decide)];exact(h.z q).grow (Grow.of hb))⟩
theorem W5.mk_m(h:W5 w0 S0 l b B t X pa pn n v xs D x w S)(hb:Below w.heap.size w w')(hu:zN xs u w'):W5 w0 S0 l b B t X pa pn n v xs (bK D 8) (mO x 63 u) w' S:=
 ⟨h.E.below hb,h.F.below hb,h.s.below hb,λq=>by(rw[aV (by decide)]at q;rw[bT (by decide)];exact(h.c q).grow (Grow.of hb)),λq=>by(rw[aV (by decide)]at q;rw[bT (by decide)];exact(h.r q).grow (Grow.of hb)),λ_=>by rw[jE];exact hu,λq=>by(rw[aV (by decide)]at q;rw[bT (by decide)];exact(h.y q).grow (Grow.of hb)),λq=>by(rw[aV (by decide)]at q;rw[bT (by decide)];exact(h.z q).grow (Grow.of hb))⟩
theorem W5.mk_y(h:W5 w0 S0 l b B t X pa pn n v xs D x w S)(hb:Below w.heap.size w w')(hu:Hw xs u w'):W5 w0 S0 l b B t X pa pn n v xs (bK D 9) (mO x 72 u) w' S:=
 ⟨h.E.below hb,h.F.below hb,h.s.below hb,λq=>by(rw[aV (by decide)]at q;rw[bT (by decide)];exact(h.c q).grow (Grow.of hb)),λq=>by(rw[aV (by decide)]at q;rw[bT (by decide)];exact(h.r q).grow (Grow.of hb)),λq=>by(rw[aV (by decide)]at q;rw[bT (by decide)];exact(h.m q).grow (Grow.of hb)),λ_=>by rw[jE];exact hu,λq=>by(rw[aV (by decide)]at q;rw[bT (by decide)];exact(h.z q).grow (Grow.of hb))⟩
theorem W5.mk_z(h:W5 w0 S0 l b B t X pa pn n v xs D x w S)(hb:Below w.heap.size w w')(hu:Hw xs u w'):W5 w0 S0 l b B t X pa pn n v xs (bK D 11) (mO x 19 u) w' S:=
 ⟨h.E.below hb,h.F.below hb,h.s.below hb,λq=>by(rw[aV (by decide)]at q;rw[bT (by decide)];exact(h.c q).grow (Grow.of hb)),λq=>by(rw[aV (by decide)]at q;rw[bT (by decide)];exact(h.r q).grow (Grow.of hb)),λq=>by(rw[aV (by decide)]at q;rw[bT (by decide)];exact(h.m q).grow (Grow.of hb)),λq=>by(rw[aV (by decide)]at q;rw[bT (by decide)];exact(h.y q).grow (Grow.of hb)),λ_=>by rw[jE];exact hu⟩
end
def ny(l:Lay)(b:aJ)(v:Value)(w:World):Prop:=∃g c cur,v=.agg (({ l with kb:=some ⟨g,0,none⟩,kc:=c }:Lay).bP b)∧bC w.heap.size (some ⟨g,0,none⟩) 6 (b.cs.map fZ.row) w∧Blk w g 46 cur
theorem ny.grow{l:Lay}{b:aJ}{v:Value}{w w':World}(h:ny l b v w)(hg:Grow w.heap.size w w'):ny l b v w':=by
 obtain⟨g,c,cur,e,h1,h2⟩:=h;exact⟨g,c,cur,e,(h1.grow (ak _) hg).mono hg.size,h2.grow hg h2.lt⟩
theorem ny.qm{l:Lay}{b:aJ}{v:Value}{w:World}{p j:Nat}{A:Array Value}{y:Value}(h:ny l b v w)(hp:Blk w p 27 A):ny l b v (w.setCell ⟨p,j,none⟩ y):=by
 obtain⟨g,c,cur,e,h1,h2⟩:=h;have hne:p≠g:=λe=>by
  subst e;have:=hp.symm.trans h2;simp at this
 exact⟨g,c,cur,e,by rw[World.size_setCell];exact h1.qm hne,h2.set hne y⟩
def yR(m0:Nat)(l:Lay)(b:aJ)(d:Bool)(v:Value)(w:World):Prop:=∃p A0 A1 A2 A3,v=.pointer (some ⟨p,0,none⟩)∧m0≤p∧Blk w p 27 #[A0,A1,A2,A3]∧(d=true→ny l b (.agg #[A0,A1,A2,A3]) w)
theorem yR.grow{m0:Nat}{l:Lay}{b:aJ}{d:Bool}{v:Value}{w w':World}(h:yR m0 l b d v w)(hg:Grow w.heap.size w w'):yR m0 l b d v w':=by
 obtain⟨p,A0,A1,A2,A3,e,h1,h2,h3⟩:=h;exact⟨p,A0,A1,A2,A3,e,h1,h2.grow hg h2.lt,λq=>(h3 q).grow hg⟩
theorem yR.qm{m0:Nat}{l:Lay}{b:aJ}{d:Bool}{v:Value}{w:World}{p j:Nat}{A:Array Value}{y:Value}(h:yR m0 l b d v w)(hp:Blk w p 27 A)(hne:v≠.pointer (some ⟨p,0,none⟩)):yR m0 l b d v (w.setCell ⟨p,j,none⟩ y):=by
 obtain⟨q,A0,A1,A2,A3,e,h1,h2,h3⟩:=h;exact⟨q,A0,A1,A2,A3,e,h1,h2.set (λe2=>hne (by rw[e,e2])) y,λd=>(h3 d).qm hp⟩
structure W10 (w0:World) (S0:Blks) (l:Lay) (b:aJ) (B m0:Nat) (b1 b2:aJ) (D:Nat→Bool) (x:Tmp→Value) (w:World) (S:Blks):Prop where
 E:iy w0 S0 w0.heap.size l b B w S
 hm:m0≤w.heap.size
 a1:D 10=true→ny l b1 (x 115) w
 a2:D 21=true→ny l b2 (x 126) w
 p1:D 22=true→yR m0 l b1 (D 24) (x 25) w
 p2:D 23=true→yR m0 l b2 (D 25) (x 26) w
 ne:D 22=true→D 23=true→x 25≠x 26
section
variable {w0 w w':World} {S0 S S':Blks} {l:Lay} {b b1 b2:aJ} {B m0 i:Nat} {D:Nat→Bool} {x:Tmp→Value} {u:Value}
theorem W10.step(h:W10 w0 S0 l b B m0 b1 b2 D x w S)(hi:i≠10∧i≠21∧i≠22∧i≠23∧i≠24∧i≠25)(hg:dN w.heap.size w S w' S'):W10 w0 S0 l b B m0 b1 b2 (bK D i) x w' S':=by
 obtain⟨h1,h2,h3,h4,h5,h6⟩:=hi;refine⟨h.E.grow hg,Nat.le_trans h.hm hg.size,λq=>?_,λq=>?_,λq=>?_,λq=>?_,λq r=>?_⟩
 ·rw[aV h1]at q;exact(h.a1 q).grow hg.toGrow
 ·rw[aV h2]at q;exact(h.a2 q).grow hg.toGrow
 ·rw[aV h3]at q;rw[aV h5];exact(h.p1 q).grow hg.toGrow
 ·rw[aV h4]at q;rw[aV h6];exact(h.p2 q).grow hg.toGrow
 ·rw[aV h3]at q;rw[aV h4]at r;exact h.ne q r
theorem W10.one(h:W10 w0 S0 l b B m0 b1 b2 D x w S)(hb:Below w.heap.size w w')(hu:ny l b1 u w'):W10 w0 S0 l b B m0 b1 b2 (bK D 10) (mO x 115 u) w' S:=by
 have hg:=Grow.of hb;refine⟨h.E.below hb,Nat.le_trans h.hm hb.size,λq=>?_,λq=>?_,λq=>?_,λq=>?_,λq r=>?_⟩
 ·rw[jE];exact hu
 ·rw[aV (by decide)]at q;rw[bT (by decide)];exact(h.a2 q).grow hg
 ·rw[aV (by decide)]at q ⊢;rw[bT (by decide)];exact(h.p1 q).grow hg
 ·rw[aV (by decide)]at q ⊢;rw[bT (by decide)];exact(h.p2 q).grow hg
 ·rw[aV (by decide)]at q r;rw[bT (by decide),bT (by decide)];exact h.ne q r
theorem W10.two(h:W10 w0 S0 l b B m0 b1 b2 D x w S)(hb:Below w.heap.size w w')(hu:ny l b2 u w'):W10 w0 S0 l b B m0 b1 b2 (bK D 21) (mO x 126 u) w' S:=by
 have hg:=Grow.of hb;refine⟨h.E.below hb,Nat.le_trans h.hm hb.size,λq=>?_,λq=>?_,λq=>?_,λq=>?_,λq r=>?_⟩
 ·rw[aV (by decide)]at q;rw[bT (by decide)];exact(h.a1 q).grow hg
 ·rw[jE];exact hu
 ·rw[aV (by decide)]at q ⊢;rw[bT (by decide)];exact(h.p1 q).grow hg
 ·rw[aV (by decide)]at q ⊢;rw[bT (by decide)];exact(h.p2 q).grow hg
 ·rw[aV (by decide)]at q r;rw[bT (by decide),bT (by decide)];exact h.ne q r
theorem yR.lt{d:Bool}{v:Value}(h:yR m0 l b d v w):v≠.pointer (some ⟨w.heap.size,0,none⟩):=by
 obtain⟨p,A0,A1,A2,A3,rfl,h1,h2,h3⟩:=h;intro e;have:=h2.lt;cases e;exact Nat.lt_irrefl _ this
theorem W10.box1(h:W10 w0 S0 l b B m0 b1 b2 D x w S){A0 A1 A2 A3:Value}(hd:D 24=false):W10 w0 S0 l b B m0 b1 b2 (bK D 22) (mO x 25 (.pointer (some ⟨w.heap.size,0,none⟩))) (w.alloc (.cells #[A0,A1,A2,A3] 27)) S:=by
 have hb:=(Below.refl _ w).alloc (ak _) (.cells #[A0,A1,A2,A3] 27);have hg:=Grow.of hb;refine⟨h.E.below hb,Nat.le_trans h.hm hb.size,λq=>?_,λq=>?_,λq=>?_,λq=>?_,λq r=>?_⟩
 ·rw[aV (by decide)]at q;rw[bT (by decide)];exact(h.a1 q).grow hg
 ·rw[aV (by decide)]at q;rw[bT (by decide)];exact(h.a2 q).grow hg
 ·rw[jE,aV (by decide),hd];exact⟨_,_,_,_,_,rfl,h.hm,Blk.new _ _ _,λq=>Bool.noConfusion q⟩
 ·rw[aV (by decide)]at q ⊢;rw[bT (by decide)];exact(h.p2 q).grow hg
 ·rw[aV (by decide)]at r;rw[jE,bT (by decide)];exact((h.p2 r).lt).symm
theorem W10.box2(h:W10 w0 S0 l b B m0 b1 b2 D x w S){A0 A1 A2 A3:Value}(hd:D 25=false):W10 w0 S0 l b B m0 b1 b2 (bK D 23) (mO x 26 (.pointer (some ⟨w.heap.size,0,none⟩))) (w.alloc (.cells #[A0,A1,A2,A3] 27)) S:=by
 have hb:=(Below.refl _ w).alloc (ak _) (.cells #[A0,A1,A2,A3] 27);have hg:=Grow.of hb;refine⟨h.E.below hb,Nat.le_trans h.hm hb.size,λq=>?_,λq=>?_,λq=>?_,λq=>?_,λq r=>?_⟩
 ·rw[aV (by decide)]at q;rw[bT (by decide)];exact(h.a1 q).grow hg
 ·rw[aV (by decide)]at q;rw[bT (by decide)];exact(h.a2 q).grow hg
 ·rw[aV (by decide)]at q ⊢;rw[bT (by decide)];exact(h.p1 q).grow hg
 ·rw[jE,aV (by decide),hd];exact⟨_,_,_,_,_,rfl,h.hm,Blk.new _ _ _,λq=>Bool.noConfusion q⟩
 ·rw[aV (by decide)]at q;rw[jE,bT (by decide)];exact(h.p1 q).lt
def JE(w:World)(p:Nat)(A0 A1 A2 A3:Value):World:=(((w.setCell ⟨p,0,none⟩ A0).setCell ⟨p,1,none⟩ A1).setCell ⟨p,2,none⟩ A2).setCell ⟨p,3,none⟩ A3
theorem JF{p:Nat}{A0 A1 A2 A3 C0 C1 C2 C3:Value}(h:Blk w p 27 #[C0,C1,C2,C3]):Blk (JE w p A0 A1 A2 A3) p 27 #[A0,A1,A2,A3]:=by
 have:=(((h.put 0 A0).put 1 A1).put 2 A2).put 3 A3;simp only[aj,ay,au]at this;exact this
theorem kS{p:Nat}{A0 A1 A2 A3 C0 C1 C2 C3 v:Value}(h:ny l b v w)(hp:Blk w p 27 #[C0,C1,C2,C3]):ny l b v (JE w p A0 A1 A2 A3):=
 (((h.qm hp).qm (hp.put 0 A0)).qm ((hp.put 0 A0).put 1 A1)).qm (((hp.put 0 A0).put 1 A1).put 2 A2)
theorem JG{p:Nat}{A0 A1 A2 A3 C0 C1 C2 C3 v:Value}{d:Bool}(h:yR m0 l b d v w)(hp:Blk w p 27 #[C0,C1,C2,C3])(hne:v≠.pointer (some ⟨p,0,none⟩)):yR m0 l b d v (JE w p A0 A1 A2 A3):=
 (((h.qm hp hne).qm (hp.put 0 A0) hne).qm ((hp.put 0 A0).put 1 A1) hne).qm (((hp.put 0 A0).put 1 A1).put 2 A2) hne
theorem JH{p:Nat}{A0 A1 A2 A3:Value}(E:iy w0 S0 w0.heap.size l b B w S)(h0:0<w0.heap.size)(hlo:w0.heap.size≤p)(hne:p≠B):iy w0 S0 w0.heap.size l b B (JE w p A0 A1 A2 A3) S:=
 (((E.qm h0 (Below.refl _ _) hlo hne).qm h0 (Below.refl _ _) hlo hne).qm h0 (Below.refl _ _) hlo hne).qm h0 (Below.refl _ _) hlo hne
theorem W10.put1(h:W10 w0 S0 l b B m0 b1 b2 D x w S)(h0:0<w0.heap.size)(hB:B<m0){p:Nat}{A0 A1 A2 A3 C0 C1 C2 C3:Value}(hd:D 22=true)(hp:x 25=.pointer (some ⟨p,0,none⟩))(hbp:Blk w p 27 #[C0,C1,C2,C3])(hmp:m0≤p)(hw:ny l b1 (.agg #[A0,A1,A2,A3]) w) :
  W10 w0 S0 l b B m0 b1 b2 (bK D 24) x (JE w p A0 A1 A2 A3) S:=by
 refine⟨JH h.E h0 (by have:=h.E.lo;omega) (by omega),by simpa[JE]using h.hm,λq=>?_,λq=>?_,λq=>?_,λq=>?_,λq r=>?_⟩
 ·rw[aV (by decide)]at q;exact kS (h.a1 q) hbp
 ·rw[aV (by decide)]at q;exact kS (h.a2 q) hbp
 ·exact⟨p,_,_,_,_,hp,hmp,JF hbp,λ_=>kS hw hbp⟩
 ·rw[aV (by decide)]at q ⊢;exact JG (h.p2 q) hbp (by rw[← hp];exact(h.ne hd q).symm)
 ·rw[aV (by decide)]at q r;exact h.ne q r
theorem W10.put2(h:W10 w0 S0 l b B m0 b1 b2 D x w S)(h0:0<w0.heap.size)(hB:B<m0){p:Nat}{A0 A1 A2 A3 C0 C1 C2 C3:Value}(hd:D 23=true)(hp:x 26=.pointer (some ⟨p,0,none⟩))(hbp:Blk w p 27 #[C0,C1,C2,C3])(hmp:m0≤p)(hw:ny l b2 (.agg #[A0,A1,A2,A3]) w) :
  W10 w0 S0 l b B m0 b1 b2 (bK D 25) x (JE w p A0 A1 A2 A3) S:=by
 refine⟨JH h.E h0 (by have:=h.E.lo;omega) (by omega),by simpa[JE]using h.hm,λq=>?_,λq=>?_,λq=>?_,λq=>?_,λq r=>?_⟩
 ·rw[aV (by decide)]at q;exact kS (h.a1 q) hbp
 ·rw[aV (by decide)]at q;exact kS (h.a2 q) hbp
 ·rw[aV (by decide)]at q ⊢;exact JG (h.p1 q) hbp (by rw[← hp];exact h.ne q hd)
 ·exact⟨p,_,_,_,_,hp,hmp,JF hbp,λ_=>kS hw hbp⟩
 ·rw[aV (by decide)]at q r;exact h.ne q r
theorem ny.same{v:Value}(h:ny l b v w)(hs:eX w w'):ny l b v w':=h.grow (hs.g _)
theorem W10.same(h:W10 w0 S0 l b B m0 b1 b2 D x w S)(hs:eX w w'):W10 w0 S0 l b B m0 b1 b2 D x w' S:=
 ⟨h.E.same hs,by rw[show w'.heap.size=w.heap.size by rw[hs.heap]];exact h.hm,λq=>(h.a1 q).same hs,λq=>(h.a2 q).same hs,λq=>(h.p1 q).grow (hs.g _),λq=>(h.p2 q).grow (hs.g _),h.ne⟩
end
theorem Qq{N:Nat}{l:Lay}{b:aJ}{w:World}(hbk:bW N l b w)(hR:b.Right){k:Nat}(hk:k<b.cs.length)(cl du:Int) :
  CallsIn Fz 0 Tryz.prog 14 #[.agg (l.bP b),.int .i64 k,.int .i64 cl,.int .i64 du] w λe w'=>(∃v,e=.returned v∧ny l (b.wit k cl du) v w')∧Below w.heap.size w w':=
 (UF hbk hR hk cl du).mono λe w' ⟨g,c,h1,h2,h3,cur,h4⟩=>⟨⟨_,h1,g,c,cur,rfl,h2.ks,h4⟩,h3⟩
theorem ny.in_{l:Lay}{b:aJ}{k:Nat}{cl du:Int}{v:Value}{w:World}{N:Nat}(hbk:bW N l b w)(h:ny l (b.wit k cl du) v w):qy l (b.wit k cl du) v w:=by
 obtain⟨g,c,cur,e,h1,h2⟩:=h;exact⟨g,c,e,ak _,hbk.cs.mono hbk.hN,hbk.ts.mono hbk.hN,h1,hbk.ps.mono hbk.hN⟩
theorem qy.fee{l:Lay}{b:aJ}{v:Value}{w:World}(h:qy l b v w)(hR:b.Right){k:Nat}(hk:k<b.cs.length){n:Int}(h0:0≤n)(h1:n≤9999) :
  CallsIn Fz 0 Tryz.prog 23 #[v,.int .i64 k,.int .i64 n] w λe w'=>e=.returned (.tuple #[.int .i64 (b.to.fee k n).1,.bool (b.to.fee k n).2,.int .i64 0])∧Below w.heap.size w w':=by
 obtain⟨g,c,e,hb⟩:=h;have:=Ku (hb.to hR) hR.full (c:=k) (by simpa[aJ.to]using hk) h0 h1;rw[aJ.MX]at this;rw[e];exact this
theorem qy.lasts{l:Lay}{b:aJ}{k:Nat}{c1 d1 c2 d2:Int}{v1 v2:Value}{w:World}(h1:qy l (b.wit k c1 d1) v1 w)(h2:qy l (b.wit k c2 d2) v2 w)(hkd:bU w)(hR:b.Right)(hst:∀p∈b.ps,p.kind≠2)(hk:k<b.cs.length)(q1:0≤c1∧c1≤45)(q2:0≤c2∧c2≤45)(hd1:0≤d1∧d1≤9999)(hd2:0≤d2∧d2≤9999)(hc:c2≤c1)(hd:d1≤d2) :
  CallsIn Fz 0 Tryz.prog 13 #[v1,v2] w λe w'=>e=.returned (.bool true)∧Below w.heap.size w w':=by
 obtain⟨ga,ca,e1,hb1⟩:=h1;obtain⟨gb,cb,e2,hb2⟩:=h2;have hR1:=kT hR hst hk q1 hd1;have hR2:=kT hR hst hk q2 hd2;have:=Td (hb1.to hR1) (hb2.to hR2) hR1.full hR2.full hkd (by simp[aJ.to,vH]) (Qp hR hst hk q1 q2 hd1 hd2 hc hd);rw[aJ.MX,aJ.MX]at this;rw[e1,e2];exact this
theorem Lst.asc{n:Nat}{xs:List Int}(h:Lst n xs){i:Nat}:∀{j:Nat} (hi:i<xs.length) (hj:j<xs.length),i<j→xs[i]<xs[j]
 |j+1,hi,hj,hij=>by
  have h1:=h.up (j+1) (by omega) hj;simp only[Nat.add_sub_cancel,List.getD_eq_getElem?_getD,List.getElem?_eq_getElem hj,List.getElem?_eq_getElem (show j<xs.length by omega),Option.getD_some]at h1;rcases(show i<j∨i=j by omega)with q|rfl
  ·have:=Lst.asc h hi (show j<xs.length by omega) q;omega
  ·exact h1
section
variable [Keep] {ops:Array Oper} {W:Wmr} {gl:List Tmp} {i:Nat} {rest:List Nat} {a:Act} {R:Act→Prop} {o:Oper}
theorem x9(ho:ops[i]?=some o)(hw:∀x,Region.wanted o (yielded ops (Act.bQ a gl x).tmps)=true)(hd:o.dst=none)
  (hs:∀D x w S,jZ ops D i→W D x w S→∀K Q,(∀w',W (bK D i) x w' S→K (Act.bQ a gl x) w')→o.wpIn Fz 0 Tryz.prog (Act.bQ a gl x) w K Q) (hr:kV Tryz.prog Inside ops W gl rest a R):kV Tryz.prog Inside ops W gl (i::rest) a R:=by
 refine Ip undef ho hw (λg _=>by rw[hd];intro e;cases e) (λD x w S hm hW K Q hK=>hs D x w S hm hW K Q λw' hw'=>?_) ?_
 ·have:=hK w' hw';rwa[show(Act.bQ a gl x).put o.dst undef=Act.bQ a gl x by rw[hd];rfl]at this
 ·rwa[show a.put o.dst undef=a by rw[hd];rfl]
end
end
