/- The moves that are void: inside the fence. PRINTED BY A PROGRAM (u1.py). -/
import Derived.Test.YtccjdkghgbbliaaGreatDoorA15
import Derived.Test.YtccjdkghgbbliaaGreatDoorA17
set_option linter.all false
namespace Go.Proofs.YtccjdkghgbbliaaGreatDoor
section
set_option maxHeartbeats 1000000
set_option maxRecDepth 10000
open Go Go.RowKit Lift
theorem qU{w:World}{N M:Nat}{e:TypeId}{k n:Nat}{v:Value}{xs:List Value}(h:w.ownsRow N e k v n xs)(hM:M≤N):w.ownsRow M e k v n xs:=
 ⟨h.1,h.2.imp id λ⟨g,cap,cur,h1,h2,h3⟩=>⟨g,cap,cur,h1,Nat.le_trans hM h2,h3⟩⟩
theorem pU{w:World}{N:Nat}{e:TypeId}{k n:Nat}{v:Value}{xs:List Value}(h:w.ownsRow N e k v n xs):∀g,v.ownBlock=some g→N≤g:=λg hg=>by
 rcases h.2 with⟨rfl,_⟩|⟨g',cap,cur,rfl,h1,_⟩
 ·cases hg
 ·cases hg;exact h1
set_option maxHeartbeats 32000000 in
theorem QZ{N:Nat}{l:Lay}{b:Book}{w:World}(hbk:dZ N l b w)(hf:Full b)(hkd:bK w)(hvn:(b.after 9999).bV.length<20) :
  CallsIn Fz 0 Tryz.prog 34 #[l.val b] w λe w'=>∃v,e=.returned (.tuple #[v,.int .i64 0])∧w'.ownsRow w.heap.size 3 1 v (b.after 9999).bV.length ((jT (b.after 9999).bV).map λx=>.int .i64 x)∧Below w.heap.size w w':=by
 have hw0:=hkd.lt;have hb1:Below w.heap.size w (w.alloc (.cells (l.arr b) 27)):=(Below.refl _ w).alloc (ak _) _;have hA1:=Blk.new w (l.arr b) 27;have hbk1:=hbk.top.below hb1;have hafter:=λw' (h:Below w.heap.size w w')=>oW (m:=0) (nU (hbk.top.below h) hf.v (hkd.below h hw0) 9999);have jG:=λw' (h:Below w.heap.size w w')=>kV (hbk.top.below h) hf (day:=0) (by decide) (by decide);unfold Lay.val at *;have a0:=hA1.cell 0;have a1:=hA1.cell 1;have a2:=hA1.cell 2;have a3:=hA1.cell 3;simp at a0 a1 a2 a3;gi_enter Tryz.func34,Tryz.ntmps34
 gi_wp2_with (first
  |(gi_at_call 45;refine(jG _ hb1).mono ?_;rintro e w2 ⟨rfl,hb2⟩;have HB:=(hb1.trans (hb2.mono hb1.size)).alloc (by have:=hb1.size;have:=hb2.size;omega) (.cells (l.arr b) 123))
  |(gi_at_call 47;refine(hafter _ HB).mono ?_;rintro e w3 ⟨T,Sb,rfl,H,hb3⟩;obtain⟨vv,t14,hv14,Kv,hvS,hvF⟩:=H.c14;have ltT:=H.ltT;simp only[Tl.bare]at t14 ltT Kv hvS)
  |(gi_at_call 81;refine(vN hv14 hvn).mono ?_;rintro e w4 ⟨rfl,ho4,hg4⟩))
 (try simp only[Exit.inBlock,Exit.then])
 refine bodyPost_ret (results_tmp2 rfl _ _ _) rfl ?_;have hsz:=HB.size;exact⟨_,rfl,qU ho4 hsz,(HB.trans (hb3.mono hsz)).grown hg4 (by have:=hb3.size;omega) (λk hk=>Nat.le_trans hsz (pU ho4 k hk))⟩
end
section
set_option maxHeartbeats 1000000
set_option maxRecDepth 10000
open Go Go.RowKit Go.Sort Lift
theorem AQ(a b c d:Int)(w:World):CallsIn Fz 0 Tryz.prog 149 #[.agg #[.int .i64 a,.int .i64 b],.agg #[.int .i64 c,.int .i64 d]] w λe w'=>e=.returned (.int .i64 (KN b d))∧Below w.heap.size w w':=by
 gi_enter Tryz.func149,Tryz.ntmps149
 gi_wp2_with (gi_at_call 82;refine(uN _ _ _).mono ?_;rintro e w3 ⟨rfl,rfl⟩)
 go_ret;exact⟨rfl,((Below.refl _ w).alloc (ak _) _).alloc (by simp) _⟩
def ltL(x y:Int×Int):Bool:=decide (KN x.2 y.2<0)
structure gG (w0:World) (B:Nat) (cs0:Array Value) (n:Nat) (dk:Array (Int×Int)) (w:World):Prop where
 size:dk.size=n
 row:∃ck:Array Value,Blk w B 193 ck∧ck.size=cs0.size∧(∀i,i<n→ck[i * 2]?=some (.int .i64 dk[i]!.1)∧ck[i * 2+1]?=some (.int .i64 dk[i]!.2))∧∀i,n * 2≤i→ck[i]?=cs0[i]?
 gb:w0.grownBy w (some B)
section
variable {w0 w w':World} {B n:Nat} {cs0:Array Value} {dk:Array (Int×Int)}
theorem gG.mg(h:gG w0 B cs0 n dk w)(d:Nat):gG w0 B cs0 n dk { w with drawn:=d }:=⟨h.size,h.row,⟨h.gb.os,h.gb.tape,h.gb.output,h.gb.size,h.gb.block⟩⟩
theorem gG.drew(h:gG w0 B cs0 n dk w):gG w0 B cs0 n dk w.drew:=⟨h.size,h.row,⟨h.gb.os,h.gb.tape,h.gb.output,h.gb.size,h.gb.block⟩⟩
theorem gG.below(h:gG w0 B cs0 n dk w)(hb:Below w.heap.size w w'):gG w0 B cs0 n dk w':=by
 obtain⟨ck,h1,h2,h3,h4⟩:=h.row;exact⟨h.size,⟨ck,h1.below hb,h2,h3,h4⟩,gbt h.gb ⟨hb.os,hb.tape,hb.output,hb.size,λk hk _=>hb.block k hk⟩⟩
theorem gG.cell(h:gG w0 B cs0 n dk w){i:Nat}(hi:i<n):w.cell? ⟨B,i * 2,none⟩=some (.int .i64 dk[i]!.1)∧w.cell? ⟨B,i * 2+1,none⟩=some (.int .i64 dk[i]!.2):=by
 obtain⟨ck,h1,_,h3,_⟩:=h.row;rw[h1.cell,h1.cell];exact h3 i hi
theorem gG.frozen(h:gG w0 B cs0 n dk w)(i:Nat):w.frozen? ⟨B,i,none⟩=false:=by
 obtain⟨ck,h1,_⟩:=h.row;exact h1.frozen i
theorem gG.lt(h:gG w0 B cs0 n dk w):B<w.heap.size:=by
 obtain⟨ck,h1,_⟩:=h.row;exact h1.lt
theorem gG.swap(h:gG w0 B cs0 n dk w){j:Nat}(hj:j+1<n){a1 a2 b1 b2:Value}(ha1:a1=.int .i64 dk[j]!.1)(ha2:a2=.int .i64 dk[j]!.2)(hb1:b1=.int .i64 dk[j+1]!.1)(hb2:b2=.int .i64 dk[j+1]!.2) :
  gG w0 B cs0 n (swp dk (j+1) j) ((((w.setCell ⟨B,(j+1) * 2,none⟩ a1).setCell ⟨B,(j+1) * 2+1,none⟩ a2).setCell ⟨B,j * 2,none⟩ b1).setCell ⟨B,j * 2+1,none⟩ b2):=by
 obtain⟨ck,h1,h2,h3,h4⟩:=h.row;subst ha1 ha2 hb1 hb2;have hs:=h.size;have hjs:(j+1) * 2+1<ck.size:=by
  have:=(h3 (j+1) hj).2;exact(Array.getElem?_eq_some_iff.1 this).1
 have key:∀i,i<n→(swp dk (j+1) j)[i]! = if i=j then dk[j+1]! else if i=j+1 then dk[j]! else dk[i]! := λi hi=>by
  by_cases e:i=j
  ·subst e;rw[if_pos rfl,swp_right _ _ _ (by omega)]
  ·rw[if_neg e];by_cases e2:i=j+1
   ·subst e2;rw[if_pos rfl,swp_left _ _ _ (by omega) (by omega)]
   ·rw[if_neg e2,swp_other _ _ _ _ e2 e]
 refine⟨by rw[size_swp];exact hs,⟨_,(((h1.vJ _ _).vJ _ _).vJ _ _).vJ _ _,by simpa using h2,λi hi=>?_,λi hi=>?_⟩,qH (qH (qH (qH h.gb _ _) _ _) _ _) _ _⟩
 ·rw[key i hi];by_cases e:i=j
  ·subst e;rw[if_pos rfl];constructor
   ·rw[aA (by omega),Array.getElem?_setIfInBounds_self_of_lt (by simp;omega)]
   ·rw[Array.getElem?_setIfInBounds_self_of_lt (by simp;omega)]
  ·rw[if_neg e];by_cases e2:i=j+1
   ·subst e2;rw[if_pos rfl];constructor
    ·rw[aA (by omega),aA (by omega),aA (by omega),Array.getElem?_setIfInBounds_self_of_lt (by omega)]
    ·rw[aA (by omega),aA (by omega),Array.getElem?_setIfInBounds_self_of_lt (by simp;omega)]
   ·rw[if_neg e2];constructor
    ·rw[aA (by omega),aA (by omega),aA (by omega),aA (by omega)];exact(h3 i hi).1
    ·rw[aA (by omega),aA (by omega),aA (by omega),aA (by omega)];exact(h3 i hi).2
 ·rw[aA (by omega),aA (by omega),aA (by omega),aA (by omega)];exact h4 i hi
end
set_option maxHeartbeats 16000000 in
set_option maxRecDepth 1000000 in
theorem Tz(B cap n:Nat)(d:Array (Int×Int))(cs:Array Value)(w:World)(h:gG w B cs n d w)(hn:n≤100) :
  CallsIn Fz 0 Tryz.prog 275 #[.slice (some ⟨B,0,none⟩) n cap,.int .i64 0,.int .i64 n,.func (.func 149) #[] #[]] w λe w'=>e=.returned (.tuple #[])∧gG w B cs n (Sort.insertionSort ltL d 0 n) w':=by
 gi_enter Tryz.func275,Tryz.ntmps275
 gi_wp2;gi_loopw [8] (λvi wr=>∃(i:Nat) (dk:Array (Int×Int)),vi=.int .i64 i∧0<i∧i≤n+1∧gG w B cs n dk wr∧Hid (insOuter ltL 0 n i dk=insOuter ltL 0 n 1 d)) (λi _=>n+1-(intOf i).toNat)
 case atStart=>exact⟨1,d,by go_num,by omega,by omega,h,rfl⟩
 case round=>
  obtain⟨i,dk,rfl,hai,hib,HS,HO⟩:=hrel;by_cases hlt:i<n
  ·have hltz:(i:Int)<(n:Int):=by omega
   gi_wp2;gi_loopw [9] (λvj wr2=>∃(j:Nat) (dj:Array (Int×Int)),vj=.int .i64 j∧j≤i∧gG w B cs n dj wr2∧Hid (insInner ltL 0 j dj=insInner ltL 0 i dk)) (λj _=>(intOf j).toNat)
   case atStart=>exact⟨i,dk,rfl,ak _,HS,rfl⟩
   case round=>
    obtain⟨j,dj,rfl,hji,HJ,HI⟩:=hrel;have OUT:Hid ((j=0∨ltL dj[j]! dj[j-1]! = false)→insOuter ltL 0 n (i+1) dj=insOuter ltL 0 n 1 d):=λhs=>by
     have h1:=HO.out;have h2:=HI.out;rw[← h1,insOuter_go ltL 0 n i dk hlt,← h2,insInner_stop ltL 0 j dj (hs.imp (λh=>by omega) id)]
    have hjn:j<n:=by omega
    by_cases hj0:0<j
    ·obtain⟨jp,rfl⟩:∃jp,j=jp+1:=⟨j - 1,by omega⟩
     have hja:(0:Int)<(jp:Int)+1:=by omega
     have jz:(jp:Int)+1<(n:Int):=by omega
     have jz1:(jp:Int)<(n:Int):=by omega
     have hwp:IntKind.i64.wrap (jp:Int)=(jp:Int):=by rw[IntKind.wrap_i64];omega
     have p0:(0:Int)≤(jp:Int)+1:=by omega
     have e0:((jp:Int)+1).toNat=jp+1:=by omega
     obtain⟨⟨xj1,xj2⟩,hxj⟩:∃x,dj[jp+1]! = x:=⟨_,rfl⟩
     obtain⟨⟨xp1,xp2⟩,hxp⟩:∃x,dj[jp]! = x:=⟨_,rfl⟩
     by_cases hlv:KN xj2 xp2<0
     ·gi_wp2_with fail
      refine bJ (gG w B cs n dj) rfl mixed (by kernel_rfl) (λd=>HJ.mg d) ?_;simp only[aG,aC,aF,Nat.reduceAdd,Nat.zero_add,List.range,List.range.loop]
      iterate 8
       refine aI rfl rfl (by decide) ?_;apply ah;refine⟨λT w' hw' K Q hK=>?_,?_⟩
       ·gi_wp2;exact hw'
       apply ah;refine⟨rfl,?_⟩
      refine aS rfl rfl (by kernel_rfl) (.inr rfl) ?_;apply ah;refine⟨λw' hw' K Q hK=>?_,?_⟩
      ·have cj:=hw'.cell hjn;have cp:=hw'.cell (show jp<n by omega);have hlt2:=hw'.lt;rw[hxj]at cj;rw[hxp]at cp;obtain⟨cj,cj2⟩:=cj;obtain⟨cp,cp2⟩:=cp;gi_wp2
       try exact hw'
      iterate 4
       apply ah;refine⟨rfl,?_⟩;refine aI rfl rfl (by decide) ?_;apply ah;refine⟨λT w' hw' K Q hK=>?_,?_⟩
       ·gi_wp2;exact hw'
      apply ah;refine⟨rfl,?_⟩;refine aS rfl rfl (by kernel_rfl) (.inr rfl) ?_;apply ah;refine⟨λw' hw' K Q hK=>?_,?_⟩
      ·have cj:=hw'.cell hjn;have cp:=hw'.cell (show jp<n by omega);have hlt2:=hw'.lt;rw[hxj]at cj;rw[hxp]at cp;obtain⟨cj,cj2⟩:=cj;obtain⟨cp,cp2⟩:=cp;gi_wp2
       try exact hw'
      apply ah;refine⟨rfl,?_⟩;refine aS rfl rfl (by kernel_rfl) (.inr rfl) ?_;apply ah;refine⟨λw' hw' K Q hK=>?_,?_⟩
      ·gi_wp2_with (gi_at_call 149;refine(AQ _ _ _ _ _).mono ?_;rintro e w3 ⟨rfl,hb⟩)
       exact hw'.below hb
      iterate 2
       apply ah;refine⟨rfl,?_⟩;refine aI rfl rfl (by decide) ?_;apply ah;refine⟨λT w' hw' K Q hK=>?_,?_⟩
       ·gi_wp2;exact hw'
      apply ah;refine⟨rfl,?_⟩;intro w2 H2;clear HJ
      gi_wp2_with fail
      have cj:=H2.cell hjn;have cp:=H2.cell (show jp<n by omega);have fj:=H2.frozen ((jp+1) * 2);have fj2:=H2.frozen ((jp+1) * 2+1);have fp:=H2.frozen (jp * 2);have fp2:=H2.frozen (jp * 2+1);have hlt2:=H2.lt;rw[hxj]at cj;rw[hxp]at cp;obtain⟨cj,cj2⟩:=cj;obtain⟨cp,cp2⟩:=cp
      gi_big_region
      all_goals gi_wp2
      refine⟨⟨jp,swp dj (jp+1) jp,rfl,by omega,(H2.swap hjn (by rw[hxp]) (by rw[hxp]) (by rw[hxj]) (by rw[hxj])).drew,?_⟩,by simp[intOf]⟩
      show _=_
      have:=insInner_go ltL 0 (jp+1) dj (by omega) (by simp only[Nat.add_sub_cancel];rw[hxj,hxp];exact decide_eq_true hlv);simp only[Nat.add_sub_cancel]at this;rw[← HI.out,this]
     ·gi_wp2_with fail
      refine bJ (gG w B cs n dj) rfl mixed (by kernel_rfl) (λd=>HJ.mg d) ?_;simp only[aG,aC,aF,Nat.reduceAdd,Nat.zero_add,List.range,List.range.loop]
      iterate 8
       refine aI rfl rfl (by decide) ?_;apply ah;refine⟨λT w' hw' K Q hK=>?_,?_⟩
       ·gi_wp2;exact hw'
       apply ah;refine⟨rfl,?_⟩
      refine aS rfl rfl (by kernel_rfl) (.inr rfl) ?_;apply ah;refine⟨λw' hw' K Q hK=>?_,?_⟩
      ·have cj:=hw'.cell hjn;have cp:=hw'.cell (show jp<n by omega);have hlt2:=hw'.lt;rw[hxj]at cj;rw[hxp]at cp;obtain⟨cj,cj2⟩:=cj;obtain⟨cp,cp2⟩:=cp;gi_wp2
       try exact hw'
      iterate 4
       apply ah;refine⟨rfl,?_⟩;refine aI rfl rfl (by decide) ?_;apply ah;refine⟨λT w' hw' K Q hK=>?_,?_⟩
       ·gi_wp2;exact hw'
      apply ah;refine⟨rfl,?_⟩;refine aS rfl rfl (by kernel_rfl) (.inr rfl) ?_;apply ah;refine⟨λw' hw' K Q hK=>?_,?_⟩
      ·have cj:=hw'.cell hjn;have cp:=hw'.cell (show jp<n by omega);have hlt2:=hw'.lt;rw[hxj]at cj;rw[hxp]at cp;obtain⟨cj,cj2⟩:=cj;obtain⟨cp,cp2⟩:=cp;gi_wp2
       try exact hw'
      apply ah;refine⟨rfl,?_⟩;refine aS rfl rfl (by kernel_rfl) (.inr rfl) ?_;apply ah;refine⟨λw' hw' K Q hK=>?_,?_⟩
      ·gi_wp2_with (gi_at_call 149;refine(AQ _ _ _ _ _).mono ?_;rintro e w3 ⟨rfl,hb⟩)
       exact hw'.below hb
      iterate 2
       apply ah;refine⟨rfl,?_⟩;refine aI rfl rfl (by decide) ?_;apply ah;refine⟨λT w' hw' K Q hK=>?_,?_⟩
       ·gi_wp2;exact hw'
      apply ah;refine⟨rfl,?_⟩;intro w2 H2;gi_wp2;go_roundw
      case rel=>exact⟨i+1,dj,by go_num,by omega,by omega,H2,OUT.out (.inr (by simp only[Nat.add_sub_cancel];rw[hxj,hxp];exact decide_eq_false (by simp only;omega)))⟩
      case measure=>simp[intOf];omega
    ·obtain rfl:j=0:=by omega
     have hd:decide (((0:Nat):Int) > (0:Int))=false:=by decide
     gi_wp2_with fail
     refine bJ (gG w B cs n dj) rfl mixed (by kernel_rfl) (λd=>HJ.mg d) ?_;simp only[aG,aC,aF,Nat.reduceAdd,Nat.zero_add,List.range,List.range.loop]
     iterate 4
      refine aI rfl rfl (by decide) ?_;apply ah;refine⟨λT w' hw' K Q hK=>?_,?_⟩
      ·gi_wp2;exact hw'
      apply ah;refine⟨rfl,?_⟩
     refine bM (d:=22) rfl rfl rfl (by decide) (λw f hf=>by cases hf) ?_;simp only[Act.put,aj,ay,au];refine bM (d:=23) rfl rfl rfl (by decide) (λw f hf=>by cases hf) ?_;simp only[Act.put,aj,ay,au];refine bM (d:=24) rfl rfl rfl (by decide) (λw f hf=>by cases hf) ?_;simp only[Act.put,aj,ay,au];refine bM (d:=25) rfl rfl rfl (by decide) (λw f hf=>by cases hf) ?_;simp only[Act.put,aj,ay,au];refine bM (d:=26) rfl rfl rfl (by decide) (λw f hf=>by cases hf) ?_;simp only[Act.put,aj,ay,au];refine bM (d:=27) rfl rfl rfl (by decide) (λw f hf=>by cases hf) ?_;simp only[Act.put,aj,ay,au];refine bM (d:=28) rfl rfl rfl (by decide) (λw f hf=>by cases hf) ?_;simp only[Act.put,aj,ay,au];refine bM (d:=29) rfl rfl rfl (by decide) (λw f hf=>by cases hf) ?_;simp only[Act.put,aj,ay,au];refine bM (d:=30) rfl rfl rfl (by decide) (λw f hf=>by cases hf) ?_;simp only[Act.put,aj,ay,au];refine bM (d:=31) rfl rfl rfl (by decide) (λw f hf=>by cases hf) ?_;simp only[Act.put,aj,ay,au];refine bM (d:=32) rfl rfl rfl (by decide) (λw f hf=>by rw[x9 rfl rfl]at hf;cases hf) ?_;simp only[Act.put,aj,ay,au];refine bM (d:=33) rfl rfl rfl (by decide) (λw f hf=>by cases hf) ?_;simp only[Act.put,aj,ay,au];refine aI rfl rfl (by decide) ?_;apply ah;refine⟨λT w' hw' K Q hK=>?_,?_⟩
     ·gi_wp2;exact hw'
     apply ah;refine⟨rfl,?_⟩;intro w2 H2;gi_wp2;go_roundw
     case rel=>exact⟨i+1,dj,by go_num,by omega,by omega,H2,OUT.out (by simp)⟩
     case measure=>simp[intOf];omega
  ·gi_wp2;go_end0;refine⟨rfl,?_⟩;have:=HO.out;rw[insOuter,if_neg hlt]at this;unfold Sort.insertionSort;rw[← this];exact HS
end
section
set_option maxHeartbeats 1000000
set_option maxRecDepth 10000
open Go Go.RowKit Go.Sort Lift
theorem JY(B cap n:Nat)(d:Array (Int×Int))(cs:Array Value)(w:World)(h:gG w B cs n d w)(hn:n<20) :
  CallsIn Fz 0 Tryz.prog 260 #[.slice (some ⟨B,0,none⟩) n cap,.int .i64 n,.func (.func 149) #[] #[]] w λe w'=>e=.returned (.tuple #[])∧gG w B cs n (Sort.insertionSort ltL d 0 n) w':=by
 have hi:=Tz B cap n d cs w h (by omega);have h1:¬((20:Int)≤n):=by omega
 have h2:¬((20:Int)<n):=by omega
 gi_enter Tryz.func260,Tryz.ntmps260
 gi_wp2;refine wpIn_loop_rounds 1 ?_;rw[roundsIn_succ]
 gi_wp2_with (gi_at_call 275;refine hi.mono ?_;rintro e w3 ⟨rfl,H3⟩)
 refine wpIn_loop_rounds 1 ?_;rw[roundsIn_succ];gi_wp2;go_end0;exact⟨rfl,H3⟩
theorem TA(w:World):CallsIn Fz 0 Tryz.prog 275 #[.slice none 0 0,.int .i64 0,.int .i64 0,.func (.func 149) #[] #[]] w λe w'=>e=.returned (.tuple #[])∧w'=w:=by
 gi_enter Tryz.func275,Tryz.ntmps275
 gi_wp2;refine wpIn_loop_rounds 1 ?_;rw[roundsIn_succ];gi_wp2;go_end0;exact⟨rfl,rfl⟩
theorem JZ(w:World):CallsIn Fz 0 Tryz.prog 260 #[.slice none 0 0,.int .i64 0,.func (.func 149) #[] #[]] w λe w'=>e=.returned (.tuple #[])∧w'=w:=by
 gi_enter Tryz.func260,Tryz.ntmps260
 gi_wp2;refine wpIn_loop_rounds 1 ?_;rw[roundsIn_succ]
 gi_wp2_with (gi_at_call 275;refine(TA _).mono ?_;rintro e w3 ⟨rfl,rfl⟩)
 refine wpIn_loop_rounds 1 ?_;rw[roundsIn_succ];gi_wp2;go_end0;exact⟨rfl,rfl⟩
theorem zn{w:World}(v:Value)(R:World→Prop)(n:Nat)(hv:∃a c,v=.slice a n c)(h:CallsIn Fz 0 Tryz.prog 260 #[v,.int .i64 n,.func (.func 149) #[] #[]] w λe w'=>e=.returned (.tuple #[])∧R w') :
  CallsIn Fz 0 Tryz.prog 223 #[v,.func (.func 149) #[] #[]] w λe w'=>e=.returned (.tuple #[])∧R w':=by
 obtain⟨a,c,rfl⟩:=hv;gi_enter Tryz.func223,Tryz.ntmps223
 gi_wp2_with (gi_at_call 260;refine h.mono ?_;rintro e w3 ⟨rfl,H3⟩)
 go_end0;exact⟨rfl,H3⟩
theorem yR{w:World}(v:Value)(R:World→Prop)(n:Nat)(hv:∃a c,v=.slice a n c)(h:CallsIn Fz 0 Tryz.prog 260 #[v,.int .i64 n,.func (.func 149) #[] #[]] w λe w'=>e=.returned (.tuple #[])∧R w') :
  CallsIn Fz 0 Tryz.prog 148 #[v,.func (.func 149) #[] #[]] w λe w'=>e=.returned v∧R w':=by
 have hs:=zn v R n hv h;gi_enter Tryz.func148,Tryz.ntmps148
 gi_wp2_with (gi_at_call 223;refine hs.mono ?_;rintro e w3 ⟨rfl,H3⟩)
 go_ret;exact⟨rfl,H3⟩
def sortL(xs:List (Int×Int)):List (Int×Int):=(Sort.insertionSort ltL xs.toArray 0 xs.length).toList
theorem iU(xs:List (Int×Int)):(sortL xs).length=xs.length:=by
 unfold sortL;rw[Array.length_toList,gX];simp
def dV(x:Int×Int):List Value:=[.int .i64 x.1,.int .i64 x.2]
theorem Aj(xs:List (Int×Int)):(xs.flatMap dV).length=xs.length * 2∧∀i,(xs.flatMap dV)[i * 2]?=(xs[i]?).map (λx=>Value.int .i64 x.1)∧(xs.flatMap dV)[i * 2+1]?=(xs[i]?).map (λx=>Value.int .i64 x.2):=by
 induction xs with
 |nil=>exact⟨rfl,λi=>⟨rfl,rfl⟩⟩
 |cons a l ih=>
  obtain⟨h1,h2⟩:=ih;have e:(a::l).flatMap dV=.int .i64 a.1::.int .i64 a.2::l.flatMap dV:=rfl;refine⟨by rw[e];simp only[aC,h1];omega,λi=>?_⟩;rw[e];cases i with
  |zero=>exact⟨rfl,rfl⟩
  |succ i=>
   have:=h2 i;rw[show(i+1) * 2=i * 2+1+1 by omega];simp only[List.getElem?_cons_succ];exact this
theorem JX{N:Nat}{v:Value}{xs:List (Int×Int)}{w:World}(h:w.ownsRow N 193 2 v xs.length (xs.flatMap dV))(hn:xs.length<20) :
  CallsIn Fz 0 Tryz.prog 148 #[v,.func (.func 149) #[] #[]] w λe w'=>e=.returned v∧w'.ownsRow N 193 2 v xs.length ((sortL xs).flatMap dV)∧w.grownBy w' v.ownBlock:=by
 obtain⟨hl,h⟩:=h;rcases h with⟨rfl,h0⟩|⟨g,cap,cur,rfl,h1,h2,h3,h4,h5,h6⟩
 ·obtain rfl:=List.length_eq_zero_iff.1 h0;refine(yR (.slice none 0 0) (λw'=>w'=w) 0 ⟨_,_,rfl⟩ (JZ w)).mono ?_;rintro e w' ⟨rfl,rfl⟩;exact⟨rfl,⟨by rw[(Aj _).1,iU],.inl ⟨rfl,rfl⟩⟩,⟨rfl,rfl,rfl,ak _,λ_ _ _=>rfl⟩⟩
 ·have hS:gG w g cur xs.length xs.toArray w:=by
   refine⟨by simp,⟨cur,h2,rfl,λi hi=>?_,λ_ _=>rfl⟩,⟨rfl,rfl,rfl,ak _,λ_ _ _=>rfl⟩⟩;have e1:(cur.toList.take (xs.length * 2))[i * 2]?=(xs.flatMap dV)[i * 2]?:=by rw[h6]
   have e2:(cur.toList.take (xs.length * 2))[i * 2+1]?=(xs.flatMap dV)[i * 2+1]?:=by rw[h6]
   rw[List.getElem?_take,if_pos (by omega),((Aj xs).2 i).1]at e1;rw[List.getElem?_take,if_pos (by omega),((Aj xs).2 i).2]at e2;simp[hi]at e1 e2 ⊢;exact⟨e1,e2⟩
  refine(yR _ _ xs.length ⟨_,_,rfl⟩ (JY g cap xs.length xs.toArray cur w hS hn)).mono ?_;rintro e w' ⟨rfl,H⟩;obtain⟨ck,k1,k2,k3,k4⟩:=H.row;have hz:(Sort.insertionSort ltL xs.toArray 0 xs.length).size=xs.length:=by rw[gX];simp
  refine⟨rfl,⟨by rw[(Aj _).1,iU],.inr ⟨g,cap,ck,rfl,h1,k1,h3,h4,by omega,?_⟩⟩,H.gb⟩;apply List.ext_getElem?;intro i;rw[List.getElem?_take];by_cases hi:i<xs.length * 2
  ·rw[if_pos hi];have hq:i / 2<xs.length:=by omega
   have k:=k3 (i / 2) hq;have f:=(Aj (sortL xs)).2 (i / 2);have hs:(sortL xs)[i / 2]?=some (Sort.insertionSort ltL xs.toArray 0 xs.length)[i / 2]! := by simp[sortL,hz,hq]
   rw[hs]at f;rcases(show i=i / 2 * 2∨i=i / 2 * 2+1 by omega)with e|e
   ·rw[e,f.1,Array.getElem?_toList];exact k.1
   ·rw[e,f.2,Array.getElem?_toList];exact k.2
  ·rw[if_neg hi,List.getElem?_eq_none];rw[(Aj _).1,iU];omega
end
