/- The library's stable sort at up to twenty numbers: inside the fence. -/
import Derived.Sort.WalkA
import Derived.LoopNIn
import Derived.Test.YtccjdkghgbbliaaGreatDoorA07
set_option linter.all false
namespace Go.Proofs.YtccjdkghgbbliaaGreatDoor
section
set_option maxHeartbeats 1000000
set_option maxRecDepth 10000
open Go Go.RowKit Go.Sort Lift
theorem AL(x:Int)(w:World):CallsIn Fz 0 Tryz.prog 147 #[.int .i64 x] w λe w'=>e=.returned (.bool false)∧w'=w:=by
 gi_enter Tryz.func147,Tryz.ntmps147
 gi_wp2;go_ret;exact⟨by simp,rfl⟩
def KN(x y:Int):Int:=if x<y then -1 else if y<x then 1 else 0
theorem uN(x y:Int)(w:World):CallsIn Fz 0 Tryz.prog 82 #[.int .i64 x,.int .i64 y] w λe w'=>e=.returned (.int .i64 (KN x y))∧w'=w:=by
 unfold KN;by_cases a:x<y
 ·gi_enter Tryz.func82,Tryz.ntmps82
  gi_wp2_with (gi_at_call 147;refine(AL _ _).mono ?_;rintro e w3 ⟨rfl,rfl⟩)
  go_ret;exact⟨by simp[a],rfl⟩
 ·by_cases b:y<x
  ·gi_enter Tryz.func82,Tryz.ntmps82
   gi_wp2_with (gi_at_call 147;refine(AL _ _).mono ?_;rintro e w3 ⟨rfl,rfl⟩)
   go_ret;exact⟨by simp[a,b],rfl⟩
  ·gi_enter Tryz.func82,Tryz.ntmps82
   gi_wp2_with (gi_at_call 147;refine(AL _ _).mono ?_;rintro e w3 ⟨rfl,rfl⟩)
   go_ret;exact⟨by simp[a,b],rfl⟩
theorem gbt{A B C:World}{row:Option Nat}(h:A.grownBy B row)(k:B.grownBy C row):A.grownBy C row:=
 ⟨k.os.trans h.os,k.tape.trans h.tape,k.output.trans h.output,Nat.le_trans h.size k.size,λi hi hr=>(k.block i (aB hi h.size) hr).trans (h.block i hi hr)⟩
theorem qH{A W:World}{B:Nat}(h:A.grownBy W (some B))(j:Nat)(v:Value):A.grownBy (W.setCell ⟨B,j,none⟩ v) (some B):=
 ⟨h.os,h.tape,h.output,by simpa[World.setCell]using h.size,λi hi hr=>(Below.heap_setCell W ⟨B,j,none⟩ v i (λe=>hr (by rw[e]))).trans (h.block i hi hr)⟩
theorem Blk.vJ{w:World}{B:Nat}{ty:TypeId}{cs:Array Value}(h:Blk w B ty cs)(j:Nat)(v:Value):Blk (w.setCell ⟨B,j,none⟩ v) B ty (cs.setIfInBounds j v):=gK h j v
def ltI(x y:Int):Bool:=decide (KN x y<0)
structure SortI (w0:World) (B:Nat) (cs0:Array Value) (n:Nat) (dk:Array Int) (w:World):Prop where
 size:dk.size=n
 row:∃ck:Array Value,Blk w B 3 ck∧ck.size=cs0.size∧(∀i,i<n→ck[i]?=some (.int .i64 dk[i]!))∧∀i,n≤i→ck[i]?=cs0[i]?
 gb:w0.grownBy w (some B)
section
variable {w0 w:World} {B n:Nat} {cs0:Array Value} {dk:Array Int}
theorem SortI.drewN(h:SortI w0 B cs0 n dk w)(q:Nat):SortI w0 B cs0 n dk (w.drewN q):=⟨h.size,h.row,⟨h.gb.os,h.gb.tape,h.gb.output,h.gb.size,h.gb.block⟩⟩
theorem SortI.drew(h:SortI w0 B cs0 n dk w):SortI w0 B cs0 n dk w.drew:=⟨h.size,h.row,⟨h.gb.os,h.gb.tape,h.gb.output,h.gb.size,h.gb.block⟩⟩
theorem SortI.mg(h:SortI w0 B cs0 n dk w)(d:Nat):SortI w0 B cs0 n dk { w with drawn:=d }:=⟨h.size,h.row,⟨h.gb.os,h.gb.tape,h.gb.output,h.gb.size,h.gb.block⟩⟩
theorem SortI.cell(h:SortI w0 B cs0 n dk w){i:Nat}(hi:i<n):w.cell? ⟨B,i,none⟩=some (.int .i64 dk[i]!):=by
 obtain⟨ck,h1,_,h3,_⟩:=h.row;rw[h1.cell,h3 i hi]
theorem SortI.frozen(h:SortI w0 B cs0 n dk w)(i:Nat):w.frozen? ⟨B,i,none⟩=false:=by
 obtain⟨ck,h1,_⟩:=h.row;exact h1.frozen i
theorem SortI.lt(h:SortI w0 B cs0 n dk w):B<w.heap.size:=by
 obtain⟨ck,h1,_⟩:=h.row;exact h1.lt
theorem SortI.swap(h:SortI w0 B cs0 n dk w){j:Nat}(hj:j+1<n){a b:Value}(ha:a=.int .i64 dk[j]!)(hb:b=.int .i64 dk[j+1]!) :
  SortI w0 B cs0 n (swp dk (j+1) j) ((w.setCell ⟨B,j+1,none⟩ a).setCell ⟨B,j,none⟩ b)∧SortI w0 B cs0 n (swp dk (j+1) j) ((w.setCell ⟨B,j,none⟩ b).setCell ⟨B,j+1,none⟩ a):=by
 obtain⟨ck,h1,h2,h3,h4⟩:=h.row;subst ha hb;have hs:=h.size;have hjs:j+1<ck.size:=by
  have:=h3 (j+1) hj;exact(Array.getElem?_eq_some_iff.1 this).1
 have key:∀i,i<n→(swp dk (j+1) j)[i]! = if i=j then dk[j+1]! else if i=j+1 then dk[j]! else dk[i]! := λi hi=>by
  by_cases e:i=j
  ·subst e;rw[if_pos rfl,swp_right _ _ _ (by omega)]
  ·rw[if_neg e];by_cases e2:i=j+1
   ·subst e2;rw[if_pos rfl,swp_left _ _ _ (by omega) (by omega)]
   ·rw[if_neg e2,swp_other _ _ _ _ e2 e]
 constructor
 ·refine⟨by rw[size_swp];exact hs,⟨_,(h1.vJ _ _).vJ _ _,by simpa using h2,λi hi=>?_,λi hi=>?_⟩,qH (qH h.gb _ _) _ _⟩
  ·rw[key i hi];by_cases e:i=j
   ·subst e;rw[Array.getElem?_setIfInBounds_self_of_lt (by simp;omega),if_pos rfl]
   ·rw[aA (by omega),if_neg e];by_cases e2:i=j+1
    ·subst e2;rw[Array.getElem?_setIfInBounds_self_of_lt (by omega),if_pos rfl]
    ·rw[aA (by omega),if_neg e2,h3 i hi]
  ·rw[aA (by omega),aA (by omega),h4 i hi]
 ·refine⟨by rw[size_swp];exact hs,⟨_,(h1.vJ _ _).vJ _ _,by simpa using h2,λi hi=>?_,λi hi=>?_⟩,qH (qH h.gb _ _) _ _⟩
  ·rw[key i hi];by_cases e:i=j
   ·subst e;rw[aA (by omega),Array.getElem?_setIfInBounds_self_of_lt (by omega),if_pos rfl]
   ·rw[if_neg e];by_cases e2:i=j+1
    ·subst e2;rw[Array.getElem?_setIfInBounds_self_of_lt (by simp;omega),if_pos rfl]
    ·rw[aA (by omega),aA (by omega),if_neg e2,h3 i hi]
  ·rw[aA (by omega),aA (by omega),h4 i hi]
end
theorem bM{F:Fence}{n:Nat}{P:Program}{ops:Array Oper}{W0 W1:World→Prop}{m i:Nat}{rest:List Nat}{a:Act}{R:Act→Prop}{o:Oper}{d:Tmp}(ho:ops[i]?=some o)(hd:o.dst=some d)(hw:Region.wanted o (yielded ops a.tmps)=false)(hb:i≠m)(hab:∀w f,o.about P w a.eval=some f→F.fn f)
  (hr:Det F n P ops (Wst W0 W1) m rest (a.put (some d) undef) R):Det F n P ops (Wst W0 W1) m (i::rest) a R:=IB ho hw hb hab ⟨_,by rw[hd],hr⟩
theorem x9{o:Oper}{P:Program}{w:World}{ρ:Operand→Value}{f:Operand}{args:Array Operand}{ats:Array TypeId}(hop:o.op=.call { callee:=.value f,args,argTypes:=ats })(hf:ρ f=undef):o.about P w ρ=none:=by
 unfold Oper.about;rw[hop];simp only[resolve,hf];rfl
set_option maxHeartbeats 16000000 in
set_option maxRecDepth 1000000 in
theorem ins_int(B cap n:Nat)(d:Array Int)(cs:Array Value)(w:World)(h:SortI w B cs n d w)(hn:n≤100) :
  CallsIn Fz 0 Tryz.prog 258 #[.slice (some ⟨B,0,none⟩) n cap,.int .i64 0,.int .i64 n,.func (.func 82) #[] #[]] w λe w'=>e=.returned (.tuple #[])∧SortI w B cs n (Sort.insertionSort ltI d 0 n) w':=by
 gi_enter Tryz.func258,Tryz.ntmps258
 gi_wp2;gi_loopw [8] (λvi wr=>∃(i:Nat) (dk:Array Int),vi=.int .i64 i∧0<i∧i≤n+1∧SortI w B cs n dk wr∧Hid (insOuter ltI 0 n i dk=insOuter ltI 0 n 1 d)) (λi _=>n+1-(intOf i).toNat)
 case atStart=>exact⟨1,d,by go_num,by omega,by omega,h,rfl⟩
 case round=>
  obtain⟨i,dk,rfl,hai,hib,HS,HO⟩:=hrel;by_cases hlt:i<n
  ·have hltz:(i:Int)<(n:Int):=by omega
   gi_wp2;gi_loopw [9] (λvj wr2=>∃(j:Nat) (dj:Array Int),vj=.int .i64 j∧j≤i∧SortI w B cs n dj wr2∧Hid (insInner ltI 0 j dj=insInner ltI 0 i dk)) (λj _=>(intOf j).toNat)
   case atStart=>exact⟨i,dk,rfl,ak _,HS,rfl⟩
   case round=>
    obtain⟨j,dj,rfl,hji,HJ,HI⟩:=hrel;have OUT:Hid ((j=0∨ltI dj[j]! dj[j-1]! = false)→insOuter ltI 0 n (i+1) dj=insOuter ltI 0 n 1 d):=λhs=>by
     have h1:=HO.out;have h2:=HI.out;rw[← h1,insOuter_go ltI 0 n i dk hlt,← h2,insInner_stop ltI 0 j dj (hs.imp (λh=>by omega) id)]
    have hjn:j<n:=by omega
    by_cases hj0:0<j
    ·obtain⟨jp,rfl⟩:∃jp,j=jp+1:=⟨j - 1,by omega⟩
     have cj:=HJ.cell hjn;have cp:=HJ.cell (show jp<n by omega);have fj:=HJ.frozen (jp+1);have fp:=HJ.frozen jp;have hlt2:=HJ.lt;have hja:(0:Int)<(jp:Int)+1:=by omega
     have jz:(jp:Int)+1<(n:Int):=by omega
     have jz1:(jp:Int)<(n:Int):=by omega
     have hwp:IntKind.i64.wrap (jp:Int)=(jp:Int):=by rw[IntKind.wrap_i64];omega
     have p0:(0:Int)≤(jp:Int)+1:=by omega
     have e0:((jp:Int)+1).toNat=jp+1:=by omega
     obtain⟨xj,hxj⟩:∃x,dj[jp+1]! = x:=⟨_,rfl⟩
     obtain⟨xp,hxp⟩:∃x,dj[jp]! = x:=⟨_,rfl⟩
     rw[hxj]at cj;rw[hxp]at cp;by_cases hlv:KN xj xp<0
     ·gi_wp2_with fail
      gi_big_quiet_th (first|(gi_at_call 82;refine CallsIn.quiet_of_same (uN _ _ _)))
      have H2:=HJ.drewN nq;clear HJ cj cp fj fp hlt2;generalize wr.drewN nq=wq at H2 ⊢;have cj:=H2.cell hjn;have cp:=H2.cell (show jp<n by omega);have fj:=H2.frozen (jp+1);have fp:=H2.frozen jp;have hlt2:=H2.lt;rw[hxj]at cj;rw[hxp]at cp
      gi_wp2_with fail
      gi_big_region
      all_goals gi_wp2
      refine⟨⟨jp,swp dj (jp+1) jp,rfl,by omega,(H2.swap hjn (by rw[hxp]) (by rw[hxj])).1.drew,?_⟩,by simp[intOf]⟩
      show _=_
      have:=insInner_go ltI 0 (jp+1) dj (by omega) (by simp only[Nat.add_sub_cancel];rw[hxj,hxp];exact decide_eq_true hlv);simp only[Nat.add_sub_cancel]at this;rw[← HI.out,this]
     ·gi_wp2_with fail
      gi_big_quiet_th (first|(gi_at_call 82;refine CallsIn.quiet_of_same (uN _ _ _)))
      gi_wp2;go_roundw
      case rel=>exact⟨i+1,dj,by go_num,by omega,by omega,HJ.drewN nq,OUT.out (.inr (by simp only[Nat.add_sub_cancel];rw[hxj,hxp];exact decide_eq_false (by omega)))⟩
      case measure=>simp[intOf];omega
    ·obtain rfl:j=0:=by omega
     have hd:decide (((0:Nat):Int) > (0:Int))=false:=by decide
     gi_wp2_with fail
     refine bJ (SortI w B cs n dj) rfl mixed (by kernel_rfl) (λd=>HJ.mg d) ?_;simp only[aG,aC,aF,Nat.reduceAdd,Nat.zero_add,List.range,List.range.loop]
     iterate 4
      refine aI rfl rfl (by decide) ?_;apply ah;refine⟨λT w' hw' K Q hK=>?_,?_⟩
      ·gi_wp2;exact hw'
      apply ah;refine⟨rfl,?_⟩
     refine bM (d:=22) rfl rfl rfl (by decide) (λw f hf=>by cases hf) ?_;simp only[Act.put,aj,ay,au];refine bM (d:=23) rfl rfl rfl (by decide) (λw f hf=>by cases hf) ?_;simp only[Act.put,aj,ay,au];refine bM (d:=24) rfl rfl rfl (by decide) (λw f hf=>by cases hf) ?_;simp only[Act.put,aj,ay,au];refine bM (d:=25) rfl rfl rfl (by decide) (λw f hf=>by cases hf) ?_;simp only[Act.put,aj,ay,au];refine bM (d:=26) rfl rfl rfl (by decide) (λw f hf=>by cases hf) ?_;simp only[Act.put,aj,ay,au];refine bM (d:=27) rfl rfl rfl (by decide) (λw f hf=>by cases hf) ?_;simp only[Act.put,aj,ay,au];refine bM (d:=28) rfl rfl rfl (by decide) (λw f hf=>by cases hf) ?_;simp only[Act.put,aj,ay,au];refine bM (d:=29) rfl rfl rfl (by decide) (λw f hf=>by cases hf) ?_;simp only[Act.put,aj,ay,au];refine bM (d:=30) rfl rfl rfl (by decide) (λw f hf=>by cases hf) ?_;simp only[Act.put,aj,ay,au];refine bM (d:=31) rfl rfl rfl (by decide) (λw f hf=>by cases hf) ?_;simp only[Act.put,aj,ay,au];refine bM (d:=32) rfl rfl rfl (by decide) (λw f hf=>by rw[x9 rfl rfl]at hf;cases hf) ?_;simp only[Act.put,aj,ay,au];refine bM (d:=33) rfl rfl rfl (by decide) (λw f hf=>by cases hf) ?_;simp only[Act.put,aj,ay,au];refine aI rfl rfl (by decide) ?_;apply ah;refine⟨λT w' hw' K Q hK=>?_,?_⟩
     ·gi_wp2;exact hw'
     apply ah;refine⟨rfl,?_⟩;intro w2 HJ2;gi_wp2;go_roundw
     case rel=>exact⟨i+1,dj,by go_num,by omega,by omega,HJ2,OUT.out (by simp)⟩
     case measure=>simp[intOf];omega
  ·gi_wp2;go_end0;refine⟨rfl,?_⟩;have:=HO.out;rw[insOuter,if_neg hlt]at this;unfold Sort.insertionSort;rw[← this];exact HS
end
section
set_option maxHeartbeats 1000000
set_option maxRecDepth 10000
open Go Go.RowKit Go.Sort Lift
theorem Nb(B cap n:Nat)(d:Array Int)(cs:Array Value)(w:World)(h:SortI w B cs n d w)(hn:n<20) :
  CallsIn Fz 0 Tryz.prog 222 #[.slice (some ⟨B,0,none⟩) n cap,.int .i64 n,.func (.func 82) #[] #[]] w λe w'=>e=.returned (.tuple #[])∧SortI w B cs n (Sort.insertionSort ltI d 0 n) w':=by
 have hi:=ins_int B cap n d cs w h (by omega);have h1:¬((20:Int)≤n):=by omega
 have h2:¬((20:Int)<n):=by omega
 gi_enter Tryz.func222,Tryz.ntmps222
 gi_wp2;refine wpIn_loop_rounds 1 ?_;rw[roundsIn_succ]
 gi_wp2_with (gi_at_call 258;refine hi.mono ?_;rintro e w3 ⟨rfl,H3⟩)
 refine wpIn_loop_rounds 1 ?_;rw[roundsIn_succ];gi_wp2;go_end0;exact⟨rfl,H3⟩
theorem ins_nil(w:World):CallsIn Fz 0 Tryz.prog 258 #[.slice none 0 0,.int .i64 0,.int .i64 0,.func (.func 82) #[] #[]] w λe w'=>e=.returned (.tuple #[])∧w'=w:=by
 gi_enter Tryz.func258,Tryz.ntmps258
 gi_wp2;refine wpIn_loop_rounds 1 ?_;rw[roundsIn_succ];gi_wp2;go_end0;exact⟨rfl,rfl⟩
theorem Nc(w:World):CallsIn Fz 0 Tryz.prog 222 #[.slice none 0 0,.int .i64 0,.func (.func 82) #[] #[]] w λe w'=>e=.returned (.tuple #[])∧w'=w:=by
 gi_enter Tryz.func222,Tryz.ntmps222
 gi_wp2;refine wpIn_loop_rounds 1 ?_;rw[roundsIn_succ]
 gi_wp2_with (gi_at_call 258;refine(ins_nil _).mono ?_;rintro e w3 ⟨rfl,rfl⟩)
 refine wpIn_loop_rounds 1 ?_;rw[roundsIn_succ];gi_wp2;go_end0;exact⟨rfl,rfl⟩
theorem Ce{w:World}(v:Value)(R:World→Prop)(n:Nat)(hv:∃a c,v=.slice a n c)(h:CallsIn Fz 0 Tryz.prog 222 #[v,.int .i64 n,.func (.func 82) #[] #[]] w λe w'=>e=.returned (.tuple #[])∧R w') :
  CallsIn Fz 0 Tryz.prog 146 #[v,.func (.func 82) #[] #[]] w λe w'=>e=.returned (.tuple #[])∧R w':=by
 obtain⟨a,c,rfl⟩:=hv;gi_enter Tryz.func146,Tryz.ntmps146
 gi_wp2_with (gi_at_call 222;refine h.mono ?_;rintro e w3 ⟨rfl,H3⟩)
 go_end0;exact⟨rfl,H3⟩
theorem Cj{w:World}(v:Value)(R:World→Prop)(n:Nat)(hv:∃a c,v=.slice a n c)(h:CallsIn Fz 0 Tryz.prog 222 #[v,.int .i64 n,.func (.func 82) #[] #[]] w λe w'=>e=.returned (.tuple #[])∧R w') :
  CallsIn Fz 0 Tryz.prog 81 #[v,.func (.func 82) #[] #[]] w λe w'=>e=.returned v∧R w':=by
 have hs:=Ce v R n hv h;gi_enter Tryz.func81,Tryz.ntmps81
 gi_wp2_with (gi_at_call 146;refine hs.mono ?_;rintro e w3 ⟨rfl,H3⟩)
 go_ret;exact⟨rfl,H3⟩
theorem uz{α:Type}[Inhabited α](lt:α→α→Bool)(a:Nat):∀j (d:Array α),(insInner lt a j d).size=d.size
 |0,d=>rfl
 |j+1,d=>by
  unfold insInner;split
  ·rw[uz lt a j,size_swp]
  ·rfl
theorem uD{α:Type}[Inhabited α](lt:α→α→Bool)(a b:Nat):∀k i (d:Array α),b-i=k→(insOuter lt a b i d).size=d.size
 |0,i,d,h=>by rw[insOuter,if_neg (by omega)]
 |k+1,i,d,h=>by rw[insOuter,if_pos (by omega),uD lt a b k (i+1) _ (by omega),uz]
theorem gX{α:Type}[Inhabited α](lt:α→α→Bool)(d:Array α)(a b:Nat):(Sort.insertionSort lt d a b).size=d.size:=uD lt a b _ _ d rfl
def jT(xs:List Int):List Int:=(Sort.insertionSort ltI xs.toArray 0 xs.length).toList
theorem iT(xs:List Int):(jT xs).length=xs.length:=by
 unfold jT;rw[Array.length_toList,gX];simp
theorem vN{N:Nat}{v:Value}{xs:List Int}{w:World}(h:w.ownsRow N 3 1 v xs.length (xs.map λx=>.int .i64 x))(hn:xs.length<20) :
  CallsIn Fz 0 Tryz.prog 81 #[v,.func (.func 82) #[] #[]] w λe w'=>e=.returned v∧w'.ownsRow N 3 1 v xs.length ((jT xs).map λx=>.int .i64 x)∧w.grownBy w' v.ownBlock:=by
 obtain⟨hl,h⟩:=h;rcases h with⟨rfl,h0⟩|⟨g,cap,cur,rfl,h1,h2,h3,h4,h5,h6⟩
 ·obtain rfl:=List.length_eq_zero_iff.1 h0;refine(Cj (.slice none 0 0) (λw'=>w'=w) 0 ⟨_,_,rfl⟩ (Nc w)).mono ?_;rintro e w' ⟨rfl,rfl⟩;exact⟨rfl,⟨by simp[iT],.inl ⟨rfl,rfl⟩⟩,⟨rfl,rfl,rfl,ak _,λ_ _ _=>rfl⟩⟩
 ·have hS:SortI w g cur xs.length xs.toArray w:=by
   refine⟨by simp,⟨cur,h2,rfl,λi hi=>?_,λ_ _=>rfl⟩,⟨rfl,rfl,rfl,ak _,λ_ _ _=>rfl⟩⟩;have e:(cur.toList.take (xs.length * 1))[i]?=(xs.map λx=>Value.int .i64 x)[i]?:=by rw[h6]
   rw[List.getElem?_take,if_pos (by omega)]at e;simp[hi]at e ⊢;exact e
  refine(Cj _ _ xs.length ⟨_,_,rfl⟩ (Nb g cap xs.length xs.toArray cur w hS hn)).mono ?_;rintro e w' ⟨rfl,H⟩;obtain⟨ck,k1,k2,k3,k4⟩:=H.row;refine⟨rfl,⟨by simp[iT],.inr ⟨g,cap,ck,rfl,h1,k1,h3,h4,by omega,?_⟩⟩,H.gb⟩;apply List.ext_getElem?;intro i;rw[List.getElem?_take];by_cases hi:i<xs.length
  ·rw[if_pos (by omega)];have hz:(Sort.insertionSort ltI xs.toArray 0 xs.length).size=xs.length:=by rw[gX];simp
   have:=k3 i hi;rw[← Array.getElem?_toList]at this;rw[this];simp[jT,hz,hi]
  ·rw[if_neg (by omega),List.getElem?_eq_none];rw[List.length_map,iT];omega
end
