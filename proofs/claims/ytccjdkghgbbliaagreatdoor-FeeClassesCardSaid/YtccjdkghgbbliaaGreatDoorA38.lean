/- Whether a book has a move; whether all cases that are kept in a book are kept in another one: inside the fence. -/
import Derived.Test.YtccjdkghgbbliaaGreatDoorA36
import Derived.Test.YtccjdkghgbbliaaGreatDoorA37
set_option linter.all false
namespace Go.Proofs.YtccjdkghgbbliaaGreatDoor
section
set_option maxHeartbeats 1000000
set_option maxRecDepth 10000
open Go Go.RowKit Lift
set_option maxHeartbeats 16000000 in
theorem TD{N:Nat}{l:Lay}{b:aJ}{w:World}(hbk:bW N l b w)(hn:b.ps.length≤10) :
  CallsIn Fz 0 Tryz.prog 9 #[.agg (l.bP b)] w λe w'=>(∃r:Bool,e=.returned (.bool r)∧(r=false→∀p∈b.ps,p.kind≠2))∧Below w.heap.size w w':=by
 have hb1:Below w.heap.size w (w.alloc (.cells (l.bP b) 27)):=(Below.refl _ w).alloc (ak _) _;have hA:=Blk.new w (l.bP b) 27;have hN1:=hbk.below (hb1.mono hbk.hN);gi_enter Tryz.func9,Tryz.ntmps9
 gi_wp2;generalize w.alloc _=W at *;have hlt:=hA.lt;have a3:=hA.cell 3;simp at a3;gi_loopw [3] (λi wr=>W=wr∧∃k:Nat,k≤b.ps.length∧i=.int .i64 k∧∀j,j<k→(b.aX j).kind≠2) (λi _=>b.ps.length-(intOf i).toNat)
 case atStart=>exact⟨rfl,0,Nat.zero_le _,rfl,λj hj=>absurd hj (by omega)⟩
 case round=>
  obtain⟨rfl,k,hk,rfl,hno⟩:=hrel;have HN:=Lib.hid hno;clear hno;by_cases hl:k<b.ps.length
  ·obtain⟨cb,co,e1,e2,e3⟩:=hN1.ps k (b.aX k).row (by rw[List.getElem?_map,List.getElem?_eq_getElem hl,kR hl];rfl);have c0:=e3 0 _ rfl;simp only[Nat.add_zero]at c0;have hcl:cb<W.heap.size:=aA e2 hN1.hN;rw[e1]at a3;obtain⟨kd,hkd⟩:∃kd,(b.aX k).kind=kd:=⟨_,rfl⟩
   rw[hkd]at c0;have HK:=Lib.hid hkd;clear hkd e3;by_cases hg:kd=2
   ·subst hg;gi_wp2;go_ret;exact⟨⟨true,rfl,λh=>by cases h⟩,hb1⟩
   ·have hg':(kd==2)=false:=by simp[hg]
    gi_wp2;go_roundw
    case rel=>
     refine⟨by trivial,k+1,by omega,by go_num,λj hj=>?_⟩;by_cases e:j=k
     ·subst e;rw[HK.out];exact hg
     ·exact HN.out j (by omega)
    case measure=>simp[intOf];omega
  ·obtain rfl:k=b.ps.length:=by omega
   gi_wp2;go_ret;refine⟨⟨false,rfl,λ_ p hp=>?_⟩,hb1⟩;obtain⟨i,hi,rfl⟩:=List.mem_iff_getElem.1 hp;rw[← kR hi];exact HN.out i hi
def Book.keeps(b:Book)(c:Nat):Bool:=((b.after 9999).cases c).state==1&&((b.after 9999).cases c).held==0
set_option maxHeartbeats 16000000 in
theorem Td{N N':Nat}{l l':Lay}{b b':Book}{w:World}(hbk:dU N l b w)(hbk':dU N' l' b' w)(hf:Full b)(hf':Full b')(hkd:bU w)(hlen:b.cs.length≤b'.cs.length)
  (hL:∀c,c<b.cs.length→b.keeps c=true→b'.keeps c=true∧((b'.after 9999).cases c).day≤((b.after 9999).cases c).day) :
  CallsIn Fz 0 Tryz.prog 13 #[l.val b,l'.val b'] w λe w'=>e=.returned (.bool true)∧Below w.heap.size w w':=by
 have hw0:=hkd.lt;have hnk:=hf.v.nk;have hb1:Below w.heap.size w ((w.alloc (.cells (l.arr b) 27)).alloc (.cells (l'.arr b') 27)):=((Below.refl _ w).alloc (ak _) _).alloc (by simp) _;have hA:Blk ((w.alloc (.cells (l.arr b) 27)).alloc (.cells (l'.arr b') 27)) w.heap.size 27 (l.arr b):=(Blk.new w (l.arr b) 27).below ((Below.refl _ _).alloc (ak _) _);have hA':Blk ((w.alloc (.cells (l.arr b) 27)).alloc (.cells (l'.arr b') 27)) (w.heap.size+1) 27 (l'.arr b'):=by
  have:=Blk.new (w.alloc (.cells (l.arr b) 27)) (l'.arr b') 27;rwa[World.size_alloc]at this
 unfold Lay.val at *;gi_enter Tryz.func13,Tryz.ntmps13
 gi_wp2;generalize (w.alloc (.cells (l.arr b) 27)).alloc _=W at *;generalize hZ:w.heap.size+1=B' at *;gi_loopw [5] (λi wr=>Below W.heap.size W wr∧∃k:Nat,k≤b.cs.length∧i=.int .i64 k) (λi _=>b.cs.length-(intOf i).toNat)
 case atStart=>exact⟨Below.refl _ _,0,Nat.zero_le _,rfl⟩
 case round=>
  obtain⟨hbW,k,hk,rfl⟩:=hrel;have q:=hA.below hbW;have q0:=q.cell 0;have q1:=q.cell 1;have q2:=q.cell 2;have q3:=q.cell 3;simp at q0 q1 q2 q3;have ltA:=q.lt;by_cases hl:k<b.cs.length
  ·have hl0:=hL k hl;have hl':k<b'.cs.length:=by omega
   have hbr:=hb1.trans (hbW.mono hb1.size);have hc1:=Fa (hbk.below (hbr.mono hbk.hN)) hf (hkd.below hbr hw0) hl;have hc2:=λw4 (h:Below wr.heap.size wr w4)=>Fa (hbk'.below ((hbr.trans (h.mono hbr.size)).mono hbk'.hN)) hf' (hkd.below (hbr.trans (h.mono hbr.size)) hw0) hl';unfold Lay.val at hc1 hc2;unfold Book.keeps at hl0;obtain⟨x,hx⟩:∃x,(b.after 9999).cases k=x:=⟨_,rfl⟩
   obtain⟨y,hy⟩:∃y,(b'.after 9999).cases k=y:=⟨_,rfl⟩
   rw[hx]at hl0 hc1;simp only[hy]at hl0 hc2;clear hx hy;obtain⟨kx,hkx⟩:∃kx,(x.state==1&&x.held==0)=kx:=⟨_,rfl⟩
   obtain⟨ky,hky⟩:∃ky,(y.state==1&&y.held==0)=ky:=⟨_,rfl⟩
   rw[hkx]at hl0 hc1;simp only[hky]at hl0 hc2;clear hkx hky;obtain⟨sx,hx,dx,fx⟩:=x;obtain⟨sy,hy,dy,fy⟩:=y;simp only at hl0 hc1 hc2;cases kx with
   |true=>
    obtain⟨rfl,hle⟩:=hl0 rfl;have hle':¬(dx<dy):=by omega
    clear hle
    gi_wp2_with (first
     |(gi_at_call 15;with_reducible refine hc1.mono ?_;rintro e w4 ⟨rfl,hb4⟩;have r:=hA'.below (hbW.trans (hb4.mono hbW.size));have r0:=r.cell 0;have r1:=r.cell 1;have r2:=r.cell 2;have r3:=r.cell 3;simp at r0 r1 r2 r3;have ltR:=r.lt)
     |(gi_at_call 15;with_reducible refine(hc2 _ hb4).mono ?_;rintro e w5 ⟨rfl,hb5⟩))
    go_roundw
    case rel=>exact⟨hbW.trans ((hb4.trans (hb5.mono hb4.size)).mono hbW.size),k+1,by omega,by go_num⟩
    case measure=>simp[intOf];omega
   |false=>
    clear hl0
    gi_wp2_with (first
     |(gi_at_call 15;with_reducible refine hc1.mono ?_;rintro e w4 ⟨rfl,hb4⟩;have r:=hA'.below (hbW.trans (hb4.mono hbW.size));have r0:=r.cell 0;have r1:=r.cell 1;have r2:=r.cell 2;have r3:=r.cell 3;simp at r0 r1 r2 r3;have ltR:=r.lt)
     |(gi_at_call 15;with_reducible refine(hc2 _ hb4).mono ?_;rintro e w5 ⟨rfl,hb5⟩))
    go_roundw
    case rel=>exact⟨hbW.trans ((hb4.trans (hb5.mono hb4.size)).mono hbW.size),k+1,by omega,by go_num⟩
    case measure=>simp[intOf];omega
  ·obtain rfl:k=b.cs.length:=by omega
   gi_wp2;go_ret;exact⟨rfl,hb1.trans (hbW.mono hb1.size)⟩
end
section
set_option maxHeartbeats 1000000
set_option maxRecDepth 10000
open Go Go.RowKit Lift
theorem Blk.gr{w w':World}{B:Nat}{ty:TypeId}{cs:Array Value}(h:Blk w B ty cs)(hg:Grow w.heap.size w w'):Blk w' B ty cs:=h.grow hg h.lt
theorem cZ.gr{w w':World}{v:Value}{xs:List Int}(h:cZ w v xs)(hg:Grow w.heap.size w w'):cZ w' v xs:=h.grow hg
theorem bW.gr{N:Nat}{l:Lay}{b:aJ}{w w':World}(h:bW N l b w)(hg:Grow w.heap.size w w'):bW N l b w':=h.grow hg
def wH(ps:List iG):List Value:=ps.flatMap iG.row
theorem qY:∀(ps:List iG) (k:Nat) (v:Value),(wH ps)[k]?=some v→∃i p j,ps[i]?=some p∧p.row[j]?=some v∧k=i * 5+j
 | [],k,v,h=>by simp[wH]at h
 |q::ps,k,v,h=>by
  have hl:q.row.length=5:=by simp[iG.row]
  unfold wH at h;rw[List.flatMap_cons]at h;by_cases hk:k<5
  ·rw[List.getElem?_append_left (by omega)]at h;exact⟨0,q,k,rfl,h,by omega⟩
  ·rw[List.getElem?_append_right (by omega),hl]at h;obtain⟨i,p,j,h1,h2,h3⟩:=qY ps (k - 5) v h;exact⟨i+1,p,j,by simpa using h1,h2,by omega⟩
theorem TV{w w':World}{N n size:Nat}{e:TypeId}{v:Value}{xs:List Value}(h:w.ownsRow N e size v n xs)(hg:w.grownBy w' v.ownBlock)(hN:N≤w.heap.size):Below N w w':=by
 refine(Below.refl N w).grown hg hN (λk e=>?_);rcases h.2 with⟨rfl,_⟩|⟨g,cap,cur,rfl,hb,_⟩
 ·cases e
 ·cases e;exact hb
def PaysAt(w:World)(v:Value)(ps:List iG):Prop:=∃base cap,v=.slice base ps.length cap∧bC w.heap.size base 5 (ps.map iG.row) w
theorem PaysAt.cells{w:World}{a:Addr}{ps:List iG}(h:bC w.heap.size (some a) 5 (ps.map iG.row) w)(_:ps≠[]):∀j u,(wH ps)[j]?=some u→w.cell? (a.add j)=some u:=λj u hu=>by
 obtain⟨i,p,k,h1,h2,rfl⟩:=qY ps j u hu;obtain⟨b,o,e1,e2,e3⟩:=h i p.row (by rw[List.getElem?_map,h1];rfl);cases e1;have:=e3 k u h2;rw[Addr.add_mid,← Nat.add_assoc];exact this
theorem bC.mono{N N':Nat}{base:Option Addr}{size:Nat}{rows:List (List Value)}{w:World}(h:bC N base size rows w)(hN:N≤N'):bC N' base size rows w:=λi r hr=>by
 obtain⟨b,o,h1,h2,h3⟩:=h i r hr;exact⟨b,o,h1,aA h2 hN,h3⟩
section
variable {F:Fence} {n:Nat}
theorem wJ{w:World}{t ty e:TypeId}{i:TypeInfo}(ht:Tryz.prog.underlying t=some (.slice e))(hi:Tryz.prog.info? e=some i){v:Value}{k size base c:Nat}{xs:List Value}(hown:w.ownsRow base e size v k xs) :
  (Builtin.append_ #[t,t] ty #[v,.slice none 0 c]).run Tryz.prog w=.ok v w:=by
 rcases hown.2 with⟨rfl,_⟩|⟨g,cap,cur,rfl,_,hg,hnc,_,_⟩
 ·simp[Builtin.append_,run_underlying ht,sizeOf,typeInfo,hi,Builtin.lenOf,Builtin.firstCells,loadCells,loadCellsFrom]
 ·simp[Builtin.append_,run_underlying ht,sizeOf,typeInfo,hi,Builtin.lenOf,Builtin.firstCells,loadCells,loadCellsFrom,hnc,storeCells]
end
end
section
set_option maxHeartbeats 1000000
set_option maxRecDepth 10000
open Go Go.RowKit Lift
section
variable {w0 w w1:World} {S0 S:Blks} {B BO j:Nat} {l:Lay} {b:aJ} {v:Value}
theorem iy.qm(E:iy w0 S0 w0.heap.size l b B w S)(h0:0<w0.heap.size)(hb:Below w.heap.size w w1)(hlo:w0.heap.size≤BO)(hne:BO≠B):iy w0 S0 w0.heap.size l b B (w1.setCell ⟨BO,j,none⟩ v) S:=by
 have hbM:Below w0.heap.size w (w1.setCell ⟨BO,j,none⟩ v):=(hb.mono E.g.size).setCell (p:=⟨BO,j,none⟩) hlo v;exact⟨E.g.trans (Grow.of hbM).s,E.bk.below hbM,(E.bx.below hb).set hne v,E.lo,E.kd.below hbM h0⟩
end
theorem MG{w:World}{N n size:Nat}{e:TypeId}{v:Value}{xs:List Value}(h:w.ownsRow N e size v n xs)(hn:n≠0):∃g cap cur,v=.slice (some ⟨g,0,none⟩) n cap∧N≤g∧Blk w g e cur:=by
 rcases h.2 with⟨_,h⟩|⟨g,cap,cur,rfl,hb,hg,_⟩
 ·exact absurd h hn
 ·exact⟨g,cap,cur,rfl,hb,hg⟩
end
section
set_option maxHeartbeats 1000000
set_option maxRecDepth 10000
open Go Go.RowKit Lift
theorem Tryz.infoK:(Tryz.prog.info? 46).map (λi=>(i.zero,i.size,i.bytes))=some (some (.agg #[.string ⟨#[]⟩,.int .i64 0,.int .i64 0,.int .i64 0,.int .i64 0,.int .i64 0]),6,56):=by kernel_rfl
section
variable {size:Nat}
theorem pR:∀{rows:List (List Value)},(∀r∈rows,r.length=size)→rows.flatten.length=rows.length * size
 | [],_=>by simp
 |r::rows,h=>by
  rw[List.flatten_cons,List.length_append,h r (by simp),pR λq hq=>h q (by simp[hq]),aC,Nat.add_mul];omega
theorem JM:∀{rows:List (List Value)} (_:∀r∈rows,r.length=size) (i:Nat) (r:List Value) (j:Nat) (v:Value),rows[i]?=some r→r[j]?=some v→rows.flatten[i * size+j]?=some v
 | [],_,i,r,j,v,h,_=>by simp at h
 |q::rows,hs,i,r,j,v,h,hv=>by
  have hq:=hs q (by simp);rw[List.flatten_cons];cases i with
  |zero=>
   obtain rfl:q=r:=by simpa using h
   have hj:=(List.getElem?_eq_some_iff.1 hv).1;rw[List.getElem?_append_left (by omega)];simpa using hv
  |succ i=>
   have h':rows[i]?=some r:=by simpa using h
   rw[List.getElem?_append_right (by rw[hq,Nat.add_mul];omega),hq,show(i+1) * size+j-size=i * size+j by rw[Nat.add_mul];omega];exact JM (λx hx=>hs x (by simp[hx])) i r j v h' hv
theorem yN:∀{rows:List (List Value)} (_:∀r∈rows,r.length=size) (k:Nat) (v:Value),rows.flatten[k]?=some v→∃i r j,rows[i]?=some r∧r[j]?=some v∧k=i * size+j
 | [],_,k,v,h=>by simp at h
 |q::rows,hs,k,v,h=>by
  have hq:=hs q (by simp);rw[List.flatten_cons]at h;by_cases hk:k<size
  ·rw[List.getElem?_append_left (by omega)]at h;exact⟨0,q,k,rfl,h,by omega⟩
  ·rw[List.getElem?_append_right (by omega),hq]at h;obtain⟨i,p,j,h1,h2,h3⟩:=yN (λx hx=>hs x (by simp[hx])) (k - size) v h;exact⟨i+1,p,j,by simpa using h1,h2,by rw[Nat.add_mul];omega⟩
theorem EG{w:World}{N n:Nat}{e:TypeId}{v:Value}{rows:List (List Value)}(hs:∀r∈rows,r.length=size)(h:w.ownsRow N e size v n rows.flatten)(hn:n=rows.length):∃base cap,v=.slice base rows.length cap∧bC w.heap.size base size rows w:=by
 subst hn;rcases h.2 with⟨rfl,hn⟩|⟨g,cap,cur,rfl,h1,h2⟩
 ·obtain rfl:=List.eq_nil_of_length_eq_zero hn;exact⟨none,0,rfl,λi r hr=>by simp at hr⟩
 ·obtain⟨hg,_,_,_,ht⟩:=h2;refine⟨_,cap,rfl,λi r hr=>⟨g,0,rfl,(Array.getElem?_eq_some_iff.1 hg).1,λj u hu=>?_⟩⟩;have e1:=JM hs i r j u hr hu;have hlt:=(List.getElem?_eq_some_iff.1 e1).1;rw[pR hs]at hlt;rw[← ht,List.getElem?_take_of_lt hlt,Array.getElem?_toList]at e1;simp[World.cell?,hg,e1]
theorem H8{t e:TypeId}{z:Value}{bytes:Nat}(ht:Tryz.prog.underlying t=some (.slice e))(hinf:(Tryz.prog.info? e).map (λi=>(i.zero,i.size,i.bytes))=some (some z,size,bytes))(hzs:z.cells.size=size)(hsz:0<size)(hby:bytes≤100)
  {w:World} {o:Oper} {a:Act} {K:Act→World→Prop} {Q:Exit→Act→World→Prop} (s x:Operand) (hop:o.op=.call { callee:=.builtin .append,args:=#[s,x],argTypes:=#[t,t] })
  {base:Nat} {v:Value} {b0:Option Addr} {cap m:Nat} {rows:List (List Value)} (hs:a.eval s=v) (hown:w.ownsRow base e size v 0 []) (hx:a.eval x=.slice b0 m cap) (hm:m=rows.length) (hr:bC w.heap.size b0 size rows w) (hl:∀r∈rows,r.length=size)
  (h1:∀r∈rows,∀u∈r,u.oneCell'=true) (hk:rows.length≤1000000) (hb:base≤w.heap.size)
  (hK:∀v' w',w'.ownsRow base e size v' rows.length rows.flatten→w.grownBy w' v.ownBlock→K (a.put o.dst v') w'):o.wpIn Fz 0 Tryz.prog a w K Q:=by
 obtain⟨i0,hi0,hz0,hz1,hz2⟩:=info_parts hinf;have fin:∀v' w',(Builtin.append_ #[t,t] o.type #[v,.slice b0 m cap]).run Tryz.prog w=.ok v' w'→K (a.put o.dst v') w'→o.wpIn Fz 0 Tryz.prog a w K Q:=λv' w' hrun h=>by
  unfold Oper.wpIn;refine⟨?_,?_⟩
  ·simp[Oper.about,hop,resolve,Target.leads,Sem.run_pure]
  ·rw[Oper.semAt_plain _ _ _ (by rw[hop];intro c hc';cases hc')];simp[execOp,hop,resolve,invoke,builtin,hs,hx,hrun,Result.andThen];exact h
 subst hm;cases b0 with
 |none=>
  have hnil:rows=[]:=by
   cases rows with
   |nil=>rfl
   |cons y ys=>obtain⟨_,_,q,_⟩:=hr 0 y rfl;cases q
  subst hnil;exact fin _ _ (wJ ht hi0 hown) (hK v w hown ⟨rfl,rfl,rfl,ak _,λ_ _ _=>rfl⟩)
 |some ad=>
  have hcells:∀j u,rows.flatten[j]?=some u→w.cell? (ad.add j)=some u:=λj u hu=>by
   obtain⟨i,p,k,q1,q2,rfl⟩:=yN hl j u hu;obtain⟨b,o,e1,e2,e3⟩:=hr i p q1;cases e1;have:=e3 k u q2;rw[Addr.add_mid,← Nat.add_assoc];exact this
  obtain⟨v',w',hrun,r1,r2,r3⟩:=run_append_own (P:=Tryz.prog) w base t o.type e i0 z size bytes ht hi0 hz0 hz1 hz2 hzs hsz v 0 [] hown ad rows.length cap rows.flatten (pR hl) hcells (λu hu=>by obtain⟨r,hr1,hr2⟩:=List.mem_flatten.1 hu;exact h1 r hr1 u hr2) (by unfold maxLen;omega)
   (by have:(0+rows.length) * bytes≤1000000 * 100:=Nat.mul_le_mul (by omega) hby;omega) hb
  rw[Nat.zero_add,List.nil_append]at r1;exact fin v' w' hrun (hK v' w' r1 r2)
theorem bC.qm{N g BO j:Nat}{rows:List (List Value)}{w:World}{v:Value}(h:bC N (some ⟨g,0,none⟩) size rows w)(hne:BO≠g):bC N (some ⟨g,0,none⟩) size rows (w.setCell ⟨BO,j,none⟩ v):=λi r hr=>by
 obtain⟨b,o,h1,h2,h3⟩:=h i r hr;cases h1;have hh:=Below.heap_setCell w ⟨BO,j,none⟩ v g (λe=>by simp at e;omega);refine⟨g,0,rfl,h2,λk u hu=>?_⟩;have:=h3 k u hu;unfold World.cell? at this ⊢;rw[hh];exact this
theorem JO{N g k f:Nat}{e:TypeId}{rows:List (List Value)}{w:World}{cur:Array Value}{r0:List Value}{v:Value}(hsz:∀r∈rows,r.length=size)(hg:Blk w g e cur)(h:bC N (some ⟨g,0,none⟩) size rows w)(hk:rows[k]?=some r0)(hf:f<size) :
  bC N (some ⟨g,0,none⟩) size (rows.set k (r0.set f v)) (w.setCell ⟨g,k * size+f,none⟩ v):=λi r hr=>by
 have hB:=hg.put (k * size+f) v;have hkl:=(List.getElem?_eq_some_iff.1 hk).1;have hr0:=hsz r0 (List.mem_of_getElem? hk);have hil:i<rows.length:=by have:=(List.getElem?_eq_some_iff.1 hr).1;simpa using this
 obtain⟨b0,o0,e1,e2,e3⟩:=h i rows[i] (List.getElem?_eq_getElem hil);cases e1;have hri:=hsz rows[i] (List.getElem_mem hil);refine⟨g,0,rfl,e2,λj u hu=>?_⟩;rw[hB.cell];by_cases hki:i=k
 ·subst hki;rw[List.getElem?_set_self hil]at hr;obtain rfl:=Option.some.inj hr;rw[List.getElem?_eq_getElem hil]at hk;obtain rfl:=Option.some.inj hk;by_cases hj1:j=f
  ·subst hj1;have hlt:i * size+j<cur.size:=by
    have:=e3 j _ (List.getElem?_eq_getElem (show j<rows[i].length by omega));rw[hg.cell]at this;have:=(Array.getElem?_eq_some_iff.1 this).1;omega
   rw[List.getElem?_set_self (by omega)]at hu;rw[← hu,show 0+i * size+j=i * size+j by omega,Array.getElem?_setIfInBounds_self_of_lt hlt]
  ·rw[List.getElem?_set_ne (λq=>hj1 q.symm)]at hu;rw[aB (by omega),← hg.cell];exact e3 j u hu
 ·rw[List.getElem?_set_ne (Ne.symm hki),List.getElem?_eq_getElem hil]at hr;obtain rfl:=Option.some.inj hr;have hj:j<size:=by have:=(List.getElem?_eq_some_iff.1 hu).1;omega
  rw[aB ?_,← hg.cell]
  ·exact e3 j u hu
  ·intro q;have q1:(k * size+f) / size=k:=by rw[Nat.mul_comm k size,Nat.mul_add_div (by omega),Nat.div_eq_of_lt hf];omega
   have q2:(i * size+j) / size=i:=by rw[Nat.mul_comm i size,Nat.mul_add_div (by omega),Nat.div_eq_of_lt hj];omega
   have q3:k * size+f=i * size+j:=by omega
   rw[q3,q2]at q1;exact hki q1
end
end
section
set_option maxHeartbeats 1000000
set_option maxRecDepth 10000
open Go Go.RowKit Lift
theorem Es{b:Book}(hv:Valid b){c:Nat}(hc:c<b.cs.length):b.keeps c=true↔((b.after 9999).cases c).state=1:=by
 have h:=(Rn hv hc (n:=9999) (ak _)).held0;unfold Book.keeps;constructor
 ·intro q;simp only[Bool.and_eq_true,beq_iff_eq]at q;exact q.1
 ·intro q;simp[q,h q]
theorem I8{b b':Book}(hv:Valid b)(hv':Valid b'){c:Nat}(hc:c<b.cs.length)(hc':c<b'.cs.length)(h:Lasts b b' c)(hk:b.keeps c=true):b'.keeps c=true∧((b'.after 9999).cases c).day≤((b.after 9999).cases c).day:=by
 obtain⟨h1,h2⟩:=h ((Es hv hc).1 hk);exact⟨(Es hv' hc').2 h1,h2⟩
theorem Ur{b:aJ}(hR:b.Right)(h:∀p∈b.ps,p.kind≠2):b.to.still:=λp hp=>by
 obtain⟨r,hr,rfl⟩:=List.mem_map.1 hp;have:=h r hr;have:=(hR.p r hr).1;simp only[iG.to];omega
def aJ.early(b:aJ)(k:Nat)(n:Int):aJ:={ b with ps:=b.ps.set k { b.aX k with day:=max 0 ((b.aX k).day-n) } }
end
section
set_option maxHeartbeats 1000000
set_option maxRecDepth 10000
open Go Go.RowKit Lift
def aJ.nM(b:aJ)(k:Nat)(x:fZ):aJ:={ b with cs:=b.cs.set k x }
def aJ.setT(b:aJ)(k:Nat)(x:jr):aJ:={ b with ts:=b.ts.set k x }
theorem Gj{α β:Type}{f:α→β}{l:List α}{k:Nat}{x:α}(hk:k<l.length)(h:f x=f l[k]):(l.set k x).map f=l.map f:=by
 rw[List.map_set,h];apply List.ext_getElem?;intro i;by_cases e:k=i
 ·subst e;rw[List.getElem?_set_self (by simpa using hk)];simp[hk]
 ·rw[List.getElem?_set_ne e]
theorem MP{b:aJ}(hR:b.Right)(hst:∀p∈b.ps,p.kind≠2){k:Nat}(hk:k<b.cs.length){x:fZ}(hn:x.name=(b.aP k).name)
  (hr:(0≤x.tar∧x.tar<b.ts.length)∧(0≤x.classes∧x.classes≤45)∧(0≤x.due∧x.due≤9999)∧(0≤x.dW∧x.dW≤999)∧0≤x.extra∧x.extra≤10000):(b.nM k x).Right:=by
 rw[dS hk]at hn;refine⟨hR.nc,hR.cn,hR.cd,hR.nt,hR.tn,hR.td,hR.t,by simpa[aJ.nM]using hR.nk,λc hc=>?_,?_,λc hc=>?_,hR.np,λp hp=>?_⟩
 ·rcases List.mem_or_eq_of_mem_set hc with h|rfl
  ·exact hR.kn c h
  ·rw[hn];exact hR.kn _ (List.getElem_mem hk)
 ·show((b.cs.set k x).map (·.name)).Nodup
  rw[Gj hk hn];exact hR.kd
 ·rcases List.mem_or_eq_of_mem_set hc with h|rfl
  ·exact hR.k c h
  ·exact hr
 ·have h:=hR.p p hp;refine⟨h.1,h.2.1,h.2.2.1,h.2.2.2.1,h.2.2.2.2.1,λq=>?_,λq=>absurd q (hst p hp)⟩;have:=h.2.2.2.2.2.1 q;simpa[aJ.nM]using this
theorem MO{b:aJ}(hR:b.Right)(hst:∀p∈b.ps,p.kind≠2){k:Nat}(hk:k<b.cs.length){x:fZ}(hR':(b.nM k x).Right)(htar:x.tar=(b.aP k).tar)(hcl:x.classes≤(b.aP k).classes)(hdu:(b.aP k).due≤x.due)(hg:(b.aP k).due+(b.aP k).dW≤x.due+x.dW)(hex:x.extra≤(b.aP k).extra) :
  ∀c,c<b.to.cs.length→b.to.keeps c=true→(b.nM k x).to.keeps c=true∧(((b.nM k x).to.after 9999).cases c).day≤((b.to.after 9999).cases c).day:=by
 have e:(b.nM k x).to={ b.to with cs:=b.to.cs.set k x.to }:=by simp only[aJ.nM,aJ.to,List.map_set]
 have hk':k<b.to.cs.length:=by simpa[aJ.to]using hk
 have ea:b.to.aP k=(b.aP k).to:=by
  unfold Book.aP aJ.aP aJ.to;simp only[List.getD_eq_getElem?_getD,List.getElem?_map,List.getElem?_eq_getElem hk,Option.map_some,Option.getD_some]
 have hv':=hR'.full.v;rw[e]at hv' ⊢;intro c hc;exact I8 hR.full.v hv' hc (by simpa using hc) (F8 hR.full.v (Ur hR hst) hv' (I5 hk' (by rw[ea];simp only[fZ.to,htar]) (by rw[ea];exact hcl) (by rw[ea];exact hdu) (by rw[ea];exact hg) (by rw[ea];exact hex)) hc)
end
