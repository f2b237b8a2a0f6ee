/- Whether a book has a move; whether all cases that are kept in a book are kept in another one: inside the fence. -/
import Derived.Laws.OwnMore
import Derived.Test.YtnkejaohnhpbpaaGreatDoorA40
set_option linter.all false
section
namespace Go.Proofs.YtnkejaohnhpbpaaGreatDoor
open Go Go.RowKit Lift
def Book.keeps (b:Book) (c:Nat):Bool:=((b.after 9999).cases c).state == 1 && ((b.after 9999).cases c).held == 0
end Go.Proofs.YtnkejaohnhpbpaaGreatDoor
end
section
namespace Go.Proofs.YtnkejaohnhpbpaaGreatDoor
open Go Go.RowKit Lift
theorem Tryz.infoP:(Tryz.prog.info? 56).map (fun i => (i.zero,i.size,i.bytes)) = some (some (.agg #[.int .i64 0,.int .i64 0,.int .i64 0,.int .i64 0,.int .i64 0]),5,40):=by kernel_rfl
theorem Blk.gr {w w':World} {B:Nat} {ty:TypeId} {cs:Array Value} (h:Blk w B ty cs) (hg:Grow w.heap.size w w'):Blk w' B ty cs:=h.grow hg h.lt
theorem SeqAt.gr {w w':World} {v:Value} {xs:List Int} (h:SeqAt w v xs) (hg:Grow w.heap.size w w'):SeqAt w' v xs:=h.grow hg
theorem RBkAt.gr {N:Nat} {l:Lay} {b:RBook} {w w':World} (h:RBkAt N l b w) (hg:Grow w.heap.size w w'):RBkAt N l b w':=h.grow hg
def payCells (ps:List RPay):List Value:=ps.flatMap RPay.row
theorem payCells_length:∀ ps:List RPay,(payCells ps).length = ps.length * 5
 | [] => rfl
 | p :: ps => by
  have:=payCells_length ps;unfold payCells at this ⊢;rw [List.flatMap_cons,List.length_append,this];simp [RPay.row];omega
theorem payCells_append (xs ys:List RPay):payCells (xs ++ ys) = payCells xs ++ payCells ys:=by unfold payCells;rw [List.flatMap_append]
theorem payCells_at:∀ (ps:List RPay) (i:Nat) (p:RPay) (j:Nat) (v:Value),ps[i]? = some p → p.row[j]? = some v → (payCells ps)[i * 5 + j]? = some v
 | [],i,p,j,v,h,_ => by simp at h
 | q :: ps,i,p,j,v,h,hv => by
  have hj:j < 5:=by have:=(List.getElem?_eq_some_iff.1 hv).1;simpa [RPay.row] using this
  unfold payCells;rw [List.flatMap_cons];cases i with
  | zero =>
   obtain rfl:q = p:=by simpa using h
   rw [List.getElem?_append_left (by simp [RPay.row];omega)];simpa using hv
  | succ i =>
   have h':ps[i]? = some p:=by simpa using h
   have hl:q.row.length = 5:=by simp [RPay.row]
   rw [List.getElem?_append_right (by rw [hl];omega),hl,show (i + 1) * 5 + j - 5 = i * 5 + j by omega];exact payCells_at ps i p j v h' hv
theorem payCells_one {ps:List RPay} {v:Value} (h:v ∈ payCells ps):v.oneCell' = true:=by
 unfold payCells at h;obtain ⟨p,_,hv⟩:=List.mem_flatMap.1 h;simp only [RPay.row,List.mem_cons,List.not_mem_nil,or_false] at hv;rcases hv with rfl | rfl | rfl | rfl | rfl <;> simp [Value.oneCell']
theorem payCells_split:∀ (ps:List RPay) (k:Nat) (v:Value),(payCells ps)[k]? = some v → ∃ i p j,ps[i]? = some p ∧ p.row[j]? = some v ∧ k = i * 5 + j
 | [],k,v,h => by simp [payCells] at h
 | q :: ps,k,v,h => by
  have hl:q.row.length = 5:=by simp [RPay.row]
  unfold payCells at h;rw [List.flatMap_cons] at h;by_cases hk:k < 5
  ·rw [List.getElem?_append_left (by omega)] at h;exact ⟨0,q,k,rfl,h,by omega⟩
  ·rw [List.getElem?_append_right (by omega),hl] at h;obtain ⟨i,p,j,h1,h2,h3⟩:=payCells_split ps (k - 5) v h;exact ⟨i + 1,p,j,by simpa using h1,h2,by omega⟩
theorem owns_bel {w w':World} {N n size:Nat} {e:TypeId} {v:Value} {xs:List Value} (h:w.ownsRow N e size v n xs) (hg:w.grownBy w' v.ownBlock) (hN:N ≤ w.heap.size):Below N w w':=by
 refine (Below.refl N w).grown hg hN (fun k e => ?_);rcases h.2 with ⟨rfl,_⟩ | ⟨g,cap,cur,rfl,hb,_⟩
 ·cases e
 ·cases e;exact hb
def PaysAt (w:World) (v:Value) (ps:List RPay):Prop:=∃ base cap,v = .slice base ps.length cap ∧ RowsAt w.heap.size base 5 (ps.map RPay.row) w
theorem PaysAt.cells {w:World} {a:Addr} {ps:List RPay} (h:RowsAt w.heap.size (some a) 5 (ps.map RPay.row) w) (_:ps ≠ []):∀ j u,(payCells ps)[j]? = some u → w.cell? (a.add j) = some u:=fun j u hu => by
 obtain ⟨i,p,k,h1,h2,rfl⟩:=payCells_split ps j u hu;obtain ⟨b,o,e1,e2,e3⟩:=h i p.row (by rw [List.getElem?_map,h1];rfl);cases e1;have:=e3 k u h2;rw [Addr.add_mid,← Nat.add_assoc];exact this
theorem owns_pays {w:World} {N n:Nat} {v:Value} {ps:List RPay} (h:w.ownsRow N 56 5 v n (payCells ps)):n = ps.length ∧ PaysAt w v ps:=by
 have hn:n = ps.length:=by have:=h.1;rw [payCells_length] at this;omega
 subst hn;refine ⟨rfl,?_⟩;rcases h.2 with ⟨rfl,hn⟩ | ⟨g,cap,cur,rfl,h1,h2⟩
 ·obtain rfl:=List.eq_nil_of_length_eq_zero hn;exact ⟨none,0,rfl,fun i r hr => by simp at hr⟩
 ·obtain ⟨hg,_,_,_,ht⟩:=h2;refine ⟨_,cap,rfl,fun i r hr => ?_⟩;rw [List.getElem?_map] at hr;obtain ⟨p,hp,rfl⟩:=Option.map_eq_some_iff.1 hr;refine ⟨g,0,rfl,(Array.getElem?_eq_some_iff.1 hg).1,fun j u hu => ?_⟩;have e:=payCells_at ps i p j u hp hu;rw [← ht] at e;have hlt:i * 5 + j < ps.length * 5:=by
   have h1:=(List.getElem?_eq_some_iff.1 hp).1;have h2:=(List.getElem?_eq_some_iff.1 hu).1;simp only [RPay.row,List.length_cons,List.length_nil] at h2;omega
  rw [List.getElem?_take_of_lt hlt,Array.getElem?_toList] at e;simp [World.cell?,hg,e]
theorem RowsAt.mono {N N':Nat} {base:Option Addr} {size:Nat} {rows:List (List Value)} {w:World} (h:RowsAt N base size rows w) (hN:N ≤ N'):RowsAt N' base size rows w:=fun i r hr => by
 obtain ⟨b,o,h1,h2,h3⟩:=h i r hr;exact ⟨b,o,h1,Nat.lt_of_lt_of_le h2 hN,h3⟩
section
variable {F:Fence} {n:Nat}
theorem run_append_nilsrc {w:World} {t ty e:TypeId} {i:TypeInfo} (ht:Tryz.prog.underlying t = some (.slice e)) (hi:Tryz.prog.info? e = some i) {v:Value} {k size base c:Nat} {xs:List Value} (hown:w.ownsRow base e size v k xs) :
  (Builtin.append_ #[t,t] ty #[v,.slice none 0 c]).run Tryz.prog w = .ok v w:=by
 rcases hown.2 with ⟨rfl,_⟩ | ⟨g,cap,cur,rfl,_,hg,hnc,_,_⟩
 ·simp [Builtin.append_,run_underlying ht,sizeOf,typeInfo,hi,Builtin.lenOf,Builtin.firstCells,loadCells,loadCellsFrom]
 ·simp [Builtin.append_,run_underlying ht,sizeOf,typeInfo,hi,Builtin.lenOf,Builtin.firstCells,loadCells,loadCellsFrom,hnc,storeCells]
theorem append_pays {w:World} {o:Oper} {a:Act} {K:Act → World → Prop} {Q:Exit → Act → World → Prop} (s x:Operand) (hop:o.op = .call { callee:=.builtin .append,args:=#[s,x],argTypes:=#[25,25] })
  {base k:Nat} {v u:Value} {xs ys:List RPay} (hs:a.eval s = v) (hown:w.ownsRow base 56 5 v k (payCells xs)) (hx:a.eval x = u) (hy:PaysAt w u ys) (hk:k + ys.length ≤ 1000000) (hb:base ≤ w.heap.size)
  (hK:∀ v' w',w'.ownsRow base 56 5 v' (k + ys.length) (payCells (xs ++ ys)) → w.grownBy w' v.ownBlock → K (a.put o.dst v') w'):o.wpIn F n Tryz.prog a w K Q:=by
 obtain ⟨i0,hi0,hz0,hz1,hz2⟩:=info_parts Tryz.infoP;obtain ⟨b0,cap,rfl,hr⟩:=hy;have fin:∀ v' w',(Builtin.append_ #[25,25] o.type #[v,.slice b0 ys.length cap]).run Tryz.prog w = .ok v' w' → K (a.put o.dst v') w' → o.wpIn F n Tryz.prog a w K Q:=fun v' w' hrun h => by
  unfold Oper.wpIn;refine ⟨?_,?_⟩
  ·simp [Oper.about,hop,resolve,Target.leads,Sem.run_pure]
  ·rw [Oper.semAt_plain F _ _ (by rw [hop];intro c hc';cases hc')];simp [execOp,hop,resolve,invoke,builtin,hs,hx,hrun,Result.andThen];exact h
 rw [payCells_append] at hK;cases b0 with
 | none =>
  have hnil:ys = []:=by
   cases ys with
   | nil => rfl
   | cons y ys => obtain ⟨_,_,e,_⟩:=hr 0 y.row rfl;cases e
  subst hnil;refine fin _ _ (run_append_nilsrc Tryz.underlying25 hi0 hown) (hK v w ?_ ⟨rfl,rfl,rfl,Nat.le_refl _,fun _ _ _ => rfl⟩);simpa [payCells] using hown
 | some ad =>
  by_cases hne:ys = []
  ·subst hne;obtain ⟨v',w',hrun,r1,r2,r3⟩:=run_append_own (P:=Tryz.prog) w base 25 o.type 56 i0 _ 5 40 Tryz.underlying25 hi0 hz0 hz1 hz2 rfl (by decide) v k _ hown ad 0 cap [] rfl (fun j u h => by simp at h) (fun u h => by simp at h) (by unfold maxLen;simp at hk;omega) (by simp at hk;omega) hb;refine fin v' w' hrun (hK v' w' ?_ r2);simpa [payCells] using r1
  ·obtain ⟨v',w',hrun,r1,r2,r3⟩:=run_append_own (P:=Tryz.prog) w base 25 o.type 56 i0 _ 5 40 Tryz.underlying25 hi0 hz0 hz1 hz2 rfl (by decide) v k _ hown ad ys.length cap (payCells ys) (payCells_length ys) (PaysAt.cells hr hne) (fun u h => payCells_one h) (by unfold maxLen;omega) (by omega) hb;exact fin v' w' hrun (hK v' w' r1 r2)
end
end Go.Proofs.YtnkejaohnhpbpaaGreatDoor
end
section
namespace Go.Proofs.YtnkejaohnhpbpaaGreatDoor
open Go Go.RowKit Lift
theorem owns_poke {w:World} {N n size BO j:Nat} {e:TypeId} {v u:Value} {xs:List Value} (h:w.ownsRow N e size v n xs) (hB:BO < N):(w.setCell ⟨BO,j,none⟩ u).ownsRow N e size v n xs:=by
 refine ⟨h.1,?_⟩;rcases h.2 with hn | ⟨g,cap,cur,rfl,hb,hg,rest⟩
 ·exact .inl hn
 ·exact .inr ⟨g,cap,cur,rfl,hb,(Below.heap_setCell w ⟨BO,j,none⟩ u g (fun e => by simp at e;omega)).trans hg,rest⟩
section
variable {w0 w w1:World} {S0 S:Blks} {B BO j:Nat} {l:Lay} {b:RBook} {v:Value}
theorem LawAt.poke (E:LawAt w0 S0 w0.heap.size l b B w S) (h0:0 < w0.heap.size) (hb:Below w.heap.size w w1) (hlo:w0.heap.size ≤ BO) (hne:BO ≠ B):LawAt w0 S0 w0.heap.size l b B (w1.setCell ⟨BO,j,none⟩ v) S:=by
 have hbM:Below w0.heap.size w (w1.setCell ⟨BO,j,none⟩ v):=(hb.mono E.g.size).setCell (p:=⟨BO,j,none⟩) hlo v;exact ⟨E.g.trans (Grow.of hbM).s,E.bk.below hbM,(E.bx.below hb).set hne v,E.lo,E.kd.below hbM h0⟩
theorem RowsAt.growN {N size:Nat} {base:Option Addr} {rows:List (List Value)} {w w':World} (h:RowsAt N base size rows w) (hg:Grow N w w'):RowsAt N base size rows w':=fun i r hr => by
 obtain ⟨b,o,h1,h2,h3⟩:=h i r hr;refine ⟨b,o,h1,h2,fun j v hv => ?_⟩;have:=h3 j v hv;unfold World.cell? at this ⊢;rw [hg.block b h2];exact this
theorem LawAt.pokeG (E:LawAt w0 S0 w0.heap.size l b B w S) (h0:0 < w0.heap.size) (hb:Grow w.heap.size w w1) (hlo:w0.heap.size ≤ BO) (hne:BO ≠ B):LawAt w0 S0 w0.heap.size l b B (w1.setCell ⟨BO,j,none⟩ v) S:=by
 have hs:Below w0.heap.size w1 (w1.setCell ⟨BO,j,none⟩ v):=(Below.refl _ w1).setCell (p:=⟨BO,j,none⟩) hlo v;have hbM:Grow w0.heap.size w (w1.setCell ⟨BO,j,none⟩ v):=(hb.mono E.g.size).trans (Grow.of hs);exact ⟨E.g.trans hbM.s,⟨Nat.le_trans E.bk.hN hbM.size,E.bk.cs.growN hbM,E.bk.ts.growN hbM,E.bk.ks.growN hbM,E.bk.ps.growN hbM⟩,(E.bx.grow hb E.bx.lt).set hne v,E.lo,E.kd.grow hbM h0⟩
theorem RBkAt.with_ {N N':Nat} {base:Option Addr} {cap:Nat} {ps':List RPay} (h:RBkAt N l b w) (hN:N ≤ N') (hN':N' ≤ w.heap.size) (hv:RowsAt N' base 5 (ps'.map RPay.row) w) :
  RBkAt N' { l with pb:=base,pc:=cap } { b with ps:=ps' } w:=⟨hN',h.cs.mono hN,h.ts.mono hN,h.ks.mono hN,hv⟩
end
theorem owns_same {w w':World} {N n size:Nat} {e:TypeId} {v:Value} {xs:List Value} (h:w.ownsRow N e size v n xs) (hs:SameW w w'):w'.ownsRow N e size v n xs:=by
 unfold World.ownsRow at *;rw [hs.heap];exact h
end Go.Proofs.YtnkejaohnhpbpaaGreatDoor
end
