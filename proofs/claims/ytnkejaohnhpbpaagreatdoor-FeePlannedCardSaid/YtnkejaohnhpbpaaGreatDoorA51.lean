/- What stands on a day hangs on the payments of each day alone; in plain words. -/
import Derived.Test.YtnkejaohnhpbpaaGreatDoorA11
set_option linter.all false
namespace Go.Proofs.YtnkejaohnhpbpaaGreatDoor
open Go Go.RowKit
def St.nov (s:St):St:={ s with voids:=[] }
def fundP (p:Pay) (s:St):St:=(s.addPd p.coin p.amount).addAcc p.coin p.amount
def insP (b:Book) (d:Int) (s:St) (p:Pay):St:=
 if p.day = d ∧ p.kind ≠ 2 then (if p.kind = 1 then fundP p s else if (s.cases p.cas).state = 0 ∧ p.coin = b.coin p.cas then (s.addPd p.coin p.amount).addHeld p.cas p.amount else fundP p s) else s
def okP (p:Pay) (s:St):Prop:=¬ (s.acc 0 = 0 ∧ s.acc 1 = 0 ∧ s.acc 2 = 0) ∧ (s.cases p.cas).state = 0 ∧ 0 ≤ wrap64 (s.acc p.coin - p.amount)
instance (p:Pay) (s:St):Decidable (okP p s):=by unfold okP;exact inferInstance
def mvP (b:Book) (p:Pay) (s:St):St:=if okP p s then ((s.subAcc p.coin p.amount).addHeld p.cas p.amount).keep b p.day else s
def mvsP (b:Book) (d:Int) (s:St) (p:Pay):St:=if p.day = d ∧ p.kind = 2 then mvP b p s else s
def dayP (b:Book) (ps:List Pay) (d:Int) (s:St):St:=ps.foldl (mvsP b d) ((ps.foldl (insP b d) (s.lapse b d)).keep b d)
theorem iter_nov {f:Nat → St → St} (h:∀ c s,(f c s).nov = f c s.nov):∀ k s,(iter f k s).nov = iter f k s.nov
 | 0,_ => rfl
 | k + 1,s => by simp only [iter];rw [h,iter_nov h k s]
theorem lapse_nov (b:Book) (d:Int) (s:St):(s.lapse b d).nov = s.nov.lapse b d:=iter_nov (fun c s => by
 unfold St.lapse1;by_cases h:(b.fee c d).2 = false ∧ (s.cases c).state = 0
 ·have h':(b.fee c d).2 = false ∧ (s.nov.cases c).state = 0:=h;rw [if_pos h,if_pos h'];rfl
 ·have h':¬ ((b.fee c d).2 = false ∧ (s.nov.cases c).state = 0):=h;rw [if_neg h,if_neg h']) _ _
theorem keep_nov (b:Book) (d:Int) (s:St):(s.keep b d).nov = s.nov.keep b d:=iter_nov (fun c s => by
 unfold St.keep1;by_cases h:(s.cases c).state = 0 ∧ (b.fee c d).2 = true ∧ (b.fee c d).1 ≤ (s.cases c).held
 ·have h':(s.nov.cases c).state = 0 ∧ (b.fee c d).2 = true ∧ (b.fee c d).1 ≤ (s.nov.cases c).held:=h;rw [if_pos h,if_pos h'];rfl
 ·have h':¬ ((s.nov.cases c).state = 0 ∧ (b.fee c d).2 = true ∧ (b.fee c d).1 ≤ (s.nov.cases c).held):=h;rw [if_neg h,if_neg h']) _ _
theorem ins1_P (b:Book) (d:Int) (i:Nat) (s:St):(St.ins1 b d i s).nov = insP b d s.nov (b.payAt i):=by
 unfold St.ins1 insP;by_cases h:(b.payAt i).day = d ∧ (b.payAt i).kind ≠ 2
 ·rw [if_pos h,if_pos h];by_cases h1:(b.payAt i).kind = 1
  ·rw [if_pos h1,if_pos h1];rfl
  ·rw [if_neg h1,if_neg h1];unfold St.inn;by_cases h2:(s.cases (b.payAt i).cas).state = 0 ∧ (b.payAt i).coin = b.coin (b.payAt i).cas
   ·have h2':(s.nov.cases (b.payAt i).cas).state = 0 ∧ (b.payAt i).coin = b.coin (b.payAt i).cas:=h2;rw [if_pos h2,if_pos h2'];rfl
   ·have h2':¬ ((s.nov.cases (b.payAt i).cas).state = 0 ∧ (b.payAt i).coin = b.coin (b.payAt i).cas):=h2;rw [if_neg h2,if_neg h2'];rfl
 ·rw [if_neg h,if_neg h]
theorem mv_P (b:Book) (i:Nat) (s:St):(s.mv b i).nov = mvP b (b.payAt i) s.nov:=by
 unfold St.mv mvP;by_cases h:St.mvOk b i s
 ·have h':okP (b.payAt i) s.nov:=h;rw [if_pos h,if_pos h',keep_nov];rfl
 ·have h':¬ okP (b.payAt i) s.nov:=h;rw [if_neg h,if_neg h'];rfl
theorem mvs1_P (b:Book) (d:Int) (i:Nat) (s:St):(St.mvs1 b d i s).nov = mvsP b d s.nov (b.payAt i):=by
 unfold St.mvs1 mvsP;split
 ·exact mv_P b i s
 ·rfl
theorem iter_fold (b:Book) {f:Nat → St → St} {g:St → Pay → St} (h:∀ i s,(f i s).nov = g s.nov (b.payAt i)) (s:St):∀ k,k ≤ b.ps.length → (iter f k s).nov = (b.ps.take k).foldl g s.nov
 | 0,_ => by simp [iter]
 | k + 1,hk => by
  have e:b.ps[k]? = some (b.payAt k):=by simp [Book.payAt,show k < b.ps.length by omega]
  rw [List.take_add_one,e,List.foldl_append,← iter_fold b h s k (by omega)];exact h k _
theorem ins_fold (b:Book) (d:Int) (s:St):(s.ins b d).nov = b.ps.foldl (insP b d) s.nov:=by
 have:=iter_fold b (ins1_P b d) s b.ps.length (Nat.le_refl _);rw [List.take_length] at this;exact this
theorem mvs_fold (b:Book) (d:Int) (s:St):(s.mvs b d).nov = b.ps.foldl (mvsP b d) s.nov:=by
 have:=iter_fold b (mvs1_P b d) s b.ps.length (Nat.le_refl _);rw [List.take_length] at this;exact this
theorem day1_nov (b:Book) (s:St) (d:Int):(St.day1 b s d).nov = dayP b b.ps d s.nov:=by
 unfold St.day1 dayP;rw [mvs_fold,keep_nov,ins_fold,lapse_nov]
theorem iter_id {f:Nat → St → St} {s:St}:∀ k,(∀ c,c < k → f c s = s) → iter f k s = s
 | 0,_ => rfl
 | k + 1,h => by simp only [iter];rw [iter_id k fun c hc => h c (by omega),h k (by omega)]
theorem fold_id {α β:Type} {f:β → α → β} {s:β}:∀ {l:List α},(∀ p ∈ l,f s p = s) → l.foldl f s = s
 | [],_ => rfl
 | p :: l,h => by rw [List.foldl_cons,h p (by simp),fold_id fun q hq => h q (by simp [hq])]
theorem dayP_idle {b:Book} (hv:Valid b) {n:Int} (hn:n + 1 ∉ b.evdays) {s:St} (hA:∀ c,c < b.cs.length → Aft b c n (s.cases c)):dayP b b.ps (n + 1) s = s:=by
 have hnx:=fun c hc => (hA c hc).next hv hc hn;have hday:∀ p ∈ b.ps,p.day ≠ n + 1:=fun p hp e => hn (by
  rw [b.mem_evdays,← e];unfold Book.dayList;exact List.mem_cons_of_mem _ (List.mem_append_left _ (List.mem_map.2 ⟨p,hp,rfl⟩)))
 have h1:s.lapse b (n + 1) = s:=iter_id _ fun c hc => by
  unfold St.lapse1;rw [if_neg];rintro ⟨k1,k2⟩;rcases hnx c hc with h | h | h
  ·rw [h.2.2.2.2.2] at k1;cases k1
  ·have:=h.1;omega
  ·have:=h.1;omega
 have h2:b.ps.foldl (insP b (n + 1)) s = s:=fold_id fun p hp => by
  unfold insP;rw [if_neg fun h => hday p hp h.1]
 have h3:s.keep b (n + 1) = s:=iter_id _ fun c hc => by
  unfold St.keep1;rw [if_neg];rintro ⟨k1,k2,k3⟩;rcases hnx c hc with h | h | h
  ·have:=h.2.2.2.2.1;omega
  ·have:=h.1;omega
  ·have:=h.1;omega
 unfold dayP;rw [h1,h2,h3];exact fold_id fun p hp => by unfold mvsP;rw [if_neg fun h => hday p hp h.1]
theorem after_dayP {b:Book} (hv:Valid b) (n:Nat):(b.after (n + 1:Nat)).nov = dayP b b.ps (n + 1:Nat) (b.after n).nov:=by
 have e2:((n + 1:Nat):Int) = (n:Int) + 1:=by omega
 rw [e2,b.after_succ n];split
 ·exact day1_nov b _ _
 ·rename_i h;exact (dayP_idle (s:=(b.after n).nov) hv h fun c hc => after_aft hv n c hc).symm
theorem after_dayP0 {b:Book} (hv:Valid b):(b.after 0).nov = dayP b b.ps 0 St.init:=by
 have e:=b.after_succ (-1);rw [show (-1:Int) + 1 = 0 from rfl,if_pos b.zero_ev,hv.after_zero] at e;rw [e];exact day1_nov b _ _
theorem fold_filter {α β:Type} {f:β → α → β} {q:α → Bool} (h:∀ s p,q p = false → f s p = s):∀ (l:List α) (s:β),l.foldl f s = (l.filter q).foldl f s
 | [],_ => rfl
 | p :: l,s => by
  cases hq:q p with
  | true => rw [List.filter_cons_of_pos hq,List.foldl_cons,List.foldl_cons,fold_filter h l]
  | false => rw [List.filter_cons_of_neg (by simp [hq]),List.foldl_cons,h s p hq,fold_filter h l]
def inOn (d:Int) (p:Pay):Bool:=decide (p.day = d ∧ p.kind ≠ 2)
def mvOn (d:Int) (p:Pay):Bool:=decide (p.day = d ∧ p.kind = 2)
theorem ins_filter (b:Book) (d:Int) (l:List Pay) (s:St):l.foldl (insP b d) s = (l.filter (inOn d)).foldl (insP b d) s:=
 fold_filter (fun s p h => by unfold insP;rw [if_neg];simpa [inOn] using h) l s
theorem mvs_filter (b:Book) (d:Int) (l:List Pay) (s:St):l.foldl (mvsP b d) s = (l.filter (mvOn d)).foldl (mvsP b d) s:=
 fold_filter (fun s p h => by unfold mvsP;rw [if_neg];simpa [mvOn] using h) l s
def hit (b:Book) (s:St) (p:Pay):Prop:=p.kind ≠ 1 ∧ (s.cases p.cas).state = 0 ∧ p.coin = b.coin p.cas
instance (b:Book) (s:St) (p:Pay):Decidable (hit b s p):=by unfold hit;exact inferInstance
def act (d:Int) (p:Pay):Prop:=p.day = d ∧ p.kind ≠ 2
instance (d:Int) (p:Pay):Decidable (act d p):=by unfold act;exact inferInstance
theorem insP_pd (b:Book) (d:Int) (s:St) (p:Pay) (k:Nat):(insP b d s p).pd k = if act d p ∧ k = p.coin then wrap64 (s.pd k + p.amount) else s.pd k:=by
 unfold insP act;by_cases h:p.day = d ∧ p.kind ≠ 2
 ·rw [if_pos h];by_cases h1:p.kind = 1
  ·rw [if_pos h1];by_cases e:k = p.coin
   ·rw [if_pos ⟨h,e⟩];subst e;simp [fundP,St.addPd,St.addAcc,upd]
   ·rw [if_neg fun q => e q.2];simp [fundP,St.addPd,St.addAcc,upd,e]
  ·rw [if_neg h1];by_cases h2:(s.cases p.cas).state = 0 ∧ p.coin = b.coin p.cas
   ·rw [if_pos h2];by_cases e:k = p.coin
    ·rw [if_pos ⟨h,e⟩];subst e;simp [St.addPd,St.addHeld,St.setHeld,upd]
    ·rw [if_neg fun q => e q.2];simp [St.addPd,St.addHeld,St.setHeld,upd,e]
   ·rw [if_neg h2];by_cases e:k = p.coin
    ·rw [if_pos ⟨h,e⟩];subst e;simp [fundP,St.addPd,St.addAcc,upd]
    ·rw [if_neg fun q => e q.2];simp [fundP,St.addPd,St.addAcc,upd,e]
 ·rw [if_neg h,if_neg fun q => h q.1]
theorem insP_acc (b:Book) (d:Int) (s:St) (p:Pay) (k:Nat):(insP b d s p).acc k = if act d p ∧ ¬ hit b s p ∧ k = p.coin then wrap64 (s.acc k + p.amount) else s.acc k:=by
 unfold insP act hit;by_cases h:p.day = d ∧ p.kind ≠ 2
 ·rw [if_pos h];by_cases h1:p.kind = 1
  ·rw [if_pos h1];by_cases e:k = p.coin
   ·rw [if_pos ⟨h,fun q => q.1 h1,e⟩];subst e;simp [fundP,St.addPd,St.addAcc,upd]
   ·rw [if_neg fun q => e q.2.2];simp [fundP,St.addPd,St.addAcc,upd,e]
  ·rw [if_neg h1];by_cases h2:(s.cases p.cas).state = 0 ∧ p.coin = b.coin p.cas
   ·rw [if_pos h2,if_neg fun q => q.2.1 ⟨h1,h2⟩];simp [St.addPd,St.addHeld,St.setHeld]
   ·rw [if_neg h2];by_cases e:k = p.coin
    ·rw [if_pos ⟨h,fun q => h2 q.2,e⟩];subst e;simp [fundP,St.addPd,St.addAcc,upd]
    ·rw [if_neg fun q => e q.2.2];simp [fundP,St.addPd,St.addAcc,upd,e]
 ·rw [if_neg h,if_neg fun q => h q.1]
theorem insP_cases (b:Book) (d:Int) (s:St) (p:Pay) (c:Nat):(insP b d s p).cases c = if act d p ∧ hit b s p ∧ c = p.cas then { s.cases c with held:=wrap64 ((s.cases c).held + p.amount) } else s.cases c:=by
 unfold insP act hit;by_cases h:p.day = d ∧ p.kind ≠ 2
 ·rw [if_pos h];by_cases h1:p.kind = 1
  ·rw [if_pos h1,if_neg fun q => q.2.1.1 h1];simp [fundP,St.addPd,St.addAcc]
  ·rw [if_neg h1];by_cases h2:(s.cases p.cas).state = 0 ∧ p.coin = b.coin p.cas
   ·rw [if_pos h2];by_cases e:c = p.cas
    ·rw [if_pos ⟨h,⟨h1,h2⟩,e⟩];subst e;simp [St.addPd,St.addHeld,St.setHeld,upd]
    ·rw [if_neg fun q => e q.2.2];simp [St.addPd,St.addHeld,St.setHeld,upd,e]
   ·rw [if_neg h2,if_neg fun q => h2 q.2.1.2];simp [fundP,St.addPd,St.addAcc]
 ·rw [if_neg h,if_neg fun q => h q.1]
theorem insP_tkn (b:Book) (d:Int) (s:St) (p:Pay):(insP b d s p).tkn = s.tkn:=by
 unfold insP;split
 ·split
  ·rfl
  ·split <;> rfl
 ·rfl
theorem insP_voids (b:Book) (d:Int) (s:St) (p:Pay):(insP b d s p).voids = s.voids:=by
 unfold insP;split
 ·split
  ·rfl
  ·split <;> rfl
 ·rfl
theorem insP_hit (b:Book) (d:Int) (s:St) (p q:Pay):hit b (insP b d s p) q ↔ hit b s q:=by
 have:((insP b d s p).cases q.cas).state = (s.cases q.cas).state:=by rw [insP_cases];split <;> rfl
 unfold hit;rw [this]
theorem wrap_swap (x a b:Int):wrap64 (wrap64 (x + a) + b) = wrap64 (wrap64 (x + b) + a):=by unfold wrap64;omega
theorem St.ext' {s t:St} (h1:∀ c,s.cases c = t.cases c) (h2:∀ k,s.acc k = t.acc k) (h3:s.tkn = t.tkn) (h4:∀ k,s.pd k = t.pd k) (h5:s.voids = t.voids):s = t:=by
 obtain ⟨a,b,c,d,e⟩:=s;obtain ⟨a',b',c',d',e'⟩:=t;simp only at h1 h2 h3 h4 h5;rw [funext h1,funext h2,h3,funext h4,h5]
theorem insP_swap (b:Book) (d:Int) (s:St) (p q:Pay):insP b d (insP b d s p) q = insP b d (insP b d s q) p:=by
 refine St.ext' (fun c => ?_) (fun k => ?_) (by simp only [insP_tkn]) (fun k => ?_) (by simp only [insP_voids])
 ·rw [insP_cases b d (insP b d s p) q,insP_cases b d (insP b d s q) p,insP_cases,insP_cases];simp only [insP_hit];by_cases h1:act d p ∧ hit b s p ∧ c = p.cas
  ·by_cases h2:act d q ∧ hit b s q ∧ c = q.cas
   ·simp only [if_pos h1,if_pos h2,wrap_swap]
   ·simp only [if_pos h1,if_neg h2]
  ·by_cases h2:act d q ∧ hit b s q ∧ c = q.cas
   ·simp only [if_neg h1,if_pos h2]
   ·simp only [if_neg h1,if_neg h2]
 ·rw [insP_acc b d (insP b d s p) q,insP_acc b d (insP b d s q) p,insP_acc,insP_acc];simp only [insP_hit];by_cases h1:act d p ∧ ¬ hit b s p ∧ k = p.coin
  ·by_cases h2:act d q ∧ ¬ hit b s q ∧ k = q.coin
   ·simp only [if_pos h1,if_pos h2,wrap_swap]
   ·simp only [if_pos h1,if_neg h2]
  ·by_cases h2:act d q ∧ ¬ hit b s q ∧ k = q.coin
   ·simp only [if_neg h1,if_pos h2]
   ·simp only [if_neg h1,if_neg h2]
 ·rw [insP_pd b d (insP b d s p) q,insP_pd b d (insP b d s q) p,insP_pd,insP_pd];by_cases h1:act d p ∧ k = p.coin
  ·by_cases h2:act d q ∧ k = q.coin
   ·simp only [if_pos h1,if_pos h2,wrap_swap]
   ·simp only [if_pos h1,if_neg h2]
  ·by_cases h2:act d q ∧ k = q.coin
   ·simp only [if_neg h1,if_pos h2]
   ·simp only [if_neg h1,if_neg h2]
theorem ins_perm (b:Book) (d:Int) {l l':List Pay} (h:l.Perm l') (s:St):l.foldl (insP b d) s = l'.foldl (insP b d) s:=
 h.foldl_eq' (fun p _ q _ s => insP_swap b d s p q) s
theorem dayP_alike (b:Book) {ps ps':List Pay} {d:Int} (h1:(ps.filter (inOn d)).Perm (ps'.filter (inOn d))) (h2:ps.filter (mvOn d) = ps'.filter (mvOn d)) (s:St):dayP b ps d s = dayP b ps' d s:=by
 unfold dayP;rw [ins_filter b d ps,ins_filter b d ps',ins_perm b d h1,mvs_filter b d ps,mvs_filter b d ps',h2]
structure Alike (b b':Book) (n:Int):Prop where
 cases:∀ c,(b.after n).cases c = (b'.after n).cases c
 acc:∀ k,(b.after n).acc k = (b'.after n).acc k
 tkn:∀ k,(b.after n).tkn k = (b'.after n).tkn k
 pd:∀ k,(b.after n).pd k = (b'.after n).pd k
theorem Alike.of {b b':Book} {n:Int} (h:(b.after n).nov = (b'.after n).nov):Alike b b' n:=
 ⟨fun c => congrFun (congrArg St.cases h) c,fun k => congrFun (congrArg St.acc h) k,fun k => congrFun (congrArg St.tkn h) k,fun k => congrFun (congrArg St.pd h) k⟩
end Go.Proofs.YtnkejaohnhpbpaaGreatDoor
