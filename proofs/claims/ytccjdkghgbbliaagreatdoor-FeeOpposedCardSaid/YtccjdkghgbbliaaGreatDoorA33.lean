/- held, called beside leavers on whatever tape: the sums by coin; the group's block is laid waste. -/
import Derived.Test.YtccjdkghgbbliaaGreatDoorA03
import Derived.Test.YtccjdkghgbbliaaGreatDoorA31
import Derived.Test.YtccjdkghgbbliaaGreatDoorA32
set_option linter.all false
namespace Go.Proofs.YtccjdkghgbbliaaGreatDoor
section
namespace Crew
set_option maxHeartbeats 1000000
set_option maxRecDepth 10000
open Go Go.Conc Go.ConcN Go.RowKit Go.Conc.Lib Go.ConcR.Gen Go.ConcN.Gen
open Go.ConcR (Payload DC0 WgAt KK wgBlock stA smA rd wr mk)
open Go.Proofs.YtccjdkghgbbliaaGreatDoor.Lift (blk Good Shn Poi Sane Reach Raw CallsR OkFrame Blks)
theorem Ox.of{Ok:Nat→Prop}{t:Til}{w w₁:World}(h:Ox Ok t w)(r':∀b,Ok b→∀o,w₁.cell? ⟨b,o,none⟩=w.cell? ⟨b,o,none⟩):Ox Ok t w₁:=by
 refine⟨h.sT,λj v hv=>(r' _ h.sT _).trans (h.book j v hv),(r' _ h.sT _).trans h.zY,λc hc=>?_,λc hc=>?_,λj hj=>?_⟩
 ·obtain⟨b,o,h1,h2,h3⟩:=h.st c hc;exact⟨b,o,h1,h2,λj v hv=>(r' _ h2 _).trans (h3 j v hv)⟩
 ·obtain⟨h0,b,o,h1,h2,h3⟩:=h.ks c hc;exact⟨h0,b,o,h1,h2,(r' _ h2 _).trans h3⟩
 ·obtain⟨b,o,h1,h2,h3⟩:=h.ts j hj;exact⟨b,o,h1,h2,(r' _ h2 _).trans h3⟩
def Til.out(t:Til)(nw c:Nat):Value:=if c<nw then t.val c else .int .i64 0
structure H8 (t:Til) (nw:Nat) (w:World) (S:Blks) (v:Value) (w':World) (S':Blks):Prop where
 val:v=.agg #[t.out nw 0,t.out nw 1,t.out nw 2]
 shun:∀b,S' b→S b∨w.heap.size≤b
 size:w.heap.size≤w'.heap.size
 old:∀b,b<w.heap.size→w'.heap[b]?=w.heap[b]?
 os:w'.os=w.os
 output:w'.output=w.output
theorem out_one(t:Til)(nw c:Nat):(t.out nw c).oneCell'=true:=by
 unfold Til.out;split<;>rfl
theorem Ru:Tryz.f80.body=some (Tryz.f80.body.getD .skip):=rfl
theorem at60(p:Value)(c:Code):(base 80).at { tmps:=#[p]++Array.replicate (21 - #[p].size) undef,defers:=[] } [.code c]=b60.at ⟨#[p,undef,undef,undef,undef,undef,undef,undef,undef,undef,undef,undef,undef,undef,undef,undef,undef,undef,undef,undef,undef],[]⟩ [.code c]:=by
 have e:#[p]++Array.replicate (21 - #[p].size) undef=#[p,undef,undef,undef,undef,undef,undef,undef,undef,undef,undef,undef,undef,undef,undef,undef,undef,undef,undef,undef,undef]:=by
  apply Array.ext';simp[List.replicate]
 rw[e,b60]
theorem enter60(p:Value):Frame.enter Tryz.prog 80 #[p] .normal=b60.at ⟨#[p,undef,undef,undef,undef,undef,undef,undef,undef,undef,undef,undef,undef,undef,undef,undef,undef,undef,undef,undef,undef],[]⟩ [.code (Tryz.f80.body.getD .skip)]:=by
 rw[enter_at (fn:=Tryz.f80) _ Tryz.func80 Ru,Tryz.ntmps80];exact at60 p _
theorem Q5(t:Til)(x c:Nat):∀j,Til.acc { t with b1:=x } c j=t.acc c j
 |0=>rfl
 |j+1=>by simp only[Til.acc,Q5 t x c j]
theorem val_b1(t:Til)(x c:Nat):Til.val { t with b1:=x } c=t.val c:=by simp only[Til.val,Q5]
theorem heldR[Lift.Keep](t:Til)(nw:Nat)(cb:Option Addr)(KJ:Nat)(hvc:t.vc=.slice cb nw KJ)(hnw:nw≤3)(htn:(t.n:Int)<9223372036854775807)(w:World)(S:Blks)(hlim:Lift.Keep.lim≤w.heap.size)
  (hT:Ox (λb=>b<w.heap.size∧¬S b) t w):CallsR Tryz.prog Inside 80 #[.pointer (some ⟨t.T,0,none⟩)] w S (H8 t nw w S):=by
 intro c cs Φ hcF hcf hcs hn gs wa sl tr q h0 hL hP hp;have hsz:w.heap.size=wa.heap.size:=hp.size;have Ll:∀b,S b→b<wa.heap.size:=λb hb=>by
  obtain⟨_,_,h1,_⟩:=hp.iP b hb;exact(Array.getElem?_eq_some_iff.1 h1).1
 have hgd:Gd Tryz.prog wa:=λb o hb=>True.intro;have hTa:Ox (λb=>b<wa.heap.size∧¬S b) t wa:=by
  rw[hsz]at hT;exact hT.of λb hb o=>hp.cellEq (a:=⟨b,o,none⟩) hb.2
 rw[enter60]at h0;obtain⟨n1,hA1⟩:=segA (S:=S) t nw wa.heap.size cb KJ hvc (c::cs) wa rfl Ll hTa.sT.1 hTa.sT.2 hTa.book hgd;obtain⟨M1,gs1,a1,w1,sl1,t1,q1,r1,_,h01,⟨a,rfl,hsh,Ku⟩,hL1,hP1⟩:=walk_beside (P:=Tryz.prog) (Shun:=Shn S) (B:=wa.heap.size+4) (D:=DA S (wa.heap.size+4)) (λw w' es hd=>hd) _ n1 gs _ wa sl tr q (ak _) h0 hL (hP.mono (by omega)) hA1;have hS3:¬S (wa.heap.size+3):=λh=>by have:=Ll _ h;omega
 have hS2:¬S (wa.heap.size+2):=λh=>by have:=Ll _ h;omega
 have hS1:¬S (wa.heap.size+1):=λh=>by have:=Ll _ h;omega
 have ne:wa.heap.size+2≠wa.heap.size+3:=by omega
 have hW:wa.heap.size+3<wa.heap.size+4:=by omega
 have hC:wa.heap.size+2<wa.heap.size+4:=by omega
 have hold1:∀b,b<wa.heap.size→w1.heap[b]?=wa.heap[b]?:=Ku.old;have SL:=hTa.of (w₁:=w1) λb hb o=>by simp only[World.cell?,hold1 b hb.1]
 have hst:∀b,(b<wa.heap.size∧¬S b)→Still (cf S (wa.heap.size+3) (wa.heap.size+2) (wa.heap.size+4) ne hW hC) b:=λb hb=>⟨by show b<wa.heap.size+4;have:=hb.1;omega,by show b≠wa.heap.size+2;have:=hb.1;omega,by show b≠wa.heap.size+3;have:=hb.1;omega,hb.2⟩
 have hbox:=Ku.box (by omega)
 have htil:jP (cf S (wa.heap.size+3) (wa.heap.size+2) (wa.heap.size+4) ne hW hC) { t with b1:=wa.heap.size } w1:=
  ⟨⟨by show wa.heap.size<wa.heap.size+4;omega,by show wa.heap.size≠wa.heap.size+2;omega,by show wa.heap.size≠wa.heap.size+3;omega,λh=>Nat.lt_irrefl _ (Ll _ h)⟩,hst _ hTa.sT,by show w1.cell? ⟨wa.heap.size,0,none⟩=_;simp[World.cell?,hbox],SL.book,SL.zY,
   λc hc=>let ⟨b,o,k1,k2,k3⟩:=SL.st c hc;⟨b,o,k1,hst b k2,k3⟩,λc hc=>let ⟨k0,b,o,k1,k2,k3⟩:=SL.ks c hc;⟨k0,b,o,k1,hst b k2,k3⟩,λc hc=>let ⟨b,o,k1,k2,k3⟩:=SL.ts c hc;⟨b,o,k1,hst b k2,k3⟩⟩
 have hsz1:w1.heap.size=wa.heap.size+4:=Ku.size;have hout1:=Ku.out (by omega);have hgrp1:=Ku.grp (by omega);have hres1:=Ku.res (by omega)
 obtain⟨M2,gs2,w2,sl2,t2,r2,hJ⟩:=Lp (S:=S) (ne:=ne) (hW:=hW) (hC:=hC) { t with b1:=wa.heap.size } nw (wa.heap.size+1) hnw htn (c::cs) hS3 hS2 sl1 hsh h01 hL1 (by rw[hsz1];exact hP1)
  ⟨htil,by rw[hsz1];exact ak _,λ_ h=>h.elim,λ_ h=>h.elim,⟨_,hout1,rfl⟩,0,0,hgrp1⟩ Ku.good hgrp1 hout1
 obtain⟨a2,hsh2,h02⟩:=hJ.g0;obtain⟨q2,hL2⟩:=hJ.leavers;have hres2:w2.heap[wa.heap.size+1]?=some (.cells #[.int .i64 0,.int .i64 0,.int .i64 0] 131):=(hJ.low _ (by omega) (by omega) (by omega)).trans hres1;have hAR:AR (.tuple #[]) (λb=>S b∨b=wa.heap.size+3) w2.heap.size (wa.heap.size+1) (wa.heap.size+2) w2 (t.out nw 0) (t.out nw 1) (t.out nw 2) w2:=⟨rfl,λ_ _=>rfl,by simpa only[Til.out,val_b1]using hJ.out,⟨_,hres2,rfl⟩,hJ.good,⟨rfl,rfl⟩⟩
 have hB2:=hJ.hB
 have hB':=segB (S':=λb=>S b∨b=wa.heap.size+3) (Bd:=w2.heap.size) hsh2 c cs (w0:=w2) (v0:=t.out nw 0) (v1:=t.out nw 1) (v2:=t.out nw 2) (λh=>h.elim hS2 (by omega)) (λh=>h.elim hS1 (by omega)) (by omega) (by omega) (by omega)
  (λv hv=>by simp only[List.mem_cons,List.not_mem_nil,or_false]at hv;rcases hv with rfl|rfl|rfl<;>exact out_one _ _ _) w2 hAR
 obtain⟨M3,gs3,a3,w3,sl3,t3,q3,r3,_,h03,⟨rfl,SK⟩,hL3,hP3⟩:=walk_beside (P:=Tryz.prog) (Shun:=Shn λb=>S b∨b=wa.heap.size+3) (B:=w2.heap.size) (D:=DA (λb=>S b∨b=wa.heap.size+3) w2.heap.size) (λw w' es hd=>hd) _ 40 gs2 _ w2 sl2 t2 q2 (ak _) h02 hL2 hJ.past hB';have hsz3:w3.heap.size=w2.heap.size:=SK.size;have NY:∀b,b<wa.heap.size→w3.heap[b]?=wa.heap[b]?:=λb hb=>((SK.old b (by omega)).trans (hJ.low b (by omega) (by omega) (by omega))).trans (hold1 b hb);have hwg3:w3.heap[wa.heap.size+3]?=some (wgBlock 268 0 0):=(SK.old _ (by omega)).trans hJ.UG;have I8:Poi Tryz.prog (λb=>S b∨b=wa.heap.size+3) (waste Tryz.prog (λb=>S b∨b=wa.heap.size+3) w3) w3:=Fg (λb hb=>by
  rcases hb with hb|rfl
  ·obtain⟨cc,e,k1,_⟩:=hp.iP b hb;exact⟨cc,e,(NY b (Ll b hb)).trans k1⟩
  ·exact⟨_,_,hwg3⟩) (λb o hb ho hg hl=>by
  have hbl:b<wa.heap.size:=by omega
  rw[NY b hbl]at ho;rcases hp.same b (λh=>hb (.inl h))with e|⟨_,o',e,_,he⟩
  ·exact absurd (hp.views b o (e.trans ho)) hg
  ·rw[ho]at e;cases e;exact he hl)
 have hpost:H8 t nw w S (.agg #[t.out nw 0,t.out nw 1,t.out nw 2]) (waste Tryz.prog (λb=>S b∨b=wa.heap.size+3) w3) (λb=>S b∨b=wa.heap.size+3):=by
  refine⟨rfl,λb hb=>hb.imp id (λh=>by omega),by rw[mG];omega,λb hb=>?_,?_,?_⟩
  ·by_cases hs:S b
   ·obtain⟨cc,e,k1,k2⟩:=hp.iP b hs;rw[k2];exact qj (.inl hs) ((NY b (Ll b hs)).trans k1)
   ·exact J7 hp hs (by intro h;rcases h with h|h;exact hs h;omega) (NY b (by omega))
  ·show w3.os=w.os
   rw[SK.env.1,hJ.env.1,Ku.env.1,hp.os]
  ·show w3.output=w.output
   rw[SK.env.2,hJ.env.2,Ku.env.2,hp.out]
 obtain⟨M4,gs4,g4,w4,S4,wa4,sl4,t4,q4,r4,h04,hQ4,hL4,hP4,hp4⟩:=hn _ _ _ hpost ⟨⟨rfl,rfl,.inl (by show Inside (c.finish _).fn;rw[Lift.Ej];exact hcF)⟩,hcf.finish _,hcs⟩ gs3 w3 sl3 t3 q3 h03 hL3 (by rw[hsz3];exact hP3) I8;refine⟨M1+(M2+(M3+M4)),gs4,g4,w4,S4,wa4,sl4,t4,q4,?_,h04,hQ4,hL4,hP4,hp4⟩;rw[runNT_add,r1]
 show runNT _ _ _ _=_
 rw[runNT_add,r2]
 show runNT _ _ _ _=_
 rw[runNT_add,r3];exact r4
end Crew
end
