/- The starter's way through (*WaitGroup).Wait, in company: printed by x11.py. Nothing of the program stands here. -/
import Derived.Test.YtccjdkghgbbliaaGreatDoorA26
set_option linter.all false
namespace Go.Proofs.YtccjdkghgbbliaaGreatDoor
section
namespace Crew
set_option maxHeartbeats 1000000
set_option maxRecDepth 10000
open Go Go.Conc Go.ConcN Go.RowKit Go.Conc.Lib Go.ConcR.Gen Go.ConcN.Gen
open Go.ConcR (KK wgBlock WgAt stA smA rd wr mk Payload DC0)
variable [Payload] {L:WgLink}
theorem atr{w w₁ w₂:World}(h:AtRel w w₁)(k:AtRel w₁ w₂):AtRel w w₂:=atRel_trans _ _ _ h k
def Nu(X:Cf)(L:WgLink)(F:World→Prop)(cc:Frame)(cs:List Frame):Goroutine→World→Own→Prop:=λg w _=>
 ∃T:Array Value,g=G ((base L.wait).at ⟨T,[]⟩ [.code (L7 L),.inLoop (L7 L),.inBlock 0]) (cc::cs)∧T.size=84∧T[0]?=some (.pointer (some ⟨X.Wg,0,none⟩))∧F w∧WgLive X.ty X.Wg w
def FinO(P:Program)(tgt:Goroutine):Goroutine→World→Own→Prop:=λg w _=>∃m,Goes P true AtRel DC0 (λg' w'=>g'=tgt∧AtRel w w') m g w
section
variable {X:Cf} {F:World→Prop} {O:Own} {b₀:Frame} {a₀:Act} {ops₀:Array Oper} {i₀:Nat} {rest₀:List Nat} {k₀:List Item} {cs:List Frame}
set_option maxRecDepth 100000 in
theorem waitStart(H:WgLib X.P L)(aQ:∀w w₁,dh X X.n O w w₁→F w→F w₁)(w:World)(hF:F w∧WgLive X.ty X.Wg w) :
  GO X true X.n (AtKd X (Nu X L F (b₀.at a₀ (.inRegion ops₀ (i₀::rest₀)::k₀)) cs)) 20
   (G ((base L.wait).at ⟨#[.pointer (some ⟨X.Wg,0,none⟩),undef,undef,undef,undef,undef,undef,undef,undef,undef,undef,undef,undef,undef,undef,undef,undef,undef,undef,undef,undef,undef,undef,undef,undef,undef,undef,undef,undef,undef,undef,undef,undef,undef,undef,undef,undef,undef,undef,undef,undef,undef,undef,undef,undef,undef,undef,undef,undef,undef,undef,undef,undef,undef,undef,undef,undef,undef,undef,undef,undef,undef,undef,undef,undef,undef,undef,undef,undef,undef,undef,undef,undef,undef,undef,undef,undef,undef,undef,undef,undef,undef,undef,undef],[]⟩ [.code (body_wait L)]) (b₀.at a₀ (.inRegion ops₀ (i₀::rest₀)::k₀)::cs)) w O:=by
 lib_facts
 simp only[body_wait,waitFn,Option.getD_some];refine GO.dY (m:=0) (k:=20) (λ_ _ h=>h) ?_
 u_c stepG_seq (fl aQ) hF;u_cond true (fl aQ) hF;u_reg (fl aQ) hF
 refine Goes.stop λw1 h1=>GO.stop λv1 k1=>?_;replace hF:=fl aQ (fl aQ hF h1) k1;clear h1 k1;refine⟨rfl,_,stepG_mark0 .disable (by simp) rfl rfl (by k_ne) rfl H.f_disable (x_disable_n L) (x_disable_b L) (x_disable_x L) (x_disable_f L),0+20,GO.dY (m:=0) (k:=20) (λ_ _ h=>h) ?_⟩
 walk_nrm
 u_c stepG_region_end (fl aQ) hF;u_c stepG_block (fl aQ) hF
 u_c stepG_loop (fl aQ) hF
 exact Goes.stop λw2 h2=>GO.stop λv2 k2=>⟨_,rfl,by simp,by simp,fl aQ (fl aQ hF h2) k2⟩
set_option maxRecDepth 100000 in
set_option maxHeartbeats 32000000 in
theorem waitRound(H:WgLib X.P L)(hX:X.ty=L.tWg)(aQ:∀O w w₁,dh X X.n O w w₁→F w→F w₁)(hFW:∀w a v,a.block=X.Wg→F w→F (w.setCell a v))(hFB:∀w,F w→X.B≤w.heap.size)
  (g:Goroutine) (w:World) (O:Own) (h:Nu X L F (b₀.at a₀ (.inRegion ops₀ (i₀::rest₀)::k₀)) cs g w O) :
  ∃m,GO X true X.n (AtW1 X (FinO X.P (G (b₀.at (a₀.put ((ops₀[i₀]?).bind (·.dst)) (.tuple #[])) (.inRegion ops₀ rest₀::k₀)) cs)) (Nu X L F (b₀.at a₀ (.inRegion ops₀ (i₀::rest₀)::k₀)) cs)) m g w O:=by
 lib_facts
 replace aQ:=aQ O;obtain⟨T,rfl,hT84,t0,hF⟩:=h;obtain⟨v0,v1,v2,v3,v4,v5,v6,v7,v8,v9,v10,v11,v12,v13,v14,v15,v16,v17,v18,v19,v20,v21,v22,v23,v24,v25,v26,v27,v28,v29,v30,v31,v32,v33,v34,v35,v36,v37,v38,v39,v40,v41,v42,v43,v44,v45,v46,v47,v48,v49,v50,v51,v52,v53,v54,v55,v56,v57,v58,v59,v60,v61,v62,v63,v64,v65,v66,v67,v68,v69,v70,v71,v72,v73,v74,v75,v76,v77,v78,v79,v80,v81,v82,v83,rfl⟩:=array84 T hT84;simp only[List.getElem?_toArray,List.getElem?_cons_zero,Option.some.injEq]at t0;subst t0;refine⟨0+60,GO.dY (m:=0) (k:=60) (λ_ _ h=>h) ?_⟩;simp only[L7,body_wait,waitFn,Option.getD_some]
 u_c stepG_block (fl aQ) hF;u_c stepG_seq (fl aQ) hF;u_reg (fl aQ) hF;u_op (fl aQ) hF;u_op (fl aQ) hF;u_op (fl aQ) hF
 u_call H.f_uLoad (nm_uLoad L) uLoadFn (fl aQ) hF
 u_c stepG_seq (fl aQ) hF;u_reg (fl aQ) hF;u_op (fl aQ) hF;u_c stepG_region_end (fl aQ) hF;u_c stepG_seq (fl aQ) hF;u_reg (fl aQ) hF;u_op (fl aQ) hF;u_op (fl aQ) hF;u_op (fl aQ) hF
 refine Goes.stop λw1 h1=>GO.stop λv1 k1=>?_;replace hF:=fl aQ (fl aQ hF h1) k1;clear h1 k1;refine⟨rfl,λv hv hw=>?_⟩;rcases Nat.eq_zero_or_pos v with rfl|hvp
 ·replace hw:WgAt X.ty X.Wg v1 0 0:=by simpa using hw
  refine⟨_,stepG_load_atomic (v:=0) rfl rfl (by k_ne) rfl H.f_loadU64 (x_loadU64_n L) (x_loadU64_b L) (x_loadU64_x L) .u64 (x_loadU64_f L) rfl hw.cellSt,λ_=>⟨0+60,GO.dY (m:=0) (k:=60) (λ_ _ h=>h) ?_⟩,λh=>absurd rfl h⟩;clear hw
  walk_nrm
  u_op (fl aQ) hF;u_c stepG_region_end (fl aQ) hF;u_c stepG_ret' (fl aQ) hF
  u_leave1 H.f_uLoad (fl aQ) hF
  u_op (fl aQ) hF;u_c stepG_region_end (fl aQ) hF;u_c stepG_seq (fl aQ) hF;u_reg (fl aQ) hF;u_op (fl aQ) hF;u_op (fl aQ) hF;u_op (fl aQ) hF;u_op (fl aQ) hF;u_c stepG_region_end (fl aQ) hF;u_c stepG_seq (fl aQ) hF;u_reg (fl aQ) hF;u_op (fl aQ) hF;u_op (fl aQ) hF;u_op (fl aQ) hF;u_op (fl aQ) hF;u_c stepG_region_end (fl aQ) hF;u_c stepG_seq (fl aQ) hF;u_c stepG_seq (fl aQ) hF;u_reg (fl aQ) hF;u_op (fl aQ) hF;u_op (fl aQ) hF;u_c stepG_region_end (fl aQ) hF;u_cond true (fl aQ) hF;u_c stepG_seq (fl aQ) hF;u_cond true (fl aQ) hF;u_c stepG_seq (fl aQ) hF;u_reg (fl aQ) hF
  refine Goes.stop λw7 h7=>GO.stop λu7 k7=>?_;replace hF:=fl aQ (fl aQ hF h7) k7;clear h7 k7;refine⟨rfl,_,stepG_mark0 .enable (by simp) rfl rfl (by k_ne) rfl H.f_enable (x_enable_n L) (x_enable_b L) (x_enable_x L) (x_enable_f L),0+20,GO.dY (m:=0) (k:=20) (λ_ _ h=>h) ?_⟩
  walk_nrm
  u_c stepG_region_end (fl aQ) hF;u_reg (fl aQ) hF;u_op (fl aQ) hF
  refine Goes.step rfl (λ_ h₁=>?_);replace hF:=fl aQ hF h₁;clear h₁;refine goes_oper_k rfl rfl (by k_ne) (λKx hKx=>?_);have hcv:=run_convert_to_unsafe (P:=X.P) H.underlying_tWgP H.underlying_tUP H.room_tWg (WgLive.cell0 hF.2).choose_spec;have hce:=λes=>events_convert_to_unsafe (P:=X.P) H.underlying_tWgP H.underlying_tUP H.room_tWg (WgLive.cell0 hF.2).choose_spec es
  go_simp
  refine hKx _ _ ⟨?_,?_⟩
  ·u_none
   intro ex hex;have hmx:=mem_listed hex;simp[go_sem,hce]at hmx
  clear hKx Kx hcv hce;refine Goes.stop λw8 h8=>GO.stop λu8 k8=>?_;clear hF h8 k8;refine⟨rfl,_,stepG_markAt .acquire (by simp) rfl rfl (by k_ne) rfl H.f_acquire (x_acquire_n L) (x_acquire_b L) (x_acquire_x L) (x_acquire_f L) (by simp[Act.eval,stA]),40,?_⟩;have hA:AtRel u8 u8:=atRel_refl u8
  walk_nrm
  u_c stepG_region_end (atr) hA;u_c stepG_seq (atr) hA;u_c stepG_seq (atr) hA;u_reg (atr) hA;u_op (atr) hA;u_op (atr) hA;u_op (atr) hA;u_op (atr) hA;u_op (atr) hA;u_op (atr) hA;u_op (atr) hA;u_op (atr) hA;u_skip (atr) hA;u_skip (atr) hA;u_op (atr) hA;u_c stepG_region_end (atr) hA;u_cond false (atr) hA;u_c stepG_skip (atr) hA;u_c stepG_ret' (atr) hA
  u_leave0 H.f_wait (atr) hA
  exact Goes.stop λw9 h9=>⟨rfl,atRel_trans _ _ _ hA h9⟩
 ·obtain⟨S,hS⟩:∃S:Int,(v:Int) * KK=S:=⟨_,rfl⟩
  have a1:S / 4294967296=(v:Int):=by rw[← hS];simp only[KK];omega
  have b1:bits .and .u64 S 2147483648=0:=by rw[← hS];have:=st_flag v 0 (by omega) (by omega);simpa[KK]using this
  have b2:bits .and .u64 S 2147483647=0:=by rw[← hS];have:=st_waiters v 0 (by omega) (by omega);simpa[KK]using this
  have c1:IntKind.i32.wrap (v:Int)=(v:Int):=by rw[IntKind.wrap_i32];omega
  have w1:IntKind.u64.wrap (S+1)=S+1:=by rw[IntKind.wrap_u64,← hS];simp only[KK];omega
  have q3:decide ((v:Int)<0)=false:=decide_eq_false (by omega);have q4:decide (0<(v:Int))=true:=decide_eq_true (by omega);have q5:((v:Int)==0)=false:=by simp;omega
  have q6:decide ((v:Int)=0)=false:=decide_eq_false (by omega);rw[hS]at hw;refine⟨_,stepG_load_atomic (v:=S) rfl rfl (by k_ne) rfl H.f_loadU64 (x_loadU64_n L) (x_loadU64_b L) (x_loadU64_x L) .u64 (x_loadU64_f L) rfl hw.cellSt,λh0=>absurd h0 (by omega),λ_=>⟨0+80,GO.dY (m:=0) (k:=80) (λ_ _ h=>h) ?_⟩⟩;clear hw
  walk_nrm
  u_op (fl aQ) hF;u_c stepG_region_end (fl aQ) hF;u_c stepG_ret' (fl aQ) hF
  u_leave1 H.f_uLoad (fl aQ) hF
  u_op (fl aQ) hF;u_c stepG_region_end (fl aQ) hF;u_c stepG_seq (fl aQ) hF;u_reg (fl aQ) hF;u_op (fl aQ) hF;u_op (fl aQ) hF;u_op (fl aQ) hF;u_op (fl aQ) hF;u_c stepG_region_end (fl aQ) hF;u_c stepG_seq (fl aQ) hF;u_reg (fl aQ) hF;u_op (fl aQ) hF;u_op (fl aQ) hF;u_op (fl aQ) hF;u_op (fl aQ) hF;u_c stepG_region_end (fl aQ) hF;u_c stepG_seq (fl aQ) hF;u_c stepG_seq (fl aQ) hF;u_reg (fl aQ) hF;u_op (fl aQ) hF;u_op (fl aQ) hF;u_c stepG_region_end (fl aQ) hF;u_cnd false (fl aQ) hF;u_c stepG_skip (fl aQ) hF;u_c stepG_seq (fl aQ) hF;u_reg (fl aQ) hF;u_op (fl aQ) hF;u_op (fl aQ) hF;u_op (fl aQ) hF;u_op (fl aQ) hF;u_op (fl aQ) hF;u_op (fl aQ) hF
  u_call H.f_uCas (nm_uCas L) uCasFn (fl aQ) hF
  u_c stepG_seq (fl aQ) hF;u_reg (fl aQ) hF;u_op (fl aQ) hF;u_c stepG_region_end (fl aQ) hF;u_c stepG_seq (fl aQ) hF;u_reg (fl aQ) hF;u_op (fl aQ) hF;u_op (fl aQ) hF;u_op (fl aQ) hF;u_op (fl aQ) hF;u_op (fl aQ) hF
  refine Goes.stop λw2 h2=>GO.stop λv2 k2=>?_;replace hF:=fl aQ (fl aQ hF h2) k2;clear h2 k2;refine⟨rfl,λv' hv' hw=>⟨λe=>?_,λe=>?_⟩⟩
  ·subst e;rw[hS]at hw ⊢;refine⟨_,(stepG_cas_hit (v:=S) (n:=S+1) rfl rfl (by k_ne) rfl H.f_casU64 (x_casU64_n L) (x_casU64_b L) (x_casU64_x L) .u64 (x_casU64_f L) rfl rfl rfl hw.cellSt (hw.thaw 0)).trans (by rfl),80+80,GO.dY (m:=80) (k:=80) (λ_ _ h=>h) ?_⟩;replace hF:F (v2.setCell (stA X.Wg) (.int .u64 (S+1)))∧WgLive X.ty X.Wg (v2.setCell (stA X.Wg) (.int .u64 (S+1))):=⟨hFW _ _ _ rfl hF.1,⟨_,_,hw.setSt _⟩⟩
   clear hw
   walk_nrm
   u_op (fl aQ) hF;u_c stepG_region_end (fl aQ) hF;u_c stepG_ret' (fl aQ) hF
   u_leave1 H.f_uCas (fl aQ) hF
   u_c stepG_region_end (fl aQ) hF;u_cond true (fl aQ) hF;u_c stepG_seq (fl aQ) hF;u_c stepG_seq (fl aQ) hF;u_reg (fl aQ) hF;u_op (fl aQ) hF;u_op (fl aQ) hF;u_op (fl aQ) hF;u_op (fl aQ) hF;u_c stepG_region_end (fl aQ) hF;u_cond true (fl aQ) hF;u_reg (fl aQ) hF;u_op (fl aQ) hF;u_op (fl aQ) hF;u_op (fl aQ) hF
   refine Goes.step rfl (λ_ h₁=>?_);replace hF:=fl aQ hF h₁;clear h₁;refine goes_oper_k rfl rfl (by k_ne) (λKx hKx=>?_);have hcv:=run_convert_to_unsafe (P:=X.P) H.underlying_tPU32 H.underlying_tUP H.room_tU32 (WgLive.cell1 hF.2).choose_spec;have hce:=λes=>events_convert_to_unsafe (P:=X.P) H.underlying_tPU32 H.underlying_tUP H.room_tU32 (WgLive.cell1 hF.2).choose_spec es
   go_simp
   refine hKx _ _ ⟨?_,?_⟩
   ·u_none
    intro ex hex;have hmx:=mem_listed hex;simp[go_sem,hce]at hmx
   clear hKx Kx hcv hce;refine Goes.stop λw3 h3=>?_;refine GO.step (n:=79) rfl λu3 k3=>?_;replace hF:=fl aQ (fl aQ hF h3) k3;clear h3 k3;rw[stepG_markAt .write (by simp) rfl rfl (by k_ne) rfl H.f_raceWrite (x_raceWrite_n L) (x_raceWrite_b L) (x_raceWrite_x L) (x_raceWrite_f L) (ad:=⟨X.Wg,1,none⟩) (by simp[Act.eval])];simp only[goes_go];refine⟨NI (hFB _ hF.1) (.write (smA X.Wg)) (.inr rfl),GO.dY (m:=0) (k:=79) (λ_ _ h=>h) ?_⟩
   walk_nrm
   u_c stepG_region_end (fl aQ) hF;u_c stepG_seq (fl aQ) hF;u_reg (fl aQ) hF;u_op (fl aQ) hF;u_c stepG_region_end (fl aQ) hF;u_c stepG_seq (fl aQ) hF;u_c stepG_seq (fl aQ) hF;u_reg (fl aQ) hF;u_op (fl aQ) hF;u_op (fl aQ) hF;u_op (fl aQ) hF;u_op (fl aQ) hF;u_skip (fl aQ) hF;u_op (fl aQ) hF;u_c stepG_region_end (fl aQ) hF;u_cond false (fl aQ) hF;u_c stepG_skip (fl aQ) hF;u_c stepG_seq (fl aQ) hF;u_reg (fl aQ) hF;u_op (fl aQ) hF;u_op (fl aQ) hF;u_op (fl aQ) hF;u_op (fl aQ) hF
   refine Goes.stop λw4 h4=>GO.stop λv4 k4=>?_;replace hF:=fl aQ (fl aQ hF h4) k4;clear h4 k4;refine⟨rfl,rfl,λ⟨st,hw⟩=>stepG_semacquire_wait rfl rfl rfl H.f_semacquire (x_semacquire_n L) (x_semacquire_b L) (x_semacquire_x L) (x_semacquire_f L) (by simp[Act.eval,smA]) hw.cellSm,λhf=>?_⟩;refine⟨_,(stepG_semacquire (n:=1) rfl rfl (by k_ne) rfl H.f_semacquire (x_semacquire_n L) (x_semacquire_b L) (x_semacquire_x L) (x_semacquire_f L) (by simp[Act.eval,smA]) hf.cellSm (by k_ne) (hf.thaw 1)).trans (by rfl),0+60,GO.dY (m:=0) (k:=60) (λ_ _ h=>h) ?_⟩;replace hF:F (v4.setCell (smA X.Wg) (.int .u32 0))∧WgLive X.ty X.Wg (v4.setCell (smA X.Wg) (.int .u32 0)):=⟨hFW _ _ _ rfl hF.1,⟨_,_,hf.setSm 0⟩⟩
   clear hf
   walk_nrm
   u_c stepG_region_end (fl aQ) hF;u_c stepG_seq (fl aQ) hF;u_reg (fl aQ) hF;u_op (fl aQ) hF;u_op (fl aQ) hF;u_op (fl aQ) hF
   u_call H.f_uLoad (nm_uLoad L) uLoadFn (fl aQ) hF
   u_c stepG_seq (fl aQ) hF;u_reg (fl aQ) hF;u_op (fl aQ) hF;u_c stepG_region_end (fl aQ) hF;u_c stepG_seq (fl aQ) hF;u_reg (fl aQ) hF;u_op (fl aQ) hF;u_op (fl aQ) hF;u_op (fl aQ) hF
   refine Goes.stop λw5 h5=>GO.stop λv5 k5=>?_;replace hF:=fl aQ (fl aQ hF h5) k5;clear h5 k5;refine⟨rfl,λhw=>⟨_,stepG_load_atomic (v:=0) rfl rfl (by k_ne) rfl H.f_loadU64 (x_loadU64_n L) (x_loadU64_b L) (x_loadU64_x L) .u64 (x_loadU64_f L) rfl hw.cellSt,0+60,GO.dY (m:=0) (k:=60) (λ_ _ h=>h) ?_⟩⟩;clear hw
   walk_nrm
   u_op (fl aQ) hF;u_c stepG_region_end (fl aQ) hF;u_c stepG_ret' (fl aQ) hF
   u_leave1 H.f_uLoad (fl aQ) hF
   u_op (fl aQ) hF;u_op (fl aQ) hF;u_c stepG_region_end (fl aQ) hF;u_c stepG_seq (fl aQ) hF;u_cond true (fl aQ) hF;u_c stepG_seq (fl aQ) hF;u_reg (fl aQ) hF
   refine Goes.stop λw7 h7=>GO.stop λu7 k7=>?_;replace hF:=fl aQ (fl aQ hF h7) k7;clear h7 k7;refine⟨rfl,_,stepG_mark0 .enable (by simp) rfl rfl (by k_ne) rfl H.f_enable (x_enable_n L) (x_enable_b L) (x_enable_x L) (x_enable_f L),0+20,GO.dY (m:=0) (k:=20) (λ_ _ h=>h) ?_⟩
   walk_nrm
   u_c stepG_region_end (fl aQ) hF;u_reg (fl aQ) hF;u_op (fl aQ) hF
   refine Goes.step rfl (λ_ h₁=>?_);replace hF:=fl aQ hF h₁;clear h₁;refine goes_oper_k rfl rfl (by k_ne) (λKx hKx=>?_);have hcv:=run_convert_to_unsafe (P:=X.P) H.underlying_tWgP H.underlying_tUP H.room_tWg (WgLive.cell0 hF.2).choose_spec;have hce:=λes=>events_convert_to_unsafe (P:=X.P) H.underlying_tWgP H.underlying_tUP H.room_tWg (WgLive.cell0 hF.2).choose_spec es
   go_simp
   refine hKx _ _ ⟨?_,?_⟩
   ·u_none
    intro ex hex;have hmx:=mem_listed hex;simp[go_sem,hce]at hmx
   clear hKx Kx hcv hce;refine Goes.stop λw8 h8=>GO.stop λu8 k8=>?_;clear hF h8 k8;refine⟨rfl,_,stepG_markAt .acquire (by simp) rfl rfl (by k_ne) rfl H.f_acquire (x_acquire_n L) (x_acquire_b L) (x_acquire_x L) (x_acquire_f L) (by simp[Act.eval,stA]),40,?_⟩;have hA:AtRel u8 u8:=atRel_refl u8
   walk_nrm
   u_c stepG_region_end (atr) hA;u_c stepG_seq (atr) hA;u_c stepG_seq (atr) hA;u_reg (atr) hA;u_op (atr) hA;u_c stepG_region_end (atr) hA;u_cond false (atr) hA;u_c stepG_skip (atr) hA;u_c stepG_ret' (atr) hA
   u_leave0 H.f_wait (atr) hA
   exact Goes.stop λw9 h9=>⟨rfl,atRel_trans _ _ _ hA h9⟩
  ·refine⟨_,stepG_cas_miss (v:=(v':Int) * KK) (old:=S) (n:=S+1) rfl rfl (by k_ne) rfl H.f_casU64 (x_casU64_n L) (x_casU64_b L) (x_casU64_x L) .u64 (x_casU64_f L) rfl rfl rfl hw.cellSt (hw.thaw 0) (by rw[← hS];simp only[KK];omega),0+40,GO.dY (m:=0) (k:=40) (λ_ _ h=>h) ?_⟩;clear hw
   walk_nrm
   u_op (fl aQ) hF;u_c stepG_region_end (fl aQ) hF;u_c stepG_ret' (fl aQ) hF
   u_leave1 H.f_uCas (fl aQ) hF
   u_c stepG_region_end (fl aQ) hF;u_cond false (fl aQ) hF;u_c stepG_skip (fl aQ) hF
   u_c stepG_inBlock (fl aQ) hF
   u_c stepG_inLoop (fl aQ) hF
   exact Goes.stop λw3 h3=>GO.stop λu3 k3=>⟨_,rfl,by simp,by simp,fl aQ (fl aQ hF h3) k3⟩
end
end Crew
end
