/- Part 3 of the proof: the walk over values, the plain model, contracts of the functions of the program. -/
import Derived.Test.YtblndjmhjaijjaaGreatDoorX02
import Derived.OwnWalk
import Derived.WalkKit
import Derived.Deep.LoopGhost
import Derived.Lib.Walk
import Derived.Lib.SliceRun
import Derived.Shelf.Strings.OnBuilder
set_option linter.all false
namespace Go.Proofs.YtblndjmhjaijjaaGreatDoor.W
open Go Go.RowKit Go.Proofs Go.Proofs.YtblndjmhjaijjaaGreatDoor.VL Go.Proofs.YtblndjmhjaijjaaGreatDoor.M
attribute [local congr] optK_congr guardK_congr condK_congr runT_congr runD_congr wpI_congr CallV_congr LoopI_congr pureK_congr effK_congr calK_congr stepV_congr doV_congr exN_congr exB_congr retF_congr retQ_congr gK_congr condW_congr ldK_congr stoK_congr
attribute [local go_sem] argL_cons argL_nil argH_nil argH_cons chH_getH wpI_seq wpI_reg wpI_drw wpI_ret cond_k condW_t condW_f wpI_skip wpI_block wpI_exit wpI_loop exN_n exN_r exN_e exB_n exB_r exB_h exB_m runT_k kT_e runT_nil runD_k kD_e runD_nil step_u step_k gK_t gK_f do_mv do_bino bo_add bo_sub bo_mul bo_subu bo_quo bo_rem bo_xor bo_eql bo_neq bo_lss bo_leq bo_gtr bo_geq bo_cat bo_eqs bo_nes do_pick do_call do_cal calK_f do_box do_alloc do_ldk ldK_s do_stok stoK_s do_fad do_nilc do_not do_neg do_len do_lens do_ext do_eqs do_beq do_isn do_cvi do_sls do_idx do_mn do_mx do_build do_mkf do_s2b do_b2s do_slv do_iad do_bsl do_mks do_app ev_t ev_c app_some app_none
attribute [local go_sem] List.nil_append List.cons_append List.append_nil getL_hit getL_miss getH_nil getH_hit getH_miss nm_eq ne_eq Nat.reduceEqDiff not_false_eq_true Nat.reduceAdd Nat.add_zero Nat.zero_add if_true if_false ite_true ite_false pureK_s effK_s optK_s gdV_t gdV_f gdV_s pick_b ge_iff_le gt_iff_lt cond_true cond_false fresh_k cells_agg cells_int cells_bool cells_str cells_own cells_sl cells_nils ld_pv ld_pa ld_ip ldVar_t ldVar_f ldArr_t ldArr_f ldRow_t ldRow_f ldA_s ld1_s fad_pv fad_pa fad_ip nilc_pv nilc_pa nilc_ip not_b neg_i cvi_i ext_t retF_n retF_r
attribute [local go_sem] resV_k rvs_nil rvs_t rvs_c fstO_s consO_s resK_s resL_1 resL_2 resL_3 resL_4  Option.some.injEq List.map_cons List.map_nil List.all_cons List.all_nil Bool.and_true Bool.and_self Bool.not_true Bool.not_false Option.map_some Option.map_none sls_s slsG_s loV_n loV_i hiV_n hiV_i idx_s mn_i mx_i s2b_s b2s_s bytO_s bytes_nil bytes_cons conB_s slv_sl slv_own slv_nils slvG_s slvN_s slvO_s iad_sl iadG_map take_map drop_map List.length_map iad_own iad_view iadO_a iadW_a mks_i rowO_nils rowO_sl rowO_own rowA_a eq_self appG_nils appG_own appO_a guardP_T mapA_s bld_nil mkf_nil bldF_e fill_nil fill_cons mkf_e lens_s len_nils len_sl len_own len_view isn_nile isn_erre List.getElem?_cons_zero List.getElem?_cons_succ List.length_cons List.length_nil decide_true decide_false Int.toNat_natCast Int.cast_ofNat_Int Int.reduceLT Int.reduceLE Int.reduceEq Int.reduceAdd Int.reduceSub Int.reduceMul Int.reduceNeg Int.reduceToNat List.getD_cons_zero List.getD_cons_succ not_true_eq_false not_false_eq_true Bool.false_eq_true Bool.true_eq_false reduceCtorEq
attribute [local go_sem] E.row Pc.row Pair.row Part.row Strm.row Flw.row Pk.row Door.row Conv.row World.row Ev.row rdV E.eta Pc.eta Pair.eta Part.eta Strm.eta Pk.eta Flw.eta Conv.eta Door.eta World.eta Ev.eta
attribute [local go_sem] sub_ok st_pv st_pa stVar_v stArr_a Nat.le_refl List.drop_zero List.drop_succ_cons List.take_succ_cons List.take_zero setR Nat.reduceLeDiff
attribute [local go_sem] wk_bot wk2_bot wk1_bot wk_undef wk_tup_e wk2_agg_e wk_agg_e wk1_fn_e wk2_fn_e wk_fn_e wkl_nil wkl_cons wkh_var_e wkh_arr_e wkh_fresh_e wkh_dead_v wkh_dead_a wkh_dead_d wk0_undef wk0_int wk0_bool wk0_str wk0_nils wk0_nils_sl wk0_nilp wk0_nile wk0_erre wk0_sl wk0_iptr wk0_own wk0_view wk0_pv wk0_pa fzA_a fzW_a fzP_v wk0_own_sl wk0_view_sl wk0_pv_iptr WkS_nil WkS_cons WkN_nil WkN_cons nonB_nil nonB_cons getN_nil getN_hit getN_miss pinOk_0 pinOk_s and_true true_and and_self
attribute [local go_sem] bot_int one_int unt_int clo_int bot_bool one_bool unt_bool clo_bool bot_str one_str unt_str clo_str bot_nils one_nils unt_nils clo_nils bot_nilp one_nilp unt_nilp clo_nilp bot_nile one_nile unt_nile clo_nile bot_erre one_erre unt_erre clo_erre bot_raw one_raw unt_raw clo_raw bot_sl one_sl unt_sl clo_sl bot_own one_own unt_own clo_own bot_view one_view unt_view clo_view bot_pv one_pv unt_pv clo_pv bot_pa one_pa unt_pa clo_pa bot_iptr one_iptr unt_iptr clo_iptr unt_agg unt_fn one_fn
attribute [local go_sem] rn_tup rn_agg rn2_agg rn_fn rn2_fn rnfn1 rn_bot rn2_bot rn1_bot rn0_int rn0_bool rn0_str rn0_nils rn0_nilp rn0_nile rn0_erre rn0_sl rn0_iptr rn0_own rn0_view rn0_pv rn0_pa hrn_var hrn_arr hrn_dead outU_nil outU_cons deads_nil deads_cons bk_ge bk_lt nsF_0 nsF_s chH_0 chH_s chH_n newN_e andB_s eqR_nil eqR_i eqR_b eqR_s mapX_f mapX_t eqs_a beq_f beq_t live_arr live_var nsl_nil nsl_cons Nat.reduceMul Nat.reduceLT Nat.zero_le Nat.not_lt_zero
attribute [local go_sem] mV lD lA fD bN eX oP nP sR i0 s0
theorem fig48 (b : UInt8) : FnR Tryz.prog G 155 [.int .u8 (b.toNat : Int),.int .u8 48] (.bool (figB b 48)) := c155 b 48
theorem fig49 (b : UInt8) : FnR Tryz.prog G 155 [.int .u8 (b.toNat : Int),.int .u8 49] (.bool (figB b 49)) := c155 b 49
theorem txOk_false' {t : B} {i : Nat} (h : i < t.length) (hp : okB (t.getD i default) = false) : txOk t = false := by
  refine txOk_false h ?_
  have : t.getD i default = t.getD i 0 := by simp [List.getD,h]
  rwa [← this]
theorem all_take_succ' {t : B} {i : Nat} (h : i < t.length) {p : UInt8 → Bool} (hi : (t.take i).all p = true) (hp : p (t.getD i default) = true) : (t.take (i + 1)).all p = true := by
  refine all_take_succ h hi ?_
  have : t.getD i default = t.getD i 0 := by simp [List.getD,h]
  rwa [← this]
theorem okB_e (b : UInt8) : okB b = ((!decide (b < 97) && !decide (122 < b)) || figB b 48 || decide (b = 64) || decide (b = 58) || decide (b = 59)) := by
  have h1 : decide (97 ≤ b) = !decide (b < 97) := by rw [← decide_not]; exact decide_eq_decide.2 UInt8.not_lt.symm
  have h2 : decide (b ≤ 122) = !decide (122 < b) := by rw [← decide_not]; exact decide_eq_decide.2 UInt8.not_lt.symm
  simp only [okB,h1,h2]
def ic90 : IC := sR [oP 2 (.mv (.c (.bool false)))] (.seq (sR [mV 5 0,oP 6 (.s2b (.t 5)),oP 7 (.len (.t 6)),oP 8 (.mv (.c i0))] (.block 0 (.loop (sR [bN 9 .lss 8 7] (.seq (.cond (.t 9) .skip (.exit 0)) (.seq (.block 1 (sR [oP 10 (.iad 1 (.t 6) (.t 8)),lD 11 1 10,mV 4 11] (sR [mV 12 4,oP 13 (.call 155 [.t 12,.c (.int .u8 48)]),oP 14 (.un .not (.t 13)),mV 15 14,⟨some 16,some (15,true),.mv (.t 4)⟩,⟨some 17,some (15,true),.bin .neq (.t 16) (.c (.int .u8 64))⟩,oP 18 (.pick (.t 15) (.t 17) (.c (.bool false))),mV 19 18,⟨some 20,some (19,true),.mv (.t 4)⟩,⟨some 21,some (19,true),.bin .neq (.t 20) (.c (.int .u8 58))⟩,oP 22 (.pick (.t 19) (.t 21) (.c (.bool false))),mV 23 22,⟨some 24,some (23,true),.mv (.t 4)⟩,⟨some 25,some (23,true),.bin .neq (.t 24) (.c (.int .u8 59))⟩,oP 26 (.pick (.t 23) (.t 25) (.c (.bool false))),mV 27 26,⟨some 28,some (27,true),.mv (.t 4)⟩,⟨some 29,some (27,true),.bin .lss (.t 28) (.c (.int .u8 97))⟩,⟨some 30,some (27,true),.mv (.t 29)⟩,⟨some 31,some (30,false),.mv (.t 4)⟩,⟨some 32,some (30,false),.bin .gtr (.t 31) (.c (.int .u8 122))⟩,⟨some 33,some (27,true),.pick (.t 30) (.c (.bool true)) (.t 32)⟩,oP 34 (.pick (.t 27) (.t 33) (.c (.bool false)))] (.cond (.t 34) (sR [oP 2 (.mv (.c (.bool false)))] .ret) .skip)))) (.reg [oP 35 (.bin .add (.t 8) (.c (.int .i64 1))),mV 8 35]))))))) (sR [mV 36 0,oP 37 (.lens (.t 36)),oP 38 (.bin .leq (.t 37) (.c (.int .i64 40))),mV 2 38] .ret))
theorem dg90 : digF Tryz.prog Tryz.f90 = some (ic90,[(.t 2)]) := by kernel_rfl
theorem en90 : entr Tryz.prog 90 = true := by kernel_rfl
theorem c90 (t : B) (hl : t.length ≤ 2000000 := by omega) : FnR Tryz.prog G 90 [.str t] (.bool (txOk t)) := by
  refine FnR.mkF Tryz.func90 en90 dg90 Tryz.ntmps90 (by simp) ?_
  simp only [ic90,go_sem]
  with_reducible repeat' (first | refine br ?_ ?_ <;> intro h e <;> (try simp only [e,go_sem]) <;> clear e | rw [i64w (by omega)] | (first | refine sk ?_ | refine sd ?_) <;> try simp only [go_sem] | fail)
  refine loopN (fun i : Nat => ⟨getL [(0,.str t),(6,.sl 1 (t.map fun b => [.int .u8 (b.toNat : Int)])),(7,.int .i64 t.length),(8,.int .i64 (i : Int))],getH []⟩) (fun i => t.length - i) (fun i => i ≤ t.length ∧ (t.take i).all okB = true) 0 (leQ []) ⟨Nat.zero_le _,by simp⟩ ?_
  intro i ⟨hi,ha⟩
  simp only [go_sem]
  by_cases h : (i : Int) < t.length
  · simp only [h,go_sem]
    refine effG (by omega) ?_
    generalize hb : t.getD i default = b
    obtain ⟨e1,e2,e3,e4,e5,e6,e7,e8,e9⟩ := u8cmp b
    simp only [go_sem]
    refine callR (fig48 _) rfl rfl ?_
    simp only [go_sem,e5,e6,e7,e8,e9]
    repeat' (first
      | (with_reducible refine gBn (fun h => ?_) (fun h => ?_) <;> (try simp only [h,go_sem,e5,e6,e7,e8,e9]))
      | (with_reducible refine cBn (fun h => ?_) (fun h => ?_) <;> (try simp only [h,go_sem,e5,e6,e7,e8,e9]))
      | (with_reducible refine cB (fun h => ?_) (fun h => ?_) <;> (try simp only [h,go_sem,e5,e6,e7,e8,e9]))
      | (with_reducible refine gB (fun h => ?_) (fun h => ?_) <;> (try simp only [h,go_sem,e5,e6,e7,e8,e9])))
    all_goals (clear e1 e2 e3 e4 e5 e6 e7 e8 e9)
    all_goals first
      | (refine ⟨i + 1,by omega,⟨by omega,all_take_succ' (t := t) (i := i) (by omega) ha (by rw [hb]; simp only [okB_e, *,Bool.or_true,Bool.true_or,Bool.not_false,Bool.and_self])⟩, ?_⟩; rw [i64w (by omega)]; exact (leQ []))
      | (exact txOk_false' (t := t) (i := i) (by omega) (by rw [hb]; simp only [okB_e, *,Bool.or_false,Bool.false_or,Bool.not_true,Bool.not_false,Bool.false_and,Bool.and_false,Bool.and_self]))
  · simp only [h,go_sem]
    have : i = t.length := by omega
    subst this
    simp only [List.take_length] at ha
    simp only [txOk,ha,Bool.true_and]
    apply decide_eq_decide.2; omega
def bego (i : Nat) (b : UInt8) : Bool := match i with
  | 0 => decide (b = 64)
  | 1 => figB b 49
  | 2 => decide (b = 58)
  | 3 => figB b 49
  | 4 => figB b 48
  | _ => false
theorem bego_e (i : Nat) (b : UInt8) : bego i b = if (i : Int) = 0 then decide ((b.toNat : Int) = 64) else if (i : Int) = 1 then figB b 49 else if (i : Int) = 3 then figB b 49 else if (i : Int) = 2 then decide ((b.toNat : Int) = 58) else if (i : Int) = 4 then figB b 48 else false := by
  obtain ⟨_,_,_,_,e5,e6,_,_,_⟩ := u8cmp b
  rw [e5,e6]
  match i with
  | 0 => rfl
  | 1 => rfl
  | 2 => rfl
  | 3 => rfl
  | 4 => rfl
  | n + 5 => simp only [bego]; rw [if_neg (by omega),if_neg (by omega),if_neg (by omega),if_neg (by omega),if_neg (by omega)]
def begK : Nat → B → Bool
  | _,[] => true
  | k,b :: r => bego k b && begK (k + 1) r
theorem begs_K (s : B) (h : s ≠ []) : begs s = begK 0 s := by
  rcases s with _ | ⟨a,_ | ⟨b,_ | ⟨c,_ | ⟨d,_ | ⟨e,_ | ⟨f,r⟩⟩⟩⟩⟩⟩ <;> simp [begs,begK,bego,Bool.and_assoc] at h ⊢
theorem begK_step {s : B} {i : Nat} (h : i < s.length) : begK i (s.drop i) = (bego i (s.getD i default) && begK (i + 1) (s.drop (i + 1))) := by
  rw [List.drop_eq_getElem_cons h]
  simp [begK,List.getD,h]
def ic196 : IC := sR [oP 2 (.mv (.c (.bool false)))] (.seq (sR [mV 6 0,oP 7 (.s2b (.t 6)),oP 8 (.len (.t 7)),oP 9 (.mv (.c i0))] (.block 0 (.loop (sR [bN 10 .lss 9 8] (.seq (.cond (.t 10) .skip (.exit 0)) (.seq (.block 1 (sR [mV 11 9,oP 12 (.iad 1 (.t 7) (.t 9)),lD 13 1 12,mV 3 11,mV 4 13] (sR [oP 5 (.mv (.c (.bool false)))] (.seq (sR [mV 14 3] (.block 2 (sR [oP 16 (.bin .eql (.t 14) (.c i0)),mV 15 16] (.cond (.t 15) (.reg [mV 17 4,oP 18 (.bin .eql (.t 17) (.c (.int .u8 64))),mV 5 18]) (.seq (sR [oP 20 (.bin .eql (.t 14) (.c (.int .i64 1))),mV 19 20] (.cond (.t 19) .skip (.reg [oP 21 (.bin .eql (.t 14) (.c (.int .i64 3))),mV 19 21]))) (.cond (.t 19) (.reg [mV 22 4,oP 23 (.call 155 [.t 22,.c (.int .u8 49)]),mV 5 23]) (sR [oP 25 (.bin .eql (.t 14) (.c (.int .i64 2))),mV 24 25] (.cond (.t 24) (.reg [mV 26 4,oP 27 (.bin .eql (.t 26) (.c (.int .u8 58))),mV 5 27]) (sR [oP 29 (.bin .eql (.t 14) (.c (.int .i64 4))),mV 28 29] (.cond (.t 28) (.reg [mV 30 4,oP 31 (.call 155 [.t 30,.c (.int .u8 48)]),mV 5 31]) .skip)))))))))) (sR [mV 32 5,oP 33 (.un .not (.t 32))] (.cond (.t 33) (sR [oP 2 (.mv (.c (.bool false)))] .ret) .skip)))))) (.reg [oP 34 (.bin .add (.t 9) (.c (.int .i64 1))),mV 9 34]))))))) (sR [oP 2 (.mv (.c (.bool true)))] .ret))
theorem dg196 : digF Tryz.prog Tryz.f196 = some (ic196,[(.t 2)]) := by kernel_rfl
theorem en196 : entr Tryz.prog 196 = true := by kernel_rfl
theorem c196 (s : B) (hs : s ≠ []) (hl : s.length ≤ 2000000 := by omega) : FnR Tryz.prog G 196 [.str s] (.bool (begs s)) := by
  refine FnR.mkF Tryz.func196 en196 dg196 Tryz.ntmps196 (by simp) ?_
  simp only [ic196,go_sem]
  with_reducible repeat' (first | refine br ?_ ?_ <;> intro h e <;> (try simp only [e,go_sem]) <;> clear e | rw [i64w (by omega)] | (first | refine sk ?_ | refine sd ?_) <;> try simp only [go_sem] | fail)
  refine loopN (fun i : Nat => ⟨getL [(7,.sl 1 (s.map fun b => [.int .u8 (b.toNat : Int)])),(8,.int .i64 s.length),(9,.int .i64 (i : Int))],getH []⟩) (fun i => s.length - i) (fun i => i ≤ s.length ∧ begs s = begK i (s.drop i)) 0 (leQ []) ⟨Nat.zero_le _,by simpa using begs_K s hs⟩ ?_
  intro i ⟨hi,ha⟩
  simp only [go_sem]
  by_cases h : (i : Int) < s.length
  · simp only [h,go_sem]
    refine effG (by omega) ?_
    have hst := begK_step (show i < s.length by omega)
    generalize hb : s.getD i default = b at hst ⊢
    obtain ⟨_,_,_,_,e5,e6,_,_,_⟩ := u8cmp b
    simp only [go_sem]
    have hT : bego i b = true → begs s = begK (i + 1) (s.drop (i + 1)) := fun h1 => by rw [ha,hst,h1,Bool.true_and]
    have hF : bego i b = false → begs s = false := fun h1 => by rw [ha,hst,h1,Bool.false_and]
    try simp only [go_sem,e5,e6]
    with_reducible repeat' (first | refine br ?_ ?_ <;> intro h e <;> (try simp only [e,go_sem]) <;> clear e | rw [i64w (by omega)] | (first | refine sk ?_ | refine sd ?_) <;> try simp only [go_sem] | (first | refine cr (fig48 ..) ?_ | refine cr (fig49 ..) ?_) <;> try simp only [go_sem] | fail)
    all_goals first
      | exact hF (by clear hF hT ha hst hb; rw [bego_e]; first | (simp only [*,if_false]; done) | simp [*])
      | (refine ⟨i + 1,by omega,⟨by omega,hT (by clear hF hT ha hst hb; rw [bego_e]; first | (simp only [*,if_false]; done) | simp [*])⟩, ?_⟩; exact (leQ []))
  · simp only [h,go_sem]
    have : i = s.length := by omega
    subst this
    simpa [begK] using ha.symm
theorem dig_lt (b : UInt8) : decide (dig b < 1) = !figB b 49 := by
  have hb := b.toNat_lt
  have h1 : (48 : UInt8).toNat = 48 := rfl
  have h2 : (49 : UInt8).toNat = 49 := rfl
  have h3 : (57 : UInt8).toNat = 57 := rfl
  simp only [dig,figB,UInt8.le_iff_toNat_le,h1,h2,h3]
  by_cases c1 : 49 ≤ b.toNat <;> by_cases c2 : b.toNat ≤ 57 <;> by_cases c3 : 48 ≤ b.toNat <;> simp [c1,c2,c3] <;> omega
theorem dig_ge (b : UInt8) : decide (0 ≤ dig b) = figB b 48 := by
  have hb := b.toNat_lt
  have h1 : (48 : UInt8).toNat = 48 := rfl
  have h3 : (57 : UInt8).toNat = 57 := rfl
  simp only [dig,figB,UInt8.le_iff_toNat_le,h1,h3]
  by_cases c2 : b.toNat ≤ 57 <;> by_cases c3 : 48 ≤ b.toNat <;> simp [c2,c3]
  omega
def ic174 : IC := sR [oP 2 (.mv (.c (.bool false)))] (sR [mV 4 0,oP 5 (.lens (.t 4)),mV 3 5] (.seq (sR [mV 6 3,oP 7 (.call 101 [.t 6,.c (.int .i64 1),.c (.int .i64 5)]),oP 8 (.un .not (.t 7)),mV 9 8,⟨some 10,some (9,false),.mv (.t 0)⟩,⟨some 11,some (9,false),.idx (.t 10) (.c i0)⟩,⟨some 12,some (9,false),.bin .neq (.t 11) (.c (.int .u8 64))⟩,oP 13 (.pick (.t 9) (.c (.bool true)) (.t 12)),mV 14 13,⟨some 15,some (14,false),.mv (.t 3)⟩,⟨some 16,some (14,false),.bin .gtr (.t 15) (.c (.int .i64 1))⟩,⟨some 17,some (14,false),.mv (.t 16)⟩,⟨some 18,some (17,true),.mv (.t 0)⟩,⟨some 19,some (17,true),.idx (.t 18) (.c (.int .i64 1))⟩,⟨some 20,some (17,true),.call 205 [.t 19]⟩,⟨some 21,some (17,true),.bin .lss (.t 20) (.c (.int .i64 1))⟩,⟨some 22,some (14,false),.pick (.t 17) (.t 21) (.c (.bool false))⟩,oP 23 (.pick (.t 14) (.c (.bool true)) (.t 22)),mV 24 23,⟨some 25,some (24,false),.mv (.t 3)⟩,⟨some 26,some (24,false),.bin .gtr (.t 25) (.c (.int .i64 2))⟩,⟨some 27,some (24,false),.mv (.t 26)⟩,⟨some 28,some (27,true),.mv (.t 0)⟩,⟨some 29,some (27,true),.idx (.t 28) (.c (.int .i64 2))⟩,⟨some 30,some (27,true),.bin .neq (.t 29) (.c (.int .u8 58))⟩,⟨some 31,some (24,false),.pick (.t 27) (.t 30) (.c (.bool false))⟩,oP 32 (.pick (.t 24) (.c (.bool true)) (.t 31)),mV 33 32,⟨some 34,some (33,false),.mv (.t 3)⟩,⟨some 35,some (33,false),.bin .gtr (.t 34) (.c (.int .i64 3))⟩,⟨some 36,some (33,false),.mv (.t 35)⟩,⟨some 37,some (36,true),.mv (.t 0)⟩,⟨some 38,some (36,true),.idx (.t 37) (.c (.int .i64 3))⟩,⟨some 39,some (36,true),.call 205 [.t 38]⟩,⟨some 40,some (36,true),.bin .lss (.t 39) (.c (.int .i64 1))⟩,⟨some 41,some (33,false),.pick (.t 36) (.t 40) (.c (.bool false))⟩,oP 42 (.pick (.t 33) (.c (.bool true)) (.t 41))] (.cond (.t 42) (sR [oP 2 (.mv (.c (.bool false)))] .ret) .skip)) (sR [mV 43 3,oP 44 (.bin .lss (.t 43) (.c (.int .i64 5))),mV 45 44,⟨some 46,some (45,false),.mv (.t 0)⟩,⟨some 47,some (45,false),.idx (.t 46) (.c (.int .i64 4))⟩,⟨some 48,some (45,false),.call 205 [.t 47]⟩,⟨some 49,some (45,false),.bin .geq (.t 48) (.c i0)⟩,oP 50 (.pick (.t 45) (.c (.bool true)) (.t 49)),mV 2 50] .ret)))
theorem dg174 : digF Tryz.prog Tryz.f174 = some (ic174,[(.t 2)]) := by kernel_rfl
theorem en174 : entr Tryz.prog 174 = true := by kernel_rfl
theorem c174 (s : B) : FnR Tryz.prog G 174 [.str s] (.bool (begs s)) := by
  refine FnR.mkF Tryz.func174 en174 dg174 Tryz.ntmps174 (by simp) ?_
  simp only [ic174,go_sem]
  refine callR (c101 ..) rfl rfl ?_
  simp only [go_sem]
  have key : within s.length 1 5 = true → (1 ≤ s.length ∧ s.length ≤ 5) := fun h => by rw [M.within_iff] at h; omega
  cases hw : within s.length 1 5 <;> simp only [go_sem]
  · rcases s with _ | ⟨a,_ | ⟨b,_ | ⟨c,_ | ⟨d,_ | ⟨e,_ | ⟨f,r⟩⟩⟩⟩⟩⟩ <;> first | rfl | (exfalso; simp [within] at hw; done)
  · obtain ⟨k1,k2⟩ := key hw
    clear key hw
    have f49 : ∀ x,figB x 49 = !decide (dig x < 1) := fun x => by rw [dig_lt,Bool.not_not]
    have f48 : ∀ x,figB x 48 = decide (0 ≤ dig x) := fun x => (dig_ge x).symm
    have f64 : ∀ x : UInt8,decide (x = 64) = decide ((x.toNat : Int) = 64) := fun x => (u8cmp x).2.2.2.2.1.symm
    have f58 : ∀ x : UInt8,decide (x = 58) = decide ((x.toNat : Int) = 58) := fun x => (u8cmp x).2.2.2.2.2.1.symm
    rcases s with _ | ⟨a,_ | ⟨b,_ | ⟨c,_ | ⟨d,_ | ⟨e,_ | ⟨f,r⟩⟩⟩⟩⟩⟩
    · simp at k1
    · simp only [go_sem]
      with_reducible repeat' (first | refine br ?_ ?_ <;> intro h e <;> (try simp only [e,go_sem]) <;> clear e | rw [i64w (by omega)] | (first | refine sk ?_ | refine sd ?_) <;> try simp only [go_sem] | (first | refine cr (c205 ..) ?_) <;> try simp only [go_sem] | fail)
      all_goals first | omega | (simp only [begs,f49,f48,f58,f64]; simp_all)
    · simp only [go_sem]
      with_reducible repeat' (first | refine br ?_ ?_ <;> intro h e <;> (try simp only [e,go_sem]) <;> clear e | rw [i64w (by omega)] | (first | refine sk ?_ | refine sd ?_) <;> try simp only [go_sem] | (first | refine cr (c205 ..) ?_) <;> try simp only [go_sem] | fail)
      all_goals first | omega | (simp only [begs,f49,f48,f58,f64]; simp_all)
    · simp only [go_sem]
      with_reducible repeat' (first | refine br ?_ ?_ <;> intro h e <;> (try simp only [e,go_sem]) <;> clear e | rw [i64w (by omega)] | (first | refine sk ?_ | refine sd ?_) <;> try simp only [go_sem] | (first | refine cr (c205 ..) ?_) <;> try simp only [go_sem] | fail)
      all_goals first | omega | (simp only [begs,f49,f48,f58,f64]; simp_all)
    · simp only [go_sem]
      with_reducible repeat' (first | refine br ?_ ?_ <;> intro h e <;> (try simp only [e,go_sem]) <;> clear e | rw [i64w (by omega)] | (first | refine sk ?_ | refine sd ?_) <;> try simp only [go_sem] | (first | refine cr (c205 ..) ?_) <;> try simp only [go_sem] | fail)
      all_goals first | omega | (simp only [begs,f49,f48,f58,f64]; simp_all)
    · simp only [go_sem]
      with_reducible repeat' (first | refine br ?_ ?_ <;> intro h e <;> (try simp only [e,go_sem]) <;> clear e | rw [i64w (by omega)] | (first | refine sk ?_ | refine sd ?_) <;> try simp only [go_sem] | (first | refine cr (c205 ..) ?_) <;> try simp only [go_sem] | fail)
      all_goals first | omega | (simp only [begs,f49,f48,f58,f64]; simp_all)
    · simp at k2
theorem heldK_step {t : B} {k : Nat} (h : k + 1 ≤ t.length) : heldK t (k + 1) = if begs (t.drop (t.length - (k + 1))) then k + 1 else heldK t k := by
  simp [heldK,h]
theorem held_min (t : B) : held t = heldK t (min 5 t.length) := by
  have : ∀ n,heldK t (t.length + n) = heldK t t.length := fun n => by
    induction n with
    | zero => rfl
    | succ n ih => rw [← Nat.add_assoc,heldK,ih]; simp; omega
  by_cases h : 5 ≤ t.length
  · rw [Nat.min_eq_left h]; rfl
  · rw [Nat.min_eq_right (by omega),held]
    have := this (5 - t.length)
    rwa [show t.length + (5 - t.length) = 5 by omega] at this
theorem heldK_le (t : B) : ∀ n,heldK t n ≤ n ∧ heldK t n ≤ t.length
  | 0 => ⟨Nat.le_refl _,Nat.zero_le _⟩
  | n + 1 => by
    have := heldK_le t n
    simp only [heldK]
    split
    · rename_i h; simp at h; omega
    · omega
theorem held_le (t : B) : held t ≤ 5 ∧ held t ≤ t.length := heldK_le t 5
def ic156 : IC := sR [oP 2 (.mv (.c i0))] (.seq (sR [mV 4 0,oP 5 (.lens (.t 4)),oP 6 (.mn (.c (.int .i64 5)) (.t 5)),mV 3 6] (.block 0 (.loop (.seq (sR [mV 7 3,oP 8 (.bin .gtr (.t 7) (.c i0))] (.cond (.t 8) .skip (.exit 0))) (.seq (.block 1 (sR [mV 11 0,mV 12 0,oP 13 (.lens (.t 12)),mV 14 3,bN 15 .sub 13 14,oP 16 (.sls (.t 11) (some (.t 15)) none),oP 17 (.call 196 [.t 16])] (.cond (.t 17) (sR [mV 18 3,mV 2 18] .ret) .skip))) (.reg [mV 9 3,oP 10 (.bin .sub (.t 9) (.c (.int .i64 1))),mV 3 10])))))) (sR [oP 2 (.mv (.c i0))] .ret))
theorem dg156 : digF Tryz.prog Tryz.f156 = some (ic156,[(.t 2)]) := by kernel_rfl
theorem en156 : entr Tryz.prog 156 = true := by kernel_rfl
theorem c156 (t : B) (hl : t.length ≤ 2000000 := by omega) : FnR Tryz.prog G 156 [.str t] (.int .i64 (held t)) := by
  refine FnR.mkF Tryz.func156 en156 dg156 Tryz.ntmps156 (by simp) ?_
  simp only [ic156,go_sem]
  refine loopN (fun k : Nat => ⟨getL [(0,.str t),(3,.int .i64 (k : Int))],getH []⟩) (fun k => k) (fun k => k ≤ t.length ∧ held t = heldK t k) (min 5 t.length) (leQ []) ⟨Nat.min_le_right _ _,held_min t⟩ ?_
  intro k ⟨hk,ha⟩
  simp only [go_sem]
  by_cases h : (0 : Int) < k
  · simp only [eq_true h,go_sem]
    with_reducible repeat' (first | refine br ?_ ?_ <;> intro h e <;> (try simp only [e,go_sem]) <;> clear e | rw [i64w (by omega)] | (first | refine sk ?_ | refine sd ?_) <;> try simp only [go_sem] | fail)
    have e : ((t.length : Int) - (k : Int)).toNat = t.length - k := by omega
    obtain ⟨k,rfl⟩ : ∃ m,k = m + 1 := ⟨k - 1,by omega⟩
    simp only [e,go_sem,List.take_length]
    have hst := heldK_step hk
    refine callR (c196 _ (by intro h; have := congrArg List.length h; simp at this; omega) (by simp; omega)) rfl rfl ?_
    simp only [go_sem]
    with_reducible repeat' (first | refine br ?_ ?_ <;> intro h e <;> (try simp only [e,go_sem]) <;> clear e | rw [i64w (by omega)] | (first | refine sk ?_ | refine sd ?_) <;> try simp only [go_sem] | fail)
    · rw [ha,hst,if_pos h]
    · refine ⟨k,by omega,⟨by omega,by rw [ha,hst,h]; rfl⟩,(leQ [])⟩
  · simp only [eq_false h,go_sem]
    have : k = 0 := by omega
    subst this
    rw [ha]; rfl
def ic126 : IC := sR [oP 2 (.mv (.c i0))] (.seq (sR [mV 4 0,oP 5 (.lens (.t 4)),oP 6 (.mn (.c (.int .i64 5)) (.t 5)),mV 3 6] (.block 0 (.loop (.seq (sR [mV 7 3,oP 8 (.bin .gtr (.t 7) (.c i0))] (.cond (.t 8) .skip (.exit 0))) (.seq (.block 1 (sR [mV 11 0,mV 12 0,oP 13 (.lens (.t 12)),mV 14 3,bN 15 .sub 13 14,oP 16 (.sls (.t 11) (some (.t 15)) none),oP 17 (.call 174 [.t 16])] (.cond (.t 17) (sR [mV 18 3,mV 2 18] .ret) .skip))) (.reg [mV 9 3,oP 10 (.bin .sub (.t 9) (.c (.int .i64 1))),mV 3 10])))))) (sR [oP 2 (.mv (.c i0))] .ret))
theorem dg126 : digF Tryz.prog Tryz.f126 = some (ic126,[(.t 2)]) := by kernel_rfl
theorem en126 : entr Tryz.prog 126 = true := by kernel_rfl
theorem c126 (t : B) (hl : t.length ≤ 2000000 := by omega) : FnR Tryz.prog G 126 [.str t] (.int .i64 (held t)) := by
  refine FnR.mkF Tryz.func126 en126 dg126 Tryz.ntmps126 (by simp) ?_
  simp only [ic126,go_sem]
  refine loopN (fun k : Nat => ⟨getL [(0,.str t),(3,.int .i64 (k : Int))],getH []⟩) (fun k => k) (fun k => k ≤ t.length ∧ held t = heldK t k) (min 5 t.length) (leQ []) ⟨Nat.min_le_right _ _,held_min t⟩ ?_
  intro k ⟨hk,ha⟩
  simp only [go_sem]
  by_cases h : (0 : Int) < k
  · simp only [eq_true h,go_sem]
    with_reducible repeat' (first | refine br ?_ ?_ <;> intro h e <;> (try simp only [e,go_sem]) <;> clear e | rw [i64w (by omega)] | (first | refine sk ?_ | refine sd ?_) <;> try simp only [go_sem] | fail)
    have e : ((t.length : Int) - (k : Int)).toNat = t.length - k := by omega
    obtain ⟨k,rfl⟩ : ∃ m,k = m + 1 := ⟨k - 1,by omega⟩
    simp only [e,go_sem,List.take_length]
    have hst := heldK_step hk
    with_reducible repeat' (first | refine br ?_ ?_ <;> intro h e <;> (try simp only [e,go_sem]) <;> clear e | rw [i64w (by omega)] | (first | refine sk ?_ | refine sd ?_) <;> try simp only [go_sem] | (first | refine cr (c174 ..) ?_) <;> try simp only [go_sem] | fail)
    · rw [ha,hst,if_pos h]
    · refine ⟨k,by omega,⟨by omega,by rw [ha,hst,h]; rfl⟩,(leQ [])⟩
  · simp only [eq_false h,go_sem]
    have : k = 0 := by omega
    subst this
    rw [ha]; rfl
theorem any_rng {a p : Int} (h : E.any ⟨a,p⟩ = true) : (0 ≤ a ∧ a < 100) ∧ (0 ≤ p ∧ p < 100) := by
  obtain ⟨h1,h2,_⟩ := ends_ok _ (E.any_iff.1 h)
  exact ⟨h1,h2⟩
theorem text_le {e : E} : e.text.length ≤ 4 := by
  by_cases h : e.any = true
  · rw [text_len h]; split <;> omega
  · simp [E.text,h]
def ic125 : IC := sR [oP 1 (.box 38 (.t 0)),oP 2 (.mv (.c s0))] (.seq (sR [lA 3 2 1,oP 4 (.call 100 [.t 3]),oP 5 (.un .not (.t 4))] (.cond (.t 5) (sR [oP 2 (.mv (.c s0))] .ret) .skip)) (.seq (.drw [0,1,3,7,0,16,55,127,255] [(0,fD 6 0 1),(1,lD 7 1 6),(2,oP 8 (.call 123 [.t 7])),(3,oP 9 (.bin .add (.t 8) (.c (.str [58])))),(4,fD 10 1 1),(5,lD 11 1 10),(6,oP 12 (.call 123 [.t 11])),(7,bN 13 .add 9 12),(8,mV 2 13)]) .ret))
theorem dg125 : digF Tryz.prog Tryz.f125 = some (ic125,[(.t 2)]) := by kernel_rfl
theorem en125 : entr Tryz.prog 125 = true := by kernel_rfl
theorem c125 (a p : Int) : FnR Tryz.prog G 125 [.agg [.int .i64 a,.int .i64 p]] (.str (E.text ⟨a,p⟩)) := by
  refine FnR.mkF Tryz.func125 en125 dg125 Tryz.ntmps125 (by simp) ?_
  simp only [ic125,go_sem]
  refine callR (c100 ..) rfl rfl ?_
  have d1 := dec_len a
  have d2 := dec_len p
  cases h : E.any ⟨a,p⟩ <;> simp only [go_sem]
  · simp [E.text,h]
  · obtain ⟨h1,h2⟩ := any_rng h
    repeat' (first
      | (with_reducible refine chkI ?_ ?_; · kernel_rfl; try simp only [go_sem])
      | (with_reducible refine pureG (by simp; omega) ?_; try simp only [go_sem])
      | (refine callR (c123 _ (by omega)) rfl rfl ?_; try simp only [go_sem]))
    simp [E.text,h]
def ic135 : IC := sR [oP 1 (.box 38 (.t 0)),oP 2 (.mv (.c s0))] (.seq (sR [lA 3 2 1,oP 4 (.call 112 [.t 3]),oP 5 (.un .not (.t 4))] (.cond (.t 5) (sR [oP 2 (.mv (.c s0))] .ret) .skip)) (.seq (.drw [0,1,3,7,0,16,55,127,255] [(0,fD 6 0 1),(1,lD 7 1 6),(2,oP 8 (.call 63 [.t 7])),(3,oP 9 (.bin .add (.t 8) (.c (.str [58])))),(4,fD 10 1 1),(5,lD 11 1 10),(6,oP 12 (.call 63 [.t 11])),(7,bN 13 .add 9 12),(8,mV 2 13)]) .ret))
theorem dg135 : digF Tryz.prog Tryz.f135 = some (ic135,[(.t 2)]) := by kernel_rfl
theorem en135 : entr Tryz.prog 135 = true := by kernel_rfl
theorem c135 (a p : Int) : FnR Tryz.prog G 135 [.agg [.int .i64 a,.int .i64 p]] (.str (E.text ⟨a,p⟩)) := by
  refine FnR.mkF Tryz.func135 en135 dg135 Tryz.ntmps135 (by simp) ?_
  simp only [ic135,go_sem]
  refine callR (c112 ..) rfl rfl ?_
  have d1 := dec_len a
  have d2 := dec_len p
  cases h : E.any ⟨a,p⟩ <;> simp only [go_sem]
  · simp [E.text,h]
  · obtain ⟨h1,h2⟩ := any_rng h
    repeat' (first
      | (with_reducible refine chkI ?_ ?_; · kernel_rfl; try simp only [go_sem])
      | (with_reducible refine pureG (by simp; omega) ?_; try simp only [go_sem])
      | (refine callR (c63 _ (by omega)) rfl rfl ?_; try simp only [go_sem]))
    simp [E.text,h]
def ic199 : IC := sR [oP 1 (.box 38 (.t 0)),oP 2 (.mv (.c s0))] (sR [lA 3 2 1,oP 4 (.call 135 [.t 3]),oP 5 (.bin .add (.c (.str [64])) (.t 4)),oP 6 (.bin .add (.t 5) (.c (.str [59]))),mV 2 6] .ret)
theorem dg199 : digF Tryz.prog Tryz.f199 = some (ic199,[(.t 2)]) := by kernel_rfl
theorem en199 : entr Tryz.prog 199 = true := by kernel_rfl
theorem c199 (a p : Int) : FnR Tryz.prog G 199 [.agg [.int .i64 a,.int .i64 p]] (.str (name ⟨a,p⟩)) := by
  refine FnR.mkF Tryz.func199 en199 dg199 Tryz.ntmps199 (by simp) ?_
  simp only [ic199,go_sem]
  have d := text_le (e := ⟨a,p⟩)
  refine callR (c135 ..) rfl rfl ?_
  simp only [go_sem]
  repeat' (with_reducible refine pureG (by simp; omega) ?_; try simp only [go_sem])
  simp [name]
end Go.Proofs.YtblndjmhjaijjaaGreatDoor.W
namespace Go.Proofs.YtblndjmhjaijjaaGreatDoor.W
open Go Go.RowKit Go.Proofs Go.Proofs.YtblndjmhjaijjaaGreatDoor.VL
theorem infoP {P : Program} {t sz : Nat} (h : (P.info? t).map (fun i => (i.size,i.zero.map (·.cells.size),decide (i.bytes ≤ 100000))) = some (sz,some sz,true)) :
    ∃ i z,P.info? t = some i ∧ i.zero = some z ∧ i.size = sz ∧ z.cells.size = sz ∧ i.bytes ≤ 100000 := by
  obtain ⟨i,hi,h⟩ := Option.map_eq_some_iff.1 h
  simp only [Prod.mk.injEq,decide_eq_true_eq,Option.map_eq_some_iff] at h
  obtain ⟨h1,⟨z,hz,h2⟩,h3⟩ := h
  exact ⟨i,z,hi,hz,h1,h2,h3⟩
set_option maxRecDepth 100000
set_option maxHeartbeats 2000000
theorem m158 : ClipM Tryz.prog 158 := by
  intro A n c W hc
  have u : Tryz.prog.underlying 72 = some (.slice 75) := by kernel_rfl
  have u72 : ∀ w,Sem.run Tryz.prog (underlying 72) w = .ok (TypeDesc.slice 75) w := run_underlying u
  go_enter Tryz.func158,Tryz.ntmps158
  go_wp2
  go_ret
  exact ⟨rfl,rfl⟩
theorem c158 (rows : List (List V)) : FnR Tryz.prog G 158 [.sl 4 rows] (.sl 4 rows) := clipR (by kernel_rfl) m158 4 rows
theorem m38 : ClipM Tryz.prog 38 := by
  intro A n c W hc
  have u : Tryz.prog.underlying 48 = some (.slice 38) := by kernel_rfl
  have u72 : ∀ w,Sem.run Tryz.prog (underlying 48) w = .ok (TypeDesc.slice 38) w := run_underlying u
  go_enter Tryz.func38,Tryz.ntmps38
  go_wp2
  go_ret
  exact ⟨rfl,rfl⟩
theorem c38 (rows : List (List V)) : FnR Tryz.prog G 38 [.sl 2 rows] (.sl 2 rows) := clipR (by kernel_rfl) m38 2 rows
theorem m167 : ClipM Tryz.prog 167 := by
  intro A n c W hc
  have u : Tryz.prog.underlying 27 = some (.slice 98) := by kernel_rfl
  have u72 : ∀ w,Sem.run Tryz.prog (underlying 27) w = .ok (TypeDesc.slice 98) w := run_underlying u
  go_enter Tryz.func167,Tryz.ntmps167
  go_wp2
  go_ret
  exact ⟨rfl,rfl⟩
theorem c167 (rows : List (List V)) : FnR Tryz.prog G 167 [.sl 3 rows] (.sl 3 rows) := clipR (by kernel_rfl) m167 3 rows
theorem o167 (rows : List (List V)) (n : Nat) (h : rows.length = n) : FnP Tryz.prog G 167 0 [.arr 98 3 rows] [.own 0 n] (fun r o => r = .own 0 n ∧ o = [.arr 98 3 rows]) := clipOwn (by kernel_rfl) m167 98 3 rows n h
theorem m202 : ClipM Tryz.prog 202 := by
  intro A n c W hc
  have u : Tryz.prog.underlying 87 = some (.slice 163) := by kernel_rfl
  have u72 : ∀ w,Sem.run Tryz.prog (underlying 87) w = .ok (TypeDesc.slice 163) w := run_underlying u
  go_enter Tryz.func202,Tryz.ntmps202
  go_wp2
  go_ret
  exact ⟨rfl,rfl⟩
theorem o202 (rows : List (List V)) (n : Nat) (h : rows.length = n) : FnP Tryz.prog G 202 0 [.arr 163 2 rows] [.own 0 n] (fun r o => r = .own 0 n ∧ o = [.arr 163 2 rows]) := clipOwn (by kernel_rfl) m202 163 2 rows n h
theorem m80 : ClipM Tryz.prog 80 := by
  intro A n c W hc
  have u : Tryz.prog.underlying 23 = some (.slice 42) := by kernel_rfl
  have u72 : ∀ w,Sem.run Tryz.prog (underlying 23) w = .ok (TypeDesc.slice 42) w := run_underlying u
  go_enter Tryz.func80,Tryz.ntmps80
  go_wp2
  go_ret
  exact ⟨rfl,rfl⟩
theorem c80 (rows : List (List V)) : FnR Tryz.prog G 80 [.sl 10 rows] (.sl 10 rows) := clipR (by kernel_rfl) m80 10 rows
theorem o80 (rows : List (List V)) (n : Nat) (h : rows.length = n) : FnP Tryz.prog G 80 0 [.arr 42 10 rows] [.own 0 n] (fun r o => r = .own 0 n ∧ o = [.arr 42 10 rows]) := clipOwn (by kernel_rfl) m80 42 10 rows n h
theorem m82 : ClipM Tryz.prog 82 := by
  intro A n c W hc
  have u : Tryz.prog.underlying 31 = some (.slice 40) := by kernel_rfl
  have u72 : ∀ w,Sem.run Tryz.prog (underlying 31) w = .ok (TypeDesc.slice 40) w := run_underlying u
  go_enter Tryz.func82,Tryz.ntmps82
  go_wp2
  go_ret
  exact ⟨rfl,rfl⟩
theorem o82 (rows : List (List V)) (n : Nat) (h : rows.length = n) : FnP Tryz.prog G 82 0 [.arr 40 7 rows] [.own 0 n] (fun r o => r = .own 0 n ∧ o = [.arr 40 7 rows]) := clipOwn (by kernel_rfl) m82 40 7 rows n h
theorem m168 : CloneM Tryz.prog 168 98 3 := by
  have t27 : Tryz.prog.underlying 27 = some (.slice 98) := by kernel_rfl
  have u27 : ∀ w,Sem.run Tryz.prog (underlying 27) w = .ok (TypeDesc.slice 98) w := run_underlying t27
  have q27 : ∀ (w : World) (a : Option Addr) (n c n' c' : Nat),(binOp .eql 27 (.slice a n c) (.slice none n' c')).run Tryz.prog w = .ok (.bool a.isNone) w := fun w a n c n' c' => Lib.run_eql_slice_nil w _ _ a n c n' c' t27
  obtain ⟨i0,z0,hi,hz,hs,hzs,hb⟩ := infoP (P := Tryz.prog) (t := 98) (sz := 3) (by kernel_rfl)
  refine ⟨fun n c W => ?_,fun a n c us W h1 h2 h3 h4 => ?_⟩
  · go_enter Tryz.func168,Tryz.ntmps168
    go_wp2
    go_ret
    exact ⟨rfl,rfl⟩
  · go_enter Tryz.func168,Tryz.ntmps168
    go_wp2_with (at_builtin; refine wpList_append_own _ rfl _ _ 27 rfl W.heap.size 98 i0 z0 3 i0.bytes t27 hi hz hs rfl hzs (by decide) _ _ _ rfl (World.ownsRow_made W #[] 0 (Nat.le_refl _) (Nat.zero_le _) rfl) a n c us rfl h1 ?qc2 h3 ?qc4 ?qc5 ?qc6 ?_)
    case qc2 => intro j u hj; exact Lib.cell?_alloc_some _ (h2 j u hj)
    case qc4 => unfold maxLen; omega
    case qc5 => exact Nat.le_trans (Nat.mul_le_mul (show 0 + n ≤ 2000000 by omega) hb) (by decide)
    case qc6 => simp
    intro v' w1 hown hgrow hnil
    go_wp2
    go_ret
    refine ⟨v',rfl,by simpa using hown, ?_⟩
    exact ((Below.refl _ W).alloc (Nat.le_refl _) _).grown hgrow (by simp) (by intro k hk; simp [Value.ownBlock] at hk; omega)
theorem c168 (rows : List (List V)) (hr : rows.length ≤ 2000000) : FnP Tryz.prog G 168 0 [] [.sl 3 rows] (fun r o => r = .own 0 rows.length ∧ o = [.arr 98 3 rows]) := cloneOwn (by kernel_rfl) m168 rows hr
theorem m203 : CloneM Tryz.prog 203 163 2 := by
  have t27 : Tryz.prog.underlying 87 = some (.slice 163) := by kernel_rfl
  have u27 : ∀ w,Sem.run Tryz.prog (underlying 87) w = .ok (TypeDesc.slice 163) w := run_underlying t27
  have q27 : ∀ (w : World) (a : Option Addr) (n c n' c' : Nat),(binOp .eql 87 (.slice a n c) (.slice none n' c')).run Tryz.prog w = .ok (.bool a.isNone) w := fun w a n c n' c' => Lib.run_eql_slice_nil w _ _ a n c n' c' t27
  obtain ⟨i0,z0,hi,hz,hs,hzs,hb⟩ := infoP (P := Tryz.prog) (t := 163) (sz := 2) (by kernel_rfl)
  refine ⟨fun n c W => ?_,fun a n c us W h1 h2 h3 h4 => ?_⟩
  · go_enter Tryz.func203,Tryz.ntmps203
    go_wp2
    go_ret
    exact ⟨rfl,rfl⟩
  · go_enter Tryz.func203,Tryz.ntmps203
    go_wp2_with (at_builtin; refine wpList_append_own _ rfl _ _ 87 rfl W.heap.size 163 i0 z0 2 i0.bytes t27 hi hz hs rfl hzs (by decide) _ _ _ rfl (World.ownsRow_made W #[] 0 (Nat.le_refl _) (Nat.zero_le _) rfl) a n c us rfl h1 ?qc2 h3 ?qc4 ?qc5 ?qc6 ?_)
    case qc2 => intro j u hj; exact Lib.cell?_alloc_some _ (h2 j u hj)
    case qc4 => unfold maxLen; omega
    case qc5 => exact Nat.le_trans (Nat.mul_le_mul (show 0 + n ≤ 2000000 by omega) hb) (by decide)
    case qc6 => simp
    intro v' w1 hown hgrow hnil
    go_wp2
    go_ret
    refine ⟨v',rfl,by simpa using hown, ?_⟩
    exact ((Below.refl _ W).alloc (Nat.le_refl _) _).grown hgrow (by simp) (by intro k hk; simp [Value.ownBlock] at hk; omega)
theorem c203 (rows : List (List V)) (hr : rows.length ≤ 2000000) : FnP Tryz.prog G 203 0 [] [.sl 2 rows] (fun r o => r = .own 0 rows.length ∧ o = [.arr 163 2 rows]) := cloneOwn (by kernel_rfl) m203 rows hr
theorem m81 : CloneM Tryz.prog 81 42 10 := by
  have t27 : Tryz.prog.underlying 23 = some (.slice 42) := by kernel_rfl
  have u27 : ∀ w,Sem.run Tryz.prog (underlying 23) w = .ok (TypeDesc.slice 42) w := run_underlying t27
  have q27 : ∀ (w : World) (a : Option Addr) (n c n' c' : Nat),(binOp .eql 23 (.slice a n c) (.slice none n' c')).run Tryz.prog w = .ok (.bool a.isNone) w := fun w a n c n' c' => Lib.run_eql_slice_nil w _ _ a n c n' c' t27
  obtain ⟨i0,z0,hi,hz,hs,hzs,hb⟩ := infoP (P := Tryz.prog) (t := 42) (sz := 10) (by kernel_rfl)
  refine ⟨fun n c W => ?_,fun a n c us W h1 h2 h3 h4 => ?_⟩
  · go_enter Tryz.func81,Tryz.ntmps81
    go_wp2
    go_ret
    exact ⟨rfl,rfl⟩
  · go_enter Tryz.func81,Tryz.ntmps81
    go_wp2_with (at_builtin; refine wpList_append_own _ rfl _ _ 23 rfl W.heap.size 42 i0 z0 10 i0.bytes t27 hi hz hs rfl hzs (by decide) _ _ _ rfl (World.ownsRow_made W #[] 0 (Nat.le_refl _) (Nat.zero_le _) rfl) a n c us rfl h1 ?qc2 h3 ?qc4 ?qc5 ?qc6 ?_)
    case qc2 => intro j u hj; exact Lib.cell?_alloc_some _ (h2 j u hj)
    case qc4 => unfold maxLen; omega
    case qc5 => exact Nat.le_trans (Nat.mul_le_mul (show 0 + n ≤ 2000000 by omega) hb) (by decide)
    case qc6 => simp
    intro v' w1 hown hgrow hnil
    go_wp2
    go_ret
    refine ⟨v',rfl,by simpa using hown, ?_⟩
    exact ((Below.refl _ W).alloc (Nat.le_refl _) _).grown hgrow (by simp) (by intro k hk; simp [Value.ownBlock] at hk; omega)
theorem c81 (rows : List (List V)) (hr : rows.length ≤ 2000000) : FnP Tryz.prog G 81 0 [] [.sl 10 rows] (fun r o => r = .own 0 rows.length ∧ o = [.arr 42 10 rows]) := cloneOwn (by kernel_rfl) m81 rows hr
theorem m83 : CloneM Tryz.prog 83 40 7 := by
  have t27 : Tryz.prog.underlying 31 = some (.slice 40) := by kernel_rfl
  have u27 : ∀ w,Sem.run Tryz.prog (underlying 31) w = .ok (TypeDesc.slice 40) w := run_underlying t27
  have q27 : ∀ (w : World) (a : Option Addr) (n c n' c' : Nat),(binOp .eql 31 (.slice a n c) (.slice none n' c')).run Tryz.prog w = .ok (.bool a.isNone) w := fun w a n c n' c' => Lib.run_eql_slice_nil w _ _ a n c n' c' t27
  obtain ⟨i0,z0,hi,hz,hs,hzs,hb⟩ := infoP (P := Tryz.prog) (t := 40) (sz := 7) (by kernel_rfl)
  refine ⟨fun n c W => ?_,fun a n c us W h1 h2 h3 h4 => ?_⟩
  · go_enter Tryz.func83,Tryz.ntmps83
    go_wp2
    go_ret
    exact ⟨rfl,rfl⟩
  · go_enter Tryz.func83,Tryz.ntmps83
    go_wp2_with (at_builtin; refine wpList_append_own _ rfl _ _ 31 rfl W.heap.size 40 i0 z0 7 i0.bytes t27 hi hz hs rfl hzs (by decide) _ _ _ rfl (World.ownsRow_made W #[] 0 (Nat.le_refl _) (Nat.zero_le _) rfl) a n c us rfl h1 ?qc2 h3 ?qc4 ?qc5 ?qc6 ?_)
    case qc2 => intro j u hj; exact Lib.cell?_alloc_some _ (h2 j u hj)
    case qc4 => unfold maxLen; omega
    case qc5 => exact Nat.le_trans (Nat.mul_le_mul (show 0 + n ≤ 2000000 by omega) hb) (by decide)
    case qc6 => simp
    intro v' w1 hown hgrow hnil
    go_wp2
    go_ret
    refine ⟨v',rfl,by simpa using hown, ?_⟩
    exact ((Below.refl _ W).alloc (Nat.le_refl _) _).grown hgrow (by simp) (by intro k hk; simp [Value.ownBlock] at hk; omega)
theorem c83 (rows : List (List V)) (hr : rows.length ≤ 2000000) : FnP Tryz.prog G 83 0 [] [.sl 7 rows] (fun r o => r = .own 0 rows.length ∧ o = [.arr 40 7 rows]) := cloneOwn (by kernel_rfl) m83 rows hr
end Go.Proofs.YtblndjmhjaijjaaGreatDoor.W
namespace Go.Proofs.YtblndjmhjaijjaaGreatDoor.W
open Go Go.RowKit Go.Proofs Go.Proofs.YtblndjmhjaijjaaGreatDoor.VL Go.Proofs.YtblndjmhjaijjaaGreatDoor.M
attribute [local congr] optK_congr guardK_congr condK_congr runT_congr runD_congr wpI_congr CallV_congr LoopI_congr pureK_congr effK_congr calK_congr stepV_congr doV_congr exN_congr exB_congr retF_congr retQ_congr gK_congr condW_congr ldK_congr stoK_congr
attribute [local go_sem] argL_cons argL_nil argH_nil argH_cons chH_getH wpI_seq wpI_reg wpI_drw wpI_ret cond_k condW_t condW_f wpI_skip wpI_block wpI_exit wpI_loop exN_n exN_r exN_e exB_n exB_r exB_h exB_m runT_k kT_e runT_nil runD_k kD_e runD_nil step_u step_k gK_t gK_f do_mv do_bino bo_add bo_sub bo_mul bo_subu bo_quo bo_rem bo_xor bo_eql bo_neq bo_lss bo_leq bo_gtr bo_geq bo_cat bo_eqs bo_nes do_pick do_call do_cal calK_f do_box do_alloc do_ldk ldK_s do_stok stoK_s do_fad do_nilc do_not do_neg do_len do_lens do_ext do_eqs do_beq do_isn do_cvi do_sls do_idx do_mn do_mx do_build do_mkf do_s2b do_b2s do_slv do_iad do_bsl do_mks do_app ev_t ev_c app_some app_none
attribute [local go_sem] List.nil_append List.cons_append List.append_nil getL_hit getL_miss getH_nil getH_hit getH_miss nm_eq ne_eq Nat.reduceEqDiff not_false_eq_true Nat.reduceAdd Nat.add_zero Nat.zero_add if_true if_false ite_true ite_false pureK_s effK_s optK_s gdV_t gdV_f gdV_s pick_b ge_iff_le gt_iff_lt cond_true cond_false fresh_k cells_agg cells_int cells_bool cells_str cells_own cells_sl cells_nils ld_pv ld_pa ld_ip ldVar_t ldVar_f ldArr_t ldArr_f ldRow_t ldRow_f ldA_s ld1_s fad_pv fad_pa fad_ip nilc_pv nilc_pa nilc_ip not_b neg_i cvi_i ext_t retF_n retF_r
attribute [local go_sem] resV_k rvs_nil rvs_t rvs_c fstO_s consO_s resK_s resL_1 resL_2 resL_3 resL_4  Option.some.injEq List.map_cons List.map_nil List.all_cons List.all_nil Bool.and_true Bool.and_self Bool.not_true Bool.not_false Option.map_some Option.map_none sls_s slsG_s loV_n loV_i hiV_n hiV_i idx_s mn_i mx_i s2b_s b2s_s bytO_s bytes_nil bytes_cons conB_s slv_sl slv_own slv_nils slvG_s slvN_s slvO_s iad_sl iadG_map take_map drop_map List.length_map iad_own iad_view iadO_a iadW_a mks_i rowO_nils rowO_sl rowO_own rowA_a eq_self appG_nils appG_own appO_a guardP_T mapA_s bld_nil mkf_nil bldF_e fill_nil fill_cons mkf_e lens_s len_nils len_sl len_own len_view isn_nile isn_erre List.getElem?_cons_zero List.getElem?_cons_succ List.length_cons List.length_nil decide_true decide_false Int.toNat_natCast Int.cast_ofNat_Int Int.reduceLT Int.reduceLE Int.reduceEq Int.reduceAdd Int.reduceSub Int.reduceMul Int.reduceNeg Int.reduceToNat List.getD_cons_zero List.getD_cons_succ not_true_eq_false not_false_eq_true Bool.false_eq_true Bool.true_eq_false reduceCtorEq
attribute [local go_sem] E.row Pc.row Pair.row Part.row Strm.row Flw.row Pk.row Door.row Conv.row World.row Ev.row rdV E.eta Pc.eta Pair.eta Part.eta Strm.eta Pk.eta Flw.eta Conv.eta Door.eta World.eta Ev.eta
attribute [local go_sem] sub_ok st_pv st_pa stVar_v stArr_a Nat.le_refl List.drop_zero List.drop_succ_cons List.take_succ_cons List.take_zero setR Nat.reduceLeDiff
attribute [local go_sem] wk_bot wk2_bot wk1_bot wk_undef wk_tup_e wk2_agg_e wk_agg_e wk1_fn_e wk2_fn_e wk_fn_e wkl_nil wkl_cons wkh_var_e wkh_arr_e wkh_fresh_e wkh_dead_v wkh_dead_a wkh_dead_d wk0_undef wk0_int wk0_bool wk0_str wk0_nils wk0_nils_sl wk0_nilp wk0_nile wk0_erre wk0_sl wk0_iptr wk0_own wk0_view wk0_pv wk0_pa fzA_a fzW_a fzP_v wk0_own_sl wk0_view_sl wk0_pv_iptr WkS_nil WkS_cons WkN_nil WkN_cons nonB_nil nonB_cons getN_nil getN_hit getN_miss pinOk_0 pinOk_s and_true true_and and_self
attribute [local go_sem] bot_int one_int unt_int clo_int bot_bool one_bool unt_bool clo_bool bot_str one_str unt_str clo_str bot_nils one_nils unt_nils clo_nils bot_nilp one_nilp unt_nilp clo_nilp bot_nile one_nile unt_nile clo_nile bot_erre one_erre unt_erre clo_erre bot_raw one_raw unt_raw clo_raw bot_sl one_sl unt_sl clo_sl bot_own one_own unt_own clo_own bot_view one_view unt_view clo_view bot_pv one_pv unt_pv clo_pv bot_pa one_pa unt_pa clo_pa bot_iptr one_iptr unt_iptr clo_iptr unt_agg unt_fn one_fn
attribute [local go_sem] rn_tup rn_agg rn2_agg rn_fn rn2_fn rnfn1 rn_bot rn2_bot rn1_bot rn0_int rn0_bool rn0_str rn0_nils rn0_nilp rn0_nile rn0_erre rn0_sl rn0_iptr rn0_own rn0_view rn0_pv rn0_pa hrn_var hrn_arr hrn_dead outU_nil outU_cons deads_nil deads_cons bk_ge bk_lt nsF_0 nsF_s chH_0 chH_s chH_n newN_e andB_s eqR_nil eqR_i eqR_b eqR_s mapX_f mapX_t eqs_a beq_f beq_t live_arr live_var nsl_nil nsl_cons Nat.reduceMul Nat.reduceLT Nat.zero_le Nat.not_lt_zero
attribute [local go_sem] mV lD lA fD bN eX oP nP sR i0 s0
theorem endRead_eq {t : B} {a p : Int} (h : E.text ⟨a,p⟩ = t) (h1 : E.any ⟨a,p⟩ = true) : endRead t = some ⟨a,p⟩ := by rw [← h]; exact endRead_text h1
def portAt (t : B) (i : Nat) : Int := if i ≤ 2 then 0 else if i = 3 then dig (t.getD 2 0) else 10 * dig (t.getD 2 0) + dig (t.getD 3 0)
theorem ends_dig : ∀ e ∈ ends,dig (e.text.getD 0 0) = e.a ∧ portAt e.text e.text.length = e.p := by decide
theorem dig_rng (b : UInt8) : -1 ≤ dig b ∧ dig b ≤ 9 := by
  unfold dig figB
  split
  · rename_i h
    simp only [UInt8.le_iff_toNat_le,Bool.and_eq_true,decide_eq_true_eq] at h
    have h1 : (48 : UInt8).toNat = 48 := rfl
    have h3 : (57 : UInt8).toNat = 57 := rfl
    omega
  · omega
def ic186 : IC := sR [oP 2 (.alloc 38 [i0,i0]),oP 3 (.mv (.c (.bool false)))] (sR [mV 7 0,oP 8 (.lens (.t 7)),mV 4 8] (.seq (sR [mV 9 4,oP 10 (.call 101 [.t 9,.c (.int .i64 3),.c (.int .i64 4)]),oP 11 (.un .not (.t 10))] (.cond (.t 11) (sR [oP 12 (.build [i0,i0] []),nP (.sto 2 (.t 2) (.t 12)),oP 3 (.mv (.c (.bool false)))] .ret) .skip)) (sR [mV 13 0,oP 14 (.idx (.t 13) (.c i0)),oP 15 (.call 205 [.t 14]),oP 16 (.build [i0,i0] [(0,(1,.t 15))]),oP 5 (.alloc 38 [i0,i0]),nP (.sto 2 (.t 5) (.t 16))] (.seq (sR [oP 6 (.mv (.c (.int .i64 2)))] (.block 0 (.loop (.seq (sR [mV 17 6,mV 18 4,bN 19 .lss 17 18] (.cond (.t 19) .skip (.exit 0))) (.seq (.block 1 (.drw [0,1,3,0,0,24,56,127,255,511] [(0,fD 22 1 5),(1,lD 23 1 22),(2,oP 24 (.bin .mul (.c (.int .i64 10)) (.t 23))),(3,mV 25 0),(4,mV 26 6),(5,oP 27 (.idx (.t 25) (.t 26))),(6,oP 28 (.call 205 [.t 27])),(7,bN 29 .add 24 28),(8,fD 30 1 5),(9,nP (.sto 1 (.t 30) (.t 29)))])) (.reg [mV 20 6,oP 21 (.bin .add (.t 20) (.c (.int .i64 1))),mV 6 21])))))) (.seq (sR [lA 31 2 5,oP 32 (.call 125 [.t 31]),mV 33 0,bN 34 .neq 32 33] (.cond (.t 34) (sR [oP 35 (.build [i0,i0] []),nP (.sto 2 (.t 2) (.t 35)),oP 3 (.mv (.c (.bool false)))] .ret) .skip)) (sR [lA 36 2 5,nP (.sto 2 (.t 2) (.t 36)),oP 3 (.mv (.c (.bool true)))] .ret))))))
theorem dg186 : digF Tryz.prog Tryz.f186 = some (ic186,[(.cell 2 2 true),(.t 3)]) := by kernel_rfl
theorem en186 : entr Tryz.prog 186 = true := by kernel_rfl
theorem c186 (t : B) (hl : t.length ≤ 2000000 := by omega) : FnR Tryz.prog G 186 [.str t] (rdV (endRead t)) := by
  refine FnR.mkF Tryz.func186 en186 dg186 Tryz.ntmps186 (by simp) ?_
  have hlen : ∀ e,endRead t = some e → 3 ≤ t.length ∧ t.length ≤ 4 := fun e he => by
    obtain ⟨h1,h2⟩ := endRead_some he
    have := text_len h1
    rw [h2] at this
    split at this <;> omega
  simp only [ic186,go_sem]
  refine callR (c101 ..) rfl rfl ?_
  simp only [go_sem]
  cases hw : within t.length 3 4 <;> simp only [go_sem]
  · have : endRead t = none := by
      cases h : endRead t with
      | none => rfl
      | some e =>
        have := hlen e h
        have : within t.length 3 4 = true := M.within_iff.2 (by omega)
        rw [hw] at this; cases this
    simp [this,rdV,go_sem,E.zero]
  · rw [M.within_iff] at hw
    with_reducible repeat' (first | refine br ?_ ?_ <;> intro h e <;> (try simp only [e,go_sem]) <;> clear e | rw [i64w (by omega)] | (first | refine sk ?_ | refine sd ?_) <;> try simp only [go_sem] | (first | refine cr (c205 ..) ?_) <;> try simp only [go_sem] | fail)
    refine loopN (fun i : Nat => ⟨getL [(0,.str t),(2,.pv 1002 0),(4,.int .i64 t.length),(5,.pv 1005 0),(6,.int .i64 (i : Int))],getH [(1002,.var 38 [.int .i64 0,.int .i64 0]),(1005,.var 38 [.int .i64 (dig (t.getD 0 0)),.int .i64 (portAt t i)])]⟩) (fun i => t.length - i) (fun i => 2 ≤ i ∧ i ≤ t.length) 2 (leQ []) ⟨by omega,by omega⟩ ?_
    intro i ⟨hi,hil⟩
    simp only [go_sem]
    have dr := dig_rng (t.getD i 0)
    have dr2 := dig_rng (t.getD 2 0)
    have pi : i < t.length → -10 ≤ portAt t i ∧ portAt t i ≤ 9 ∧ portAt t (i + 1) = 10 * portAt t i + dig (t.getD i 0) := fun h => by
      have : i = 2 ∨ i = 3 := by omega
      rcases this with rfl | rfl <;> simp [portAt] at dr dr2 ⊢ <;> omega
    by_cases h : (i : Int) < t.length
    · simp only [eq_true h,go_sem]
      obtain ⟨p1,p2,p3⟩ := pi (by omega)
      with_reducible repeat' (first | refine br ?_ ?_ <;> intro h e <;> (try simp only [e,go_sem]) <;> clear e | rw [i64w (by omega)] | (first | refine sk ?_ | refine sd ?_) <;> try simp only [go_sem] | (first | refine cr (c205 ..) ?_) <;> try simp only [go_sem] | fail)
      refine ⟨i + 1,by omega,⟨by omega,by omega⟩,(leQ [])⟩
    · simp only [eq_false h,go_sem]
      have : i = t.length := by omega
      subst this
      refine callR (c125 ..) rfl rfl ?_
      simp only [go_sem]
      with_reducible repeat' (first | refine br ?_ ?_ <;> intro h e <;> (try simp only [e,go_sem]) <;> clear e | rw [i64w (by omega)] | (first | refine sk ?_ | refine sd ?_) <;> try simp only [go_sem] | fail)
      · have ha : E.any ⟨dig (t.getD 0 0),portAt t t.length⟩ = true := by
          cases hc : E.any ⟨dig (t.getD 0 0),portAt t t.length⟩ with
          | true => rfl
          | false =>
            exfalso
            simp only [E.text,hc] at h
            rw [← h] at hw
            simp at hw
        simp [endRead_eq h ha,rdV,go_sem]
      · have hn : endRead t = none := by
          cases hr : endRead t with
          | none => rfl
          | some e =>
            exfalso
            obtain ⟨e1,e2⟩ := endRead_some hr
            obtain ⟨d1,d2⟩ := ends_dig e (E.any_iff.1 e1)
            rw [e2] at d1 d2
            rw [d1,d2] at h
            exact h e2
        simp [hn,rdV,go_sem,E.zero]
def ic178 : IC := sR [oP 2 (.alloc 38 [i0,i0]),oP 3 (.mv (.c (.bool false)))] (sR [mV 13 0,oP 14 (.call 60 [.t 13,.c (.str [58])]),mV 12 14,eX 15 12 0,eX 16 12 1,eX 17 12 2,mV 4 15,mV 5 16,mV 6 17] (sR [mV 19 4,oP 20 (.call 179 [.t 19]),mV 18 20,eX 21 18 0,eX 22 18 1,mV 7 21,mV 8 22] (sR [mV 24 5,oP 25 (.call 179 [.t 24]),mV 23 25,eX 26 23 0,eX 27 23 1,mV 9 26,mV 10 27] (sR [mV 28 7,mV 29 9,oP 30 (.build [i0,i0] [(0,(1,.t 28)),(1,(1,.t 29))]),oP 11 (.alloc 38 [i0,i0]),nP (.sto 2 (.t 11) (.t 30))] (.seq (sR [mV 31 8,oP 32 (.isn true (.t 31)),mV 33 32,⟨some 34,some (33,false),.mv (.t 10)⟩,⟨some 35,some (33,false),.isn true (.t 34)⟩,oP 36 (.pick (.t 33) (.c (.bool true)) (.t 35)),mV 37 36,⟨some 38,some (37,false),.ld 2 true (.t 11)⟩,⟨some 39,some (37,false),.call 112 [.t 38]⟩,⟨some 40,some (37,false),.un .not (.t 39)⟩,oP 41 (.pick (.t 37) (.c (.bool true)) (.t 40)),mV 42 41,⟨some 43,some (42,false),.ld 2 true (.t 11)⟩,⟨some 44,some (42,false),.call 135 [.t 43]⟩,⟨some 45,some (42,false),.mv (.t 0)⟩,⟨some 46,some (42,false),.bin .neq (.t 44) (.t 45)⟩,oP 47 (.pick (.t 42) (.c (.bool true)) (.t 46))] (.cond (.t 47) (sR [oP 48 (.build [i0,i0] []),nP (.sto 2 (.t 2) (.t 48)),oP 3 (.mv (.c (.bool false)))] .ret) .skip)) (sR [lA 49 2 11,nP (.sto 2 (.t 2) (.t 49)),oP 3 (.mv (.c (.bool true)))] .ret))))))
theorem dg178 : digF Tryz.prog Tryz.f178 = some (ic178,[(.cell 2 2 true),(.t 3)]) := by kernel_rfl
theorem en178 : entr Tryz.prog 178 = true := by kernel_rfl
theorem c178 (t : B) (hl : t.length ≤ 2000000 := by omega) : FnR Tryz.prog G 178 [.str t] (rdV (endRead t)) := by
  refine FnR.mkF Tryz.func178 en178 dg178 Tryz.ntmps178 (by simp) ?_
  simp only [ic178,go_sem]
  refine callR (c60 t 58) rfl rfl ?_
  simp only [go_sem]
  have hcl : (cutB t 58).1.length ≤ 2000000 ∧ (cutB t 58).2.1.length ≤ 2000000 := by
    have := cutB_len t 58
    omega
  have hr : ∀ e,endRead t = some e → (cutB t 58).1 = dec e.a ∧ (cutB t 58).2.1 = dec e.p ∧ (0 ≤ e.a ∧ e.a < 100) ∧ (0 ≤ e.p ∧ e.p < 100) := fun e he => by
    obtain ⟨h1,h2,h3⟩ := endRead_cut he
    rw [h1]; exact ⟨rfl,rfl,h2,h3⟩
  refine callV0 (c179 _ (by omega)) rfl (fun r o hp => ⟨by rcases hp.2 with ⟨n,rfl,_⟩ | ⟨n,rfl,_⟩ <;> rfl,hp.1⟩) (fun r1 hp1 => ?_)
  rcases hp1.2 with ⟨n1,rfl,hn1⟩ | ⟨n1,rfl,hn1⟩ <;> simp only [go_sem] <;>
    (refine callV0 (c179 _ (by omega)) rfl (fun r o hp => ⟨by rcases hp.2 with ⟨n,rfl,_⟩ | ⟨n,rfl,_⟩ <;> rfl,hp.1⟩) (fun r2 hp2 => ?_)
     rcases hp2.2 with ⟨n2,rfl,hn2⟩ | ⟨n2,rfl,hn2⟩ <;> simp only [go_sem])
  · have hx : ∀ e,endRead t = some e → n1 = e.a ∧ n2 = e.p := fun e he => by
      obtain ⟨a1,a2,a3,a4⟩ := hr e he
      exact ⟨hn1 _ a3.1 a3.2 a1,hn2 _ a4.1 a4.2 a2⟩
    with_reducible repeat' (first | refine br ?_ ?_ <;> intro h e <;> (try simp only [e,go_sem]) <;> clear e | rw [i64w (by omega)] | (first | refine sk ?_ | refine sd ?_) <;> try simp only [go_sem] | (first | refine cr (c112 ..) ?_ | refine cr (c135 ..) ?_) <;> try simp only [go_sem] | fail)
    · have hn : endRead t = none := by
        cases hr2 : endRead t with
        | none => rfl
        | some e =>
          exfalso
          obtain ⟨rfl,rfl⟩ := hx e hr2
          rw [(endRead_some hr2).1] at h
          cases h
      simp [hn,rdV,go_sem,E.zero]
    · rename_i ha
      simp [endRead_eq h (by simpa using ha),rdV,go_sem]
    · have hn : endRead t = none := by
        cases hr2 : endRead t with
        | none => rfl
        | some e =>
          exfalso
          obtain ⟨rfl,rfl⟩ := hx e hr2
          exact h (endRead_some hr2).2
      simp [hn,rdV,go_sem,E.zero]
  all_goals
    have hn : endRead t = none := by
      cases hr2 : endRead t with
      | none => rfl
      | some e =>
        exfalso
        obtain ⟨a1,a2,a3,a4⟩ := hr e hr2
        first | exact hn1 _ a3.1 a3.2 a1 | exact hn2 _ a4.1 a4.2 a2
    simp [hn,rdV,go_sem,E.zero]
def ic200 : IC := sR [oP 2 (.alloc 38 [i0,i0]),oP 3 (.mv (.c i0))] (.seq (sR [oP 4 (.mv (.c (.int .i64 5)))] (.block 0 (.loop (.seq (sR [mV 7 4,oP 8 (.bin .leq (.t 7) (.c (.int .i64 6))),mV 9 8,⟨some 10,some (9,true),.mv (.t 4)⟩,⟨some 11,some (9,true),.mv (.t 0)⟩,⟨some 12,some (9,true),.lens (.t 11)⟩,⟨some 13,some (9,true),.bin .leq (.t 10) (.t 12)⟩,oP 14 (.pick (.t 9) (.t 13) (.c (.bool false)))] (.cond (.t 14) .skip (.exit 0))) (.seq (.block 1 (sR [mV 17 0,oP 18 (.idx (.t 17) (.c i0)),oP 19 (.bin .eql (.t 18) (.c (.int .u8 64))),mV 20 19,⟨some 21,some (20,true),.mv (.t 0)⟩,⟨some 22,some (20,true),.mv (.t 4)⟩,⟨some 23,some (20,true),.bin .sub (.t 22) (.c (.int .i64 1))⟩,⟨some 24,some (20,true),.idx (.t 21) (.t 23)⟩,⟨some 25,some (20,true),.bin .eql (.t 24) (.c (.int .u8 59))⟩,oP 26 (.pick (.t 20) (.t 25) (.c (.bool false)))] (.cond (.t 26) (sR [mV 28 0,mV 29 4,oP 30 (.bin .sub (.t 29) (.c (.int .i64 1))),oP 31 (.sls (.t 28) (some (.c (.int .i64 1))) (some (.t 30))),oP 32 (.call 186 [.t 31]),mV 27 32,eX 33 27 0,eX 34 27 1,oP 5 (.alloc 38 [i0,i0]),nP (.sto 2 (.t 5) (.t 33)),mV 6 34] (sR [mV 35 6] (.cond (.t 35) (sR [lA 36 2 5,mV 37 4,nP (.sto 2 (.t 2) (.t 36)),mV 3 37] .ret) .skip))) .skip))) (.reg [mV 15 4,oP 16 (.bin .add (.t 15) (.c (.int .i64 1))),mV 4 16])))))) (sR [oP 38 (.build [i0,i0] []),nP (.sto 2 (.t 2) (.t 38)),oP 3 (.mv (.c i0))] .ret))
theorem dg200 : digF Tryz.prog Tryz.f200 = some (ic200,[(.cell 2 2 true),(.t 3)]) := by kernel_rfl
theorem en200 : entr Tryz.prog 200 = true := by kernel_rfl
theorem nameAt_5 {s : B} {e : E} (h : nameAt s = some e) : ∃ k,(k = 3 ∨ k = 4) ∧ e.text.length = k ∧ s.getD 0 0 = 64 ∧ s.getD (k + 1) 0 = 59 ∧ (s.take (k + 1)).drop 1 = e.text ∧ k + 2 ≤ s.length := by
  obtain ⟨h1,r,rfl⟩ := nameAt_some h
  have hl := text_len h1
  refine ⟨e.text.length,by rw [hl]; split <;> simp,rfl,by simp [name], ?_, ?_, ?_⟩
  · simp [name,List.getD]
  · simp [name]
  · simp [name]
theorem nameAt_of {s : B} {e : E} {k : Nat} (h0 : s.getD 0 0 = 64) (h1 : s.getD (k + 1) 0 = 59) (h2 : endRead ((s.take (k + 1)).drop 1) = some e) (hl : k + 2 ≤ s.length) : nameAt s = some e := by
  obtain ⟨c,r,rfl⟩ : ∃ c r,s = c :: r := by cases s with | nil => simp at hl | cons c r => exact ⟨c,r,rfl⟩
  obtain ⟨a1,a2⟩ := endRead_some h2
  simp only [List.getD_cons_zero] at h0
  subst h0
  simp only [List.getD_cons_succ,List.length_cons,List.take_succ_cons,List.drop_succ_cons,List.drop_zero] at h1 h2 hl a2
  have : (64 :: r : B) = name e ++ r.drop (k + 1) := by
    simp only [name,a2,List.cons_append,List.cons.injEq,true_and,List.append_assoc]
    have hk : r[k]? = some 59 := by
      have : k < r.length := by omega
      simp [List.getD,this] at h1 ⊢
      exact h1
    conv => lhs; rw [← List.take_append_drop k r]
    congr 1
    rw [List.drop_eq_getElem_cons (show k < r.length by omega)]
    simp [List.getElem?_eq_getElem (show k < r.length by omega)] at hk
    simp [hk]
  rw [this]
  exact nameAt_name a1 _
theorem c200 (s : B) (hs : s ≠ []) (hl : s.length ≤ 2000000 := by omega) : FnR Tryz.prog G 200 [.str s] (.tup [.agg [.int .i64 ((nameAt s).getD .zero).a,.int .i64 ((nameAt s).getD .zero).p],.int .i64 (match nameAt s with | some e => (name e).length | none => 0)]) := by
  refine FnR.mkF Tryz.func200 en200 dg200 Tryz.ntmps200 (by simp) ?_
  simp only [ic200,go_sem]
  have hp : 1 ≤ s.length := List.length_pos_iff.2 hs
  refine loopN (fun i : Nat => ⟨getL [(0,.str s),(2,.pv 1002 0),(4,.int .i64 (i : Int))],getH [(1002,.var 38 [.int .i64 0,.int .i64 0])]⟩) (fun i => 7 - i) (fun i => 5 ≤ i ∧ i ≤ 7 ∧ ∀ e,nameAt s = some e → i ≤ e.text.length + 2) 5 (leQ []) ⟨by omega,by omega,fun e he => by obtain ⟨k,h1,h2,_⟩ := nameAt_5 he; omega⟩ ?_
  intro i ⟨h5,h7,hn⟩
  simp only [go_sem]
  obtain ⟨k,rfl⟩ : ∃ k,i = k + 2 := ⟨i - 2,by omega⟩
  have e2 : (((k + 2 : Nat) : Int) - 1).toNat = k + 1 := by omega
  with_reducible repeat' (first | refine br ?_ ?_ <;> intro h e <;> (try simp only [e,go_sem]) <;> clear e | rw [i64w (by omega)] | (first | refine sk ?_ | refine sd ?_) <;> try simp only [go_sem] | fail)
  · rename_i g0
    simp only [e2] at *
    refine callR (c186 _ (by simp; omega)) rfl rfl ?_
    simp only [go_sem]
    have g1 : s.getD 0 0 = 64 := UInt8.toNat_inj.1 (Int.ofNat_inj.1 g0)
    have g2 : s.getD (k + 1) 0 = 59 := UInt8.toNat_inj.1 (Int.ofNat_inj.1 h)
    have hk : k + 2 ≤ s.length := by omega
    cases hr : endRead ((s.take (k + 1)).drop 1) with
    | some e =>
      have he := nameAt_of g1 g2 hr hk
      obtain ⟨a1,a2⟩ := endRead_some hr
      simp only [go_sem,Option.isSome_some,he,Option.getD_some]
      have : (name e).length = k + 2 := by rw [name]; simp [a2]; omega
      simp [this]
    | none =>
      simp only [go_sem,Option.isSome_none]
      with_reducible repeat' (first | refine br ?_ ?_ <;> intro h e <;> (try simp only [e,go_sem]) <;> clear e | rw [i64w (by omega)] | (first | refine sk ?_ | refine sd ?_) <;> try simp only [go_sem] | fail)
      refine ⟨k + 3,by omega,⟨by omega,by omega,fun e he => ?_⟩,(leQ [])⟩
      obtain ⟨k',b1,b2,b3,b4,b5,b6⟩ := nameAt_5 he
      have := hn e he
      rcases Nat.lt_or_ge k k' with h | h
      · omega
      · exfalso
        have : k' = k := by omega
        subst this
        rw [b5,endRead_text (nameAt_some he).1] at hr
        cases hr
  · refine ⟨k + 3,by omega,⟨by omega,by omega,fun e he => ?_⟩,(leQ [])⟩
    obtain ⟨k',b1,b2,b3,b4,b5,b6⟩ := nameAt_5 he
    have := hn e he
    rcases Nat.lt_or_ge k k' with h | h
    · omega
    · exfalso
      have : k' = k := by omega
      subst this
      rename_i hq
      rw [e2,b4] at hq
      exact absurd rfl hq
  · refine ⟨k + 3,by omega,⟨by omega,by omega,fun e he => ?_⟩,(leQ [])⟩
    obtain ⟨k',b1,b2,b3,b4,b5,b6⟩ := nameAt_5 he
    rw [b3] at h
    exact absurd rfl h
  · have : nameAt s = none := by
      cases hq : nameAt s with
      | none => rfl
      | some e =>
        obtain ⟨k',b1,b2,b3,b4,b5,b6⟩ := nameAt_5 hq
        have := hn e hq
        omega
    simp [this,E.zero]
  · have : nameAt s = none := by
      cases hq : nameAt s with
      | none => rfl
      | some e =>
        obtain ⟨k',b1,b2,b3,b4,b5,b6⟩ := nameAt_5 hq
        have := hn e hq
        omega
    simp [this,E.zero]
def ic198 : IC := sR [oP 2 (.alloc 38 [i0,i0]),oP 3 (.mv (.c (.bool false)))] (sR [mV 10 0,oP 11 (.call 60 [.t 10,.c (.str [59])]),mV 9 11,eX 12 9 0,eX 13 9 1,eX 14 9 2,mV 4 12,mV 5 13,mV 6 14] (sR [mV 16 4,oP 17 (.call 178 [.t 16]),mV 15 17,eX 18 15 0,eX 19 15 1,oP 7 (.alloc 38 [i0,i0]),nP (.sto 2 (.t 7) (.t 18)),mV 8 19] (sR [lA 20 2 7,mV 21 6,mV 22 21,⟨some 23,some (22,true),.mv (.t 8)⟩,oP 24 (.pick (.t 22) (.t 23) (.c (.bool false))),nP (.sto 2 (.t 2) (.t 20)),mV 3 24] .ret)))
theorem dg198 : digF Tryz.prog Tryz.f198 = some (ic198,[(.cell 2 2 true),(.t 3)]) := by kernel_rfl
theorem en198 : entr Tryz.prog 198 = true := by kernel_rfl
def rdN (s : B) : Option E := if 59 ∈ s then endRead (s.takeWhile fun b => decide (b ≠ 59)) else none
theorem c198 (s : B) (hl : s.length ≤ 2000000 := by omega) : FnR Tryz.prog G 198 [.str s] (.tup [.agg [.int .i64 ((endRead (cutB s 59).1).getD .zero).a,.int .i64 ((endRead (cutB s 59).1).getD .zero).p],.bool (rdN s).isSome]) := by
  refine FnR.mkF Tryz.func198 en198 dg198 Tryz.ntmps198 (by simp) ?_
  simp only [ic198,go_sem]
  refine callR (c60 s 59) rfl rfl ?_
  simp only [go_sem]
  have := cutB_len s 59
  refine callR (c178 (cutB s 59).1 (by omega)) rfl rfl ?_
  simp only [go_sem]
  with_reducible repeat' (first | refine br ?_ ?_ <;> intro h e <;> (try simp only [e,go_sem]) <;> clear e | rw [i64w (by omega)] | (first | refine sk ?_ | refine sd ?_) <;> try simp only [go_sem] | fail)
  all_goals (simp only [cutB] at *; split at h <;> rename_i hm <;> simp_all [rdN])
def ic157 : IC := sR [oP 2 (.alloc 75 [i0,.bool false,i0,i0])] (.seq (sR [mV 8 0,oP 9 (.call 197 [.t 8,.c (.str [64])]),mV 7 9,eX 10 7 0,eX 11 7 1,mV 3 10,mV 4 11] (sR [mV 12 4] (.cond (.t 12) (sR [mV 14 3,oP 15 (.call 198 [.t 14]),mV 13 15,eX 16 13 0,eX 17 13 1,oP 5 (.alloc 38 [i0,i0]),nP (.sto 2 (.t 5) (.t 16)),mV 6 17] (sR [mV 18 6] (.cond (.t 18) (.seq (.drw [0,1,3,0,15,31] [(0,lA 19 2 5),(1,oP 20 (.call 199 [.t 19])),(2,oP 21 (.lens (.t 20))),(3,lA 22 2 5),(4,oP 23 (.build [i0,.bool false,i0,i0] [(0,(1,.t 21)),(1,(1,.c (.bool true))),(2,(2,.t 22))])),(5,nP (.sto 4 (.t 2) (.t 23)))]) .ret) .skip))) .skip))) (sR [oP 24 (.build [i0,.bool false,i0,i0] [(0,(1,.c (.int .i64 1)))]),nP (.sto 4 (.t 2) (.t 24))] .ret))
theorem dg157 : digF Tryz.prog Tryz.f157 = some (ic157,[(.cell 2 4 true)]) := by kernel_rfl
theorem en157 : entr Tryz.prog 157 = true := by kernel_rfl
theorem c157 (s : B) (hs : s ≠ []) (hl : s.length ≤ 2000000 := by omega) : FnR Tryz.prog G 157 [.str s] (.agg [.int .i64 (pc1 s).size,.bool (pc1 s).named,.int .i64 (pc1 s).e.a,.int .i64 (pc1 s).e.p]) := by
  refine FnR.mkF Tryz.func157 en157 dg157 Tryz.ntmps157 (by simp) ?_
  simp only [ic157,go_sem]
  obtain ⟨c,r,rfl⟩ : ∃ c r,s = c :: r := by cases s with | nil => exact absurd rfl hs | cons c r => exact ⟨c,r,rfl⟩
  refine callR (c197 _ _) rfl rfl ?_
  simp only [go_sem]
  simp only [List.length_cons] at hl
  have key : nameAt (c :: r) = if c = 64 then rdN r else none := by
    simp only [nameAt,rdN]
    by_cases hc : c = 64 <;> by_cases h59 : 59 ∈ r <;> simp [hc,h59]
  by_cases hc : c = 64
  · subst hc
    have e1 : List.isPrefixOf [64] (64 :: r : B) = true := by simp [List.isPrefixOf]
    simp only [e1,go_sem]
    refine callR (c198 r) rfl rfl ?_
    simp only [go_sem]
    rw [if_pos rfl] at key
    cases hn : rdN r with
    | some e =>
      rw [hn] at key
      have h59 : 59 ∈ r := by
        by_cases h : 59 ∈ r
        · exact h
        · simp [rdN,h] at hn
      have he : endRead (cutB r 59).1 = some e := by
        simp only [rdN,if_pos h59] at hn
        simp only [cutB,if_pos h59]; exact hn
      simp only [go_sem,Option.isSome_some,he,Option.getD_some]
      with_reducible repeat' (first | refine br ?_ ?_ <;> intro h e <;> (try simp only [e,go_sem]) <;> clear e | rw [i64w (by omega)] | (first | refine sk ?_ | refine sd ?_) <;> try simp only [go_sem] | (first | refine cr (c199 ..) ?_) <;> try simp only [go_sem] | fail)
      simp [pc1,key]
    | none =>
      rw [hn] at key
      simp only [go_sem,Option.isSome_none]
      simp [pc1,key,E.zero]
  · have e1 : List.isPrefixOf [64] (c :: r : B) = false := by simp [List.isPrefixOf]; exact fun h => hc h.symm
    rw [if_neg hc] at key
    simp only [e1,go_sem]
    simp [pc1,key,E.zero]
def ic91 : IC := sR [oP 2 (.mv (.c .nils))] (sR [oP 6 (.bsl 75 4 []),mV 3 6] (.seq (sR [mV 7 0,mV 8 0,oP 9 (.lens (.t 8)),mV 10 0,oP 11 (.call 156 [.t 10]),bN 12 .sub 9 11,oP 13 (.sls (.t 7) none (some (.t 12))),mV 4 13] (.block 0 (.loop (.seq (sR [mV 14 4,oP 15 (.bin .neq (.t 14) (.c s0))] (.cond (.t 15) .skip (.exit 0))) (.block 1 (sR [mV 16 4,oP 17 (.call 157 [.t 16]),oP 5 (.alloc 75 [i0,.bool false,i0,i0]),nP (.sto 4 (.t 5) (.t 17))] (sR [mV 18 3,lA 19 4 5,oP 20 (.bsl 75 4 [.t 19]),oP 21 (.app 75 4 (.t 18) (.t 20)),mV 3 21] (.reg [mV 22 4,fD 23 0 5,lD 24 1 23,oP 25 (.sls (.t 22) (some (.t 24)) none),mV 4 25])))))))) (sR [mV 26 3,oP 27 (.call 158 [.t 26]),mV 2 27] .ret)))
theorem dg91 : digF Tryz.prog Tryz.f91 = some (ic91,[(.t 2)]) := by kernel_rfl
theorem en91 : entr Tryz.prog 91 = true := by kernel_rfl
theorem c91 (t : B) (hl : t.length ≤ 2000000 := by omega) : FnR Tryz.prog G 91 [.str t] (.sl 4 ((pieces t).map Pc.row)) := by
  refine FnR.mkF Tryz.func91 en91 dg91 Tryz.ntmps91 (by simp) ?_
  simp only [ic91,go_sem]
  have hh := held_le t
  with_reducible repeat' (first | refine br ?_ ?_ <;> intro h e <;> (try simp only [e,go_sem]) <;> clear e | rw [i64w (by omega)] | (first | refine sk ?_ | refine sd ?_) <;> try simp only [go_sem] | (first | refine cr (c156 ..) ?_) <;> try simp only [go_sem] | fail)
  have e0 : ((t.take ((t.length : Int) - (held t : Int)).toNat).drop 0) = body t := by
    rw [List.drop_zero]; unfold body; congr 1; omega
  refine loopN (fun a : List Pc × B => ⟨getL [(3,.own 1006 a.1.length),(4,.str a.2)],getH [(1006,.arr 75 4 (a.1.map Pc.row))]⟩) (fun a => a.2.length) (fun a => a.1 ++ pcs a.2 = pieces t ∧ a.1.length + a.2.length ≤ t.length) ([],body t)
    (leN [] (by simp only [go_sem]; first | done | exact e0.symm) (by simp only [go_sem]; first | done | rfl) (by simp [getN]) (by simp only [go_sem])) ⟨by rw [pieces_eq]; rfl,by have := body_len t; simp; omega⟩ ?_
  intro ⟨acc,rest⟩ ⟨h1,h2⟩
  simp only [go_sem]
  simp only at h1 h2
  by_cases hr : rest = []
  · subst hr
    simp only [go_sem]
    refine callF (c158 (acc.map Pc.row)) [1006] true (by simp only [go_sem]; simp) (by simp only [List.mem_singleton]; rintro c rfl; rfl) rfl (.inl rfl) ?_
    simp only [go_sem]
    rw [← h1,pcs_nil,List.append_nil]
  · simp only [eq_false hr,go_sem]
    refine callR (c157 rest hr) rfl rfl ?_
    simp only [go_sem]
    obtain ⟨p1,p2,p3⟩ := pc1_size hr
    with_reducible repeat' (first | refine br ?_ ?_ <;> intro h e <;> (try simp only [e,go_sem]) <;> clear e | rw [i64w (by omega)] | (first | refine sk ?_ | refine sd ?_) <;> try simp only [go_sem] | fail)
    refine ⟨(acc ++ [pc1 rest],rest.drop (pc1 rest).size),by simp; omega,⟨?_,by simp; omega⟩,leN [(1006,1021)] ?_ ?_ (by simp [getN]) (by simp only [go_sem])⟩
    · rw [← h1,pcs_cons hr,List.append_assoc]; rfl
    · simp only [go_sem]; simp
    · simp only [go_sem]; simp [Pc.row]
def ic163 : IC := sR [oP 2 (.mv (.c .nils))] (sR [oP 8 (.bsl 75 4 []),mV 3 8] (sR [mV 9 0,oP 10 (.lens (.t 9)),mV 11 0,oP 12 (.call 126 [.t 11]),bN 13 .sub 10 12,mV 4 13] (sR [oP 5 (.mv (.c i0))] (.seq (.block 0 (.loop (.seq (sR [mV 14 5,mV 15 4,bN 16 .lss 14 15] (.cond (.t 16) .skip (.exit 0))) (.block 1 (sR [mV 18 0,mV 19 5,mV 20 4,oP 21 (.sls (.t 18) (some (.t 19)) (some (.t 20))),oP 22 (.call 200 [.t 21]),mV 17 22,eX 23 17 0,eX 24 17 1,oP 6 (.alloc 38 [i0,i0]),nP (.sto 2 (.t 6) (.t 23)),mV 7 24] (.seq (sR [mV 25 7,oP 26 (.bin .gtr (.t 25) (.c i0))] (.cond (.t 26) (.reg [mV 27 3,mV 28 7,lA 29 2 6,oP 30 (.build [i0,.bool false,i0,i0] [(0,(1,.t 28)),(1,(1,.c (.bool true))),(2,(2,.t 29))]),oP 31 (.bsl 75 4 [.t 30]),oP 32 (.app 75 4 (.t 27) (.t 31)),mV 3 32]) (sR [oP 7 (.mv (.c (.int .i64 1)))] (.reg [mV 33 3,oP 34 (.build [i0,.bool false,i0,i0] [(0,(1,.c (.int .i64 1)))]),oP 35 (.bsl 75 4 [.t 34]),oP 36 (.app 75 4 (.t 33) (.t 35)),mV 3 36])))) (.reg [mV 37 5,mV 38 7,bN 39 .add 37 38,mV 5 39]))))))) (sR [mV 40 3,mV 2 40] .ret)))))
theorem dg163 : digF Tryz.prog Tryz.f163 = some (ic163,[(.t 2)]) := by kernel_rfl
theorem en163 : entr Tryz.prog 163 = true := by kernel_rfl
theorem c163 (t : B) (hl : t.length ≤ 2000000 := by omega) : FnR Tryz.prog G 163 [.str t] (.sl 4 ((pieces t).map Pc.row)) := by
  refine FnR.mkF Tryz.func163 en163 dg163 Tryz.ntmps163 (by simp) ?_
  simp only [ic163,go_sem]
  have hh := held_le t
  with_reducible repeat' (first | refine br ?_ ?_ <;> intro h e <;> (try simp only [e,go_sem]) <;> clear e | rw [i64w (by omega)] | (first | refine sk ?_ | refine sd ?_) <;> try simp only [go_sem] | (first | refine cr (c126 ..) ?_) <;> try simp only [go_sem] | fail)
  have hb : body t = t.take (t.length - held t) := rfl
  have hbl := body_len t
  refine loopN (fun a : List Pc × Nat => ⟨getL [(0,.str t),(3,.own 1008 a.1.length),(4,.int .i64 (body t).length),(5,.int .i64 (a.2 : Int))],getH [(1008,.arr 75 4 (a.1.map Pc.row))]⟩) (fun a => (body t).length - a.2) (fun a => a.1 ++ pcs ((body t).drop a.2) = pieces t ∧ a.1.length ≤ a.2 ∧ a.2 ≤ (body t).length) ([],0)
    (leN [] (by simp only [go_sem]; first | done | omega) (by simp only [go_sem]; first | done | rfl) (by simp [getN]) (by simp only [go_sem])) ⟨by rw [pieces_eq]; rfl,by simp⟩ ?_
  intro ⟨acc,i⟩ ⟨h1,h2,h3⟩
  simp only at h1 h2 h3
  simp only [go_sem]
  by_cases hr : (i : Int) < (body t).length
  · simp only [eq_true hr,go_sem]
    with_reducible repeat' (first | refine br ?_ ?_ <;> intro h e <;> (try simp only [e,go_sem]) <;> clear e | rw [i64w (by omega)] | (first | refine sk ?_ | refine sd ?_) <;> try simp only [go_sem] | fail)
    have e1 : (t.take (body t).length).drop i = (body t).drop i := by rw [hb]; simp
    have hne : (body t).drop i ≠ [] := by intro h; have := congrArg List.length h; simp at this; omega
    simp only [e1]
    refine callR (c200 _ hne (by simp; omega)) rfl rfl ?_
    simp only [go_sem]
    obtain ⟨p1,p2,p3⟩ := pc1_size hne
    have hpc := pcs_cons hne
    simp only [List.length_drop] at p2
    have hdrop : ((body t).drop i).drop (pc1 ((body t).drop i)).size = (body t).drop (i + (pc1 ((body t).drop i)).size) := by simp
    rw [hdrop] at hpc
    generalize hg : pc1 ((body t).drop i) = q at *
    have hgen : (q.size = (match nameAt ((body t).drop i) with | some e => (name e).length | none => 1)) ∧ q = (match nameAt ((body t).drop i) with | some e => ⟨(name e).length,true,e⟩ | none => ⟨1,false,.zero⟩) := by
      rw [← hg]; unfold pc1; cases nameAt ((body t).drop i) <;> exact ⟨rfl,rfl⟩
    have hnn : ∀ e,nameAt ((body t).drop i) = some e → 1 ≤ (name e).length := fun e _ => by simp [name]
    cases hn : nameAt ((body t).drop i) with
    | none =>
      rw [hn] at hgen
      obtain ⟨hq1,hq2⟩ := hgen
      simp only at hq1 hq2
      simp only [go_sem]
      with_reducible repeat' (first | refine br ?_ ?_ <;> intro h e <;> (try simp only [e,go_sem]) <;> clear e | rw [i64w (by omega)] | (first | refine sk ?_ | refine sd ?_) <;> try simp only [go_sem] | fail)
      refine ⟨(acc ++ [q],i + 1),by simp; omega,⟨?_,by simp; omega,by simp; omega⟩,leN [(1008,1036)] ?_ ?_ (by simp [getN]) (by simp only [go_sem])⟩
      · rw [← h1,hpc,hq1,List.append_assoc]; rfl
      · simp only [go_sem]; simp
      · simp only [go_sem]; simp [Pc.row,hq2,E.zero]
    | some e =>
      rw [hn] at hgen
      obtain ⟨hq1,hq2⟩ := hgen
      have hnl := hnn e hn
      simp only at hq1 hq2
      simp only [go_sem,Option.getD_some]
      with_reducible repeat' (first | refine br ?_ ?_ <;> intro h e <;> (try simp only [e,go_sem]) <;> clear e | rw [i64w (by omega)] | (first | refine sk ?_ | refine sd ?_) <;> try simp only [go_sem] | fail)
      · refine ⟨(acc ++ [q],i + (name e).length),by simp; omega,⟨?_,by simp; omega,by simp; omega⟩,leN [(1008,1032)] ?_ ?_ (by simp [getN]) (by simp only [go_sem])⟩
        · rw [← h1,hpc,hq1,List.append_assoc]; rfl
        · simp only [go_sem]; simp
        · simp only [go_sem]; simp [Pc.row,hq2]
      · omega
  · simp only [eq_false hr,go_sem]
    have : i = (body t).length := by omega
    subst this
    rw [← h1,List.drop_length,pcs_nil,List.append_nil]
    exact ⟨rfl,rfl⟩
def ic37 : IC := sR [oP 2 (.mv (.c .nils))] (.seq (sR [mV 3 0,oP 4 (.call 90 [.t 3]),oP 5 (.un .not (.t 4))] (.cond (.t 5) (sR [oP 2 (.mv (.c .nils))] .ret) .skip)) (sR [mV 6 0,oP 7 (.call 91 [.t 6]),mV 2 7] .ret))
theorem dg37 : digF Tryz.prog Tryz.f37 = some (ic37,[(.t 2)]) := by kernel_rfl
theorem en37 : entr Tryz.prog 37 = true := by kernel_rfl
theorem c37 (t : B) (hl : t.length ≤ 2000000 := by omega) : FnR Tryz.prog G 37 [.str t] (.sl 4 ((textPieces t).map Pc.row)) := by
  refine FnR.mkF Tryz.func37 en37 dg37 Tryz.ntmps37 (by simp) ?_
  simp only [ic37,go_sem]
  with_reducible repeat' (first | refine br ?_ ?_ <;> intro h e <;> (try simp only [e,go_sem]) <;> clear e | rw [i64w (by omega)] | (first | refine sk ?_ | refine sd ?_) <;> try simp only [go_sem] | (first | refine cr (c90 ..) ?_ | refine cr (c91 ..) ?_) <;> try simp only [go_sem] | fail)
  all_goals simp [textPieces, *]
def ic160 : IC := sR [oP 2 (.mv (.c .nils))] (.seq (sR [mV 3 0,oP 4 (.call 102 [.t 3]),oP 5 (.un .not (.t 4))] (.cond (.t 5) (sR [oP 6 (.bsl 75 4 []),mV 2 6] .ret) .skip)) (sR [mV 7 0,oP 8 (.call 163 [.t 7]),mV 2 8] .ret))
theorem dg160 : digF Tryz.prog Tryz.f160 = some (ic160,[(.t 2)]) := by kernel_rfl
theorem en160 : entr Tryz.prog 160 = true := by kernel_rfl
theorem c160 (t : B) (hl : t.length ≤ 2000000 := by omega) : FnR Tryz.prog G 160 [.str t] (.sl 4 ((textPieces t).map Pc.row)) := by
  refine FnR.mkF Tryz.func160 en160 dg160 Tryz.ntmps160 (by simp) ?_
  simp only [ic160,go_sem]
  with_reducible repeat' (first | refine br ?_ ?_ <;> intro h e <;> (try simp only [e,go_sem]) <;> clear e | rw [i64w (by omega)] | (first | refine sk ?_ | refine sd ?_) <;> try simp only [go_sem] | (first | refine cr (c102 ..) ?_ | refine cr (c163 ..) ?_) <;> try simp only [go_sem] | fail)
  all_goals simp [textPieces, *]
theorem names_step {l : List Pc} {i : Nat} (h : i < l.length) : namesOf (l.take (i + 1)) = namesOf (l.take i) ++ (if (l.getD i default).named then [(l.getD i default).e] else []) := by
  unfold namesOf
  rw [List.take_add_one,List.getElem?_eq_getElem h]
  simp only [Option.toList_some,List.filter_append,List.map_append,List.getD,List.getElem?_eq_getElem h,Option.getD_some]
  congr 1
  cases hn : l[i].named <;> simp [hn]
theorem names_le (l : List Pc) : (namesOf l).length ≤ l.length := by
  simp only [namesOf,List.length_map]
  exact List.length_filter_le _ _
def ic15 : IC := sR [oP 2 (.mv (.c .nils))] (sR [oP 6 (.bsl 38 2 []),mV 3 6] (.seq (sR [mV 7 0,oP 8 (.call 37 [.t 7]),oP 9 (.len (.t 8)),oP 10 (.mv (.c i0))] (.block 0 (.loop (sR [bN 11 .lss 10 9] (.seq (.cond (.t 11) .skip (.exit 0)) (.seq (.block 1 (sR [oP 12 (.iad 4 (.t 8) (.t 10)),lA 13 4 12,oP 5 (.alloc 75 [i0,.bool false,i0,i0]),nP (.sto 4 (.t 5) (.t 13))] (sR [fD 14 1 5,lD 15 1 14] (.cond (.t 15) (.reg [mV 16 3,fD 17 2 5,lA 18 2 17,oP 19 (.bsl 38 2 [.t 18]),oP 20 (.app 38 2 (.t 16) (.t 19)),mV 3 20]) .skip)))) (.reg [oP 21 (.bin .add (.t 10) (.c (.int .i64 1))),mV 10 21]))))))) (sR [mV 22 3,oP 23 (.call 38 [.t 22]),mV 2 23] .ret)))
theorem dg15 : digF Tryz.prog Tryz.f15 = some (ic15,[(.t 2)]) := by kernel_rfl
theorem en15 : entr Tryz.prog 15 = true := by kernel_rfl
theorem c15 (t : B) (hl : t.length ≤ 2000000 := by omega) : FnR Tryz.prog G 15 [.str t] (.sl 2 ((textNames t).map E.row)) := by
  refine FnR.mkF Tryz.func15 en15 dg15 Tryz.ntmps15 (by simp) ?_
  simp only [ic15,go_sem]
  with_reducible repeat' (first | refine br ?_ ?_ <;> intro h e <;> (try simp only [e,go_sem]) <;> clear e | rw [i64w (by omega)] | (first | refine sk ?_ | refine sd ?_) <;> try simp only [go_sem] | (first | refine cr (c37 ..) ?_) <;> try simp only [go_sem] | fail)
  have hl2 := textPieces_len t
  unfold textNames
  generalize hp : textPieces t = l at *
  refine loopN (fun i : Nat => ⟨getL [(3,.own 1006 (namesOf (l.take i)).length),(8,.sl 4 (l.map Pc.row)),(9,.int .i64 l.length),(10,.int .i64 (i : Int))],getH [(1006,.arr 38 2 ((namesOf (l.take i)).map E.row))]⟩) (fun i => l.length - i) (fun i => i ≤ l.length) 0 (leQ []) (Nat.zero_le _) ?_
  intro i hi
  simp only [go_sem]
  by_cases h : (i : Int) < l.length
  · simp only [eq_true h,go_sem]
    refine effG (by omega) ?_
    have hst := names_step (show i < l.length by omega)
    have hle := names_le (l.take i)
    simp only [List.length_take] at hle
    generalize hq : l.getD i default = q at hst ⊢
    simp only [go_sem]
    cases hn : q.named <;> simp only [hn,go_sem,Bool.false_eq_true] at hst ⊢
    · with_reducible repeat' (first | refine br ?_ ?_ <;> intro h e <;> (try simp only [e,go_sem]) <;> clear e | rw [i64w (by omega)] | (first | refine sk ?_ | refine sd ?_) <;> try simp only [go_sem] | fail)
      refine ⟨i + 1,by omega,by omega,leN [] ?_ ?_ (by simp [getN]) (by simp only [go_sem])⟩
      · simp only [go_sem,hst]; omega
      · simp only [go_sem,hst]
    · with_reducible repeat' (first | refine br ?_ ?_ <;> intro h e <;> (try simp only [e,go_sem]) <;> clear e | rw [i64w (by omega)] | (first | refine sk ?_ | refine sd ?_) <;> try simp only [go_sem] | fail)
      refine ⟨i + 1,by omega,by omega,leN [(1006,1020)] ?_ ?_ (by simp [getN]) (by simp only [go_sem])⟩
      · simp only [go_sem,hst]; simp
      · simp only [go_sem,hst]; simp [E.row]
  · simp only [eq_false h,go_sem]
    have : i = l.length := by omega
    subst this
    refine callF (c38 ((namesOf l).map E.row)) [1006] true (by simp only [go_sem]; simp) (by simp only [List.mem_singleton]; rintro c rfl; rfl) rfl (.inl rfl) ?_
    simp only [go_sem]
def ic193 : IC := sR [oP 2 (.mv (.c .nils))] (sR [oP 6 (.bsl 38 2 []),mV 3 6] (sR [mV 7 0,oP 8 (.call 160 [.t 7]),mV 4 8] (.seq (sR [oP 5 (.mv (.c i0))] (.block 0 (.loop (.seq (sR [mV 9 5,mV 10 4,oP 11 (.len (.t 10)),bN 12 .lss 9 11] (.cond (.t 12) .skip (.exit 0))) (.seq (.block 1 (sR [mV 15 4,mV 16 5,oP 17 (.iad 4 (.t 15) (.t 16)),fD 18 1 17,lD 19 1 18] (.cond (.t 19) (.reg [mV 20 3,mV 21 4,mV 22 5,oP 23 (.iad 4 (.t 21) (.t 22)),fD 24 2 23,lA 25 2 24,oP 26 (.bsl 38 2 [.t 25]),oP 27 (.app 38 2 (.t 20) (.t 26)),mV 3 27]) .skip))) (.reg [mV 13 5,oP 14 (.bin .add (.t 13) (.c (.int .i64 1))),mV 5 14])))))) (sR [mV 28 3,mV 2 28] .ret))))
theorem dg193 : digF Tryz.prog Tryz.f193 = some (ic193,[(.t 2)]) := by kernel_rfl
theorem en193 : entr Tryz.prog 193 = true := by kernel_rfl
theorem c193 (t : B) (hl : t.length ≤ 2000000 := by omega) : FnR Tryz.prog G 193 [.str t] (.sl 2 ((textNames t).map E.row)) := by
  refine FnR.mkF Tryz.func193 en193 dg193 Tryz.ntmps193 (by simp) ?_
  simp only [ic193,go_sem]
  with_reducible repeat' (first | refine br ?_ ?_ <;> intro h e <;> (try simp only [e,go_sem]) <;> clear e | rw [i64w (by omega)] | (first | refine sk ?_ | refine sd ?_) <;> try simp only [go_sem] | (first | refine cr (c160 ..) ?_) <;> try simp only [go_sem] | fail)
  have hl2 := textPieces_len t
  unfold textNames
  generalize hp : textPieces t = l at *
  refine loopN (fun i : Nat => ⟨getL [(3,.own 1006 (namesOf (l.take i)).length),(4,.sl 4 (l.map Pc.row)),(5,.int .i64 (i : Int))],getH [(1006,.arr 38 2 ((namesOf (l.take i)).map E.row))]⟩) (fun i => l.length - i) (fun i => i ≤ l.length) 0 (leQ []) (Nat.zero_le _) ?_
  intro i hi
  simp only [go_sem]
  by_cases h : (i : Int) < l.length
  · simp only [eq_true h,go_sem]
    refine effG (by omega) ?_
    have hst := names_step (show i < l.length by omega)
    have hle := names_le (l.take i)
    simp only [List.length_take] at hle
    generalize hq : l.getD i default = q at hst ⊢
    simp only [go_sem]
    cases hn : q.named <;> simp only [hn,go_sem,Bool.false_eq_true] at hst ⊢
    · with_reducible repeat' (first | refine br ?_ ?_ <;> intro h e <;> (try simp only [e,go_sem]) <;> clear e | rw [i64w (by omega)] | (first | refine sk ?_ | refine sd ?_) <;> try simp only [go_sem] | fail)
      refine ⟨i + 1,by omega,by omega,leN [] ?_ ?_ (by simp [getN]) (by simp only [go_sem])⟩
      · simp only [go_sem,hst]; omega
      · simp only [go_sem,hst]
    · with_reducible repeat' (first | refine br ?_ ?_ <;> intro h e <;> (try simp only [e,go_sem]) <;> clear e | rw [i64w (by omega)] | (first | refine sk ?_ | refine sd ?_) <;> try simp only [go_sem] | fail)
      simp only [hq,go_sem]
      with_reducible repeat' (first | refine br ?_ ?_ <;> intro h e <;> (try simp only [e,go_sem]) <;> clear e | rw [i64w (by omega)] | (first | refine sk ?_ | refine sd ?_) <;> try simp only [go_sem] | fail)
      refine ⟨i + 1,by omega,by omega,leN [(1006,1027)] ?_ ?_ (by simp [getN]) (by simp only [go_sem])⟩
      · simp only [go_sem,hst]; simp
      · simp only [go_sem,hst]; simp [E.row]
  · simp only [eq_false h,go_sem]
    have : i = l.length := by omega
    subst this
    simp only [List.take_length]
    exact ⟨trivial,trivial⟩
def ic53 : IC := sR [oP 3 (.box 38 (.t 1)),oP 4 (.mv (.c i0))] (.seq (sR [mV 7 0,oP 8 (.len (.t 7)),oP 9 (.mv (.c i0))] (.block 0 (.loop (sR [bN 10 .lss 9 8] (.seq (.cond (.t 10) .skip (.exit 0)) (.seq (.block 1 (sR [oP 11 (.iad 3 (.t 7) (.t 9)),lA 12 3 11,oP 6 (.alloc 98 [i0,i0,i0]),nP (.sto 3 (.t 6) (.t 12))] (sR [fD 13 1 6,lA 14 2 13,lA 15 2 3,oP 16 (.eqs false [.i,.i] (.t 14) (.t 15))] (.cond (.t 16) (sR [fD 17 0 6,lD 18 1 17,mV 4 18] .ret) .skip)))) (.reg [oP 19 (.bin .add (.t 9) (.c (.int .i64 1))),mV 9 19]))))))) (sR [oP 4 (.mv (.c i0))] .ret))
theorem dg53 : digF Tryz.prog Tryz.f53 = some (ic53,[(.t 4)]) := by kernel_rfl
theorem en53 : entr Tryz.prog 53 = true := by kernel_rfl
theorem c53 (m : List Pair) (a p : Int) (hl : m.length ≤ 2000000 := by omega) : FnR Tryz.prog G 53 [.sl 3 (m.map Pair.row),.agg [.int .i64 a,.int .i64 p]] (.int .i64 (portOf m ⟨a,p⟩)) := by
  refine FnR.mkF Tryz.func53 en53 dg53 Tryz.ntmps53 (by simp) ?_
  simp only [ic53,go_sem]
  refine loopN (fun i : Nat => ⟨getL [(3,.pv 1003 0),(7,.sl 3 (m.map Pair.row)),(8,.int .i64 m.length),(9,.int .i64 (i : Int))],getH [(1003,.var 38 [.int .i64 a,.int .i64 p])]⟩) (fun i => m.length - i) (fun i => i ≤ m.length ∧ portOf m ⟨a,p⟩ = portOf (m.drop i) ⟨a,p⟩) 0 (leQ []) ⟨Nat.zero_le _,by simp⟩ ?_
  intro i ⟨hi,ha⟩
  simp only [go_sem]
  by_cases h : (i : Int) < m.length
  · simp only [eq_true h,go_sem]
    refine effG (by omega) ?_
    have hil : i < m.length := by omega
    rw [List.drop_eq_getElem_cons hil,portOf_cons] at ha
    have hg : m.getD i default = m[i] := by simp [List.getD,hil]
    simp only [hg,go_sem,E.ext_iff']
    with_reducible repeat' (first | refine br ?_ ?_ <;> intro h e <;> (try simp only [e,go_sem]) <;> clear e | rw [i64w (by omega)] | (first | refine sk ?_ | refine sd ?_) <;> try simp only [go_sem] | fail)
    · rw [ha,if_pos h]
    · refine ⟨i + 1,by omega,⟨by omega,by rw [ha,if_neg h]⟩,(leQ [])⟩
  · simp only [eq_false h,go_sem]
    have : i = m.length := by omega
    subst this
    rw [ha,List.drop_length,portOf_nil]
def ic223 : IC := sR [oP 4 (.alloc 38 [i0,i0]),oP 5 (.mv (.c (.bool false)))] (.seq (sR [mV 8 0,oP 9 (.len (.t 8)),oP 10 (.mv (.c i0))] (.block 0 (.loop (sR [bN 11 .lss 10 9] (.seq (.cond (.t 11) .skip (.exit 0)) (.seq (.block 1 (sR [oP 12 (.iad 3 (.t 8) (.t 10)),lA 13 3 12,oP 7 (.alloc 98 [i0,i0,i0]),nP (.sto 3 (.t 7) (.t 13))] (sR [fD 14 0 7,lD 15 1 14,mV 16 1,bN 17 .eql 15 16] (.cond (.t 17) (sR [fD 18 1 7,lA 19 2 18,nP (.sto 2 (.t 4) (.t 19)),oP 5 (.mv (.c (.bool true)))] .ret) .skip)))) (.reg [oP 20 (.bin .add (.t 10) (.c (.int .i64 1))),mV 10 20]))))))) (sR [oP 21 (.build [i0,i0] []),nP (.sto 2 (.t 4) (.t 21)),oP 5 (.mv (.c (.bool false)))] .ret))
theorem dg223 : digF Tryz.prog Tryz.f223 = some (ic223,[(.cell 4 2 true),(.t 5)]) := by kernel_rfl
theorem en223 : entr Tryz.prog 223 = true := by kernel_rfl
theorem c223 (m : List Pair) (n : Int) (hl : m.length ≤ 2000000 := by omega) : FnR Tryz.prog G 223 [.sl 3 (m.map Pair.row),.int .i64 n] (rdV (insideOf m n)) := by
  refine FnR.mkF Tryz.func223 en223 dg223 Tryz.ntmps223 (by simp) ?_
  simp only [ic223,go_sem]
  refine loopN (fun i : Nat => ⟨getL [(1,.int .i64 n),(4,.pv 1004 0),(8,.sl 3 (m.map Pair.row)),(9,.int .i64 m.length),(10,.int .i64 (i : Int))],getH [(1004,.var 38 [.int .i64 0,.int .i64 0])]⟩) (fun i => m.length - i) (fun i => i ≤ m.length ∧ insideOf m n = insideOf (m.drop i) n) 0 (leQ []) ⟨Nat.zero_le _,by simp⟩ ?_
  intro i ⟨hi,ha⟩
  simp only [go_sem]
  by_cases h : (i : Int) < m.length
  · simp only [eq_true h,go_sem]
    refine effG (by omega) ?_
    have hil : i < m.length := by omega
    rw [List.drop_eq_getElem_cons hil,insideOf_cons] at ha
    have hg : m.getD i default = m[i] := by simp [List.getD,hil]
    simp only [hg,go_sem]
    with_reducible repeat' (first | refine br ?_ ?_ <;> intro h e <;> (try simp only [e,go_sem]) <;> clear e | rw [i64w (by omega)] | (first | refine sk ?_ | refine sd ?_) <;> try simp only [go_sem] | fail)
    · rw [ha,if_pos h]; exact ⟨⟨rfl,rfl⟩,rfl⟩
    · refine ⟨i + 1,by omega,⟨by omega,by rw [ha,if_neg h]⟩,(leQ [])⟩
  · simp only [eq_false h,go_sem]
    have : i = m.length := by omega
    subst this
    rw [ha,List.drop_length]
    exact ⟨⟨rfl,rfl⟩,rfl⟩
theorem okPair_i {m : List Pair} {i : Nat} (h : i < m.length) : okPair m i = (decide (m[i].port = 10 + (i : Int)) && m[i].ins.inside && !(m.take i).any fun q => decide (q.ins = m[i].ins)) := by
  simp [okPair,h]
theorem mapOk_bad {m : List Pair} {i : Nat} (h : i < m.length) (hb : okPair m i = false) : mapOk m = false := by
  have : (List.range m.length).all (okPair m) = false := by
    rw [List.all_eq_false]
    exact ⟨i,List.mem_range.2 h,by simp [hb]⟩
  simp [mapOk,this]
def ic24 : IC := sR [oP 2 (.mv (.c (.bool false)))] (.seq (sR [mV 5 0,oP 6 (.len (.t 5)),oP 7 (.mv (.c i0))] (.block 0 (.loop (sR [bN 8 .lss 7 6] (.seq (.cond (.t 8) .skip (.exit 0)) (.seq (.block 1 (sR [mV 9 7,oP 10 (.iad 3 (.t 5) (.t 7)),lA 11 3 10,oP 4 (.alloc 98 [i0,i0,i0]),mV 3 9,nP (.sto 3 (.t 4) (.t 11))] (.seq (.drw [0,1,0,4,15,31,63,127,255,511,1023,2047,4095,4095,16383,4095,36863,131071,262143,524287] [(0,fD 12 0 4),(1,lD 13 1 12),(2,mV 14 3),(3,oP 15 (.bin .add (.c (.int .i64 10)) (.t 14))),(4,bN 16 .neq 13 15),(5,mV 17 16),(6,⟨some 18,some (17,false),.fad 1 (.t 4)⟩),(7,⟨some 19,some (17,false),.ld 2 true (.t 18)⟩),(8,⟨some 20,some (17,false),.call 16 [.t 19]⟩),(9,⟨some 21,some (17,false),.un .not (.t 20)⟩),(10,oP 22 (.pick (.t 17) (.c (.bool true)) (.t 21))),(11,mV 23 22),(12,⟨some 24,some (23,false),.mv (.t 0)⟩),(13,⟨some 25,some (23,false),.mv (.t 3)⟩),(14,⟨some 26,some (23,false),.slv 3 (.t 24) none (some (.t 25))⟩),(15,⟨some 27,some (23,false),.fad 1 (.t 4)⟩),(16,⟨some 28,some (23,false),.ld 2 true (.t 27)⟩),(17,⟨some 29,some (23,false),.call 53 [.t 26,.t 28]⟩),(18,⟨some 30,some (23,false),.bin .neq (.t 29) (.c i0)⟩),(19,oP 31 (.pick (.t 23) (.c (.bool true)) (.t 30)))]) (.cond (.t 31) (sR [oP 2 (.mv (.c (.bool false)))] .ret) .skip)))) (.reg [oP 32 (.bin .add (.t 7) (.c (.int .i64 1))),mV 7 32]))))))) (sR [mV 33 0,oP 34 (.len (.t 33)),oP 35 (.bin .leq (.t 34) (.c (.int .i64 8))),mV 2 35] .ret))
theorem dg24 : digF Tryz.prog Tryz.f24 = some (ic24,[(.t 2)]) := by kernel_rfl
theorem en24 : entr Tryz.prog 24 = true := by kernel_rfl
theorem c24 (m : List Pair) (hl : m.length ≤ 2000000 := by omega) : FnR Tryz.prog G 24 [.sl 3 (m.map Pair.row)] (.bool (mapOk m)) := by
  refine FnR.mkF Tryz.func24 en24 dg24 Tryz.ntmps24 (by simp) ?_
  simp only [ic24,go_sem]
  refine loopN (fun i : Nat => ⟨getL [(0,.sl 3 (m.map Pair.row)),(5,.sl 3 (m.map Pair.row)),(6,.int .i64 m.length),(7,.int .i64 (i : Int))],getH []⟩) (fun i => m.length - i) (fun i => i ≤ m.length ∧ ∀ j,j < i → okPair m j = true) 0 (leQ []) ⟨Nat.zero_le _,by omega⟩ ?_
  intro i ⟨hi,ha⟩
  simp only [go_sem]
  by_cases h : (i : Int) < m.length
  · simp only [eq_true h,go_sem]
    refine effG (by omega) ?_
    have hil : i < m.length := by omega
    have hg : m.getD i default = m[i] := by simp [List.getD,hil]
    have hp : ∀ p ∈ m.take i,p.port ≠ 0 := fun p hp => by
      obtain ⟨j,hj⟩ := List.getElem?_of_mem hp
      rw [List.getElem?_take] at hj
      split at hj
      · rename_i hji
        have := (okPair_port (ha j hji) hj).1
        omega
      · cases hj
    have hok := okPair_i hil
    have hne := portOf_ne (e := m[i].ins) hp
    have hlt : (m.take i).length ≤ 2000000 := by simp; omega
    simp only [hg,go_sem]
    with_reducible repeat' (first | refine br ?_ ?_ <;> intro h e <;> (try simp only [e,go_sem]) <;> clear e | rw [i64w (by omega)] | (first | refine sk ?_ | refine sd ?_) <;> try simp only [go_sem] | (first | refine cr (c16 ..) ?_ | refine cr (c53 ..) ?_) <;> try simp only [go_sem] | fail)
    all_goals (have hw : IntKind.i64.wrap (10 + (i : Int)) = 10 + i := i64w (by omega))
    all_goals (try simp only [hw] at h)
    · exact mapOk_bad hil (by rw [hok]; simp at h; simp [h])
    · exact mapOk_bad hil (by rw [hok]; have h' : m[i].ins.inside = false := by simpa using h
                              simp [h'])
    · rename_i h1 h2
      try simp only [hw] at h1
      refine ⟨i + 1,by omega,⟨by omega,fun j hj => ?_⟩,(leQ [])⟩
      rcases Nat.lt_or_ge j i with hji | hji
      · exact ha j hji
      · obtain rfl : j = i := by omega
        rw [hok]
        have h3 : ((m.take j).any fun q => decide (q.ins = m[j].ins)) = false := by
          cases hb : (m.take j).any fun q => decide (q.ins = m[j].ins) with
          | false => rfl
          | true => exact absurd h (hne.2 hb)
        have h2' : m[j].ins.inside = true := by simpa using h2
        have h1' : m[j].port = 10 + (j : Int) := by simpa using h1
        rw [h3,h2']; simp [h1']
    · exact mapOk_bad hil (by rw [hok,hne.1 h]; simp)
  · simp only [eq_false h,go_sem]
    have : i = m.length := by omega
    subst this
    have : (List.range m.length).all (okPair m) = true := by
      rw [List.all_eq_true]; intro j hj; exact ha j (List.mem_range.1 hj)
    simp only [mapOk,this,Bool.true_and]
    apply decide_eq_decide.2; omega
def ic113 : IC := sR [oP 2 (.mv (.c .nils))] (sR [mV 3 0,oP 4 (.call 168 [.t 3]),oP 5 (.call 167 [.t 4]),mV 2 5] .ret)
theorem dg113 : digF Tryz.prog Tryz.f113 = some (ic113,[(.t 2)]) := by kernel_rfl
theorem en113 : entr Tryz.prog 113 = true := by kernel_rfl
theorem c113 (rows : List (List V)) (hr : rows.length ≤ 2000000 := by omega) : FnP Tryz.prog G 113 0 [] [.sl 3 rows] (fun r o => r = .own 0 rows.length ∧ o = [.arr 98 3 rows]) := by
  refine FnP.mk' Tryz.func113 en113 dg113 Tryz.ntmps113 (by simp) ⟨_,_,rfl,rfl⟩ ?_
  simp only [ic113,go_sem]
  refine callO (c168 rows hr) [] 4 1 (by simp only [go_sem]; first | done | simp) (by simp) (by rintro _ _ ⟨rfl,rfl⟩; simp) (by intro i hi; obtain rfl : i = 0 := (by omega); simp only [go_sem]) ?_
  rintro _ _ ⟨rfl,rfl⟩
  simp only [go_sem]
  refine callU (o167 rows rows.length rfl) [100400] [] 5 1 (by simp only [go_sem]; first | done | simp) (by simp only [go_sem]; first | done | simp) (by simp) (by simp) (by rintro _ _ ⟨rfl,rfl⟩; simp) (by intro i hi; obtain rfl : i = 0 := (by omega); simp only [go_sem]) ?_
  rintro _ _ ⟨rfl,rfl⟩
  simp only [go_sem]
  exact retN (.own 0 rows.length) [.arr 98 3 rows] [(0,100500)] (by simp only [go_sem]; first | done | simp) ⟨rfl,rfl⟩ (by simp only [go_sem]) (by simp [argH]) (by simp only [go_sem])
def ic115 : IC := sR [oP 3 (.box 38 (.t 1)),oP 4 (.mv (.c .nils)),oP 5 (.mv (.c i0)),oP 6 (.mv (.c (.bool false)))] (sR [mV 10 0,oP 11 (.call 113 [.t 10]),mV 7 11] (.seq (sR [mV 12 0,lA 13 2 3,oP 14 (.call 53 [.t 12,.t 13]),mV 8 14] (sR [mV 15 8,oP 16 (.bin .neq (.t 15) (.c i0))] (.cond (.t 16) (sR [mV 17 7,mV 18 8,mV 4 17,mV 5 18,oP 6 (.mv (.c (.bool true)))] .ret) .skip))) (sR [mV 19 0,oP 20 (.len (.t 19)),oP 21 (.bin .add (.c (.int .i64 10)) (.t 20)),mV 9 21] (.seq (sR [mV 22 9,oP 23 (.bin .gtr (.t 22) (.c (.int .i64 17)))] (.cond (.t 23) (sR [mV 24 7,mV 4 24,oP 5 (.mv (.c i0)),oP 6 (.mv (.c (.bool false)))] .ret) .skip)) (sR [mV 25 7,mV 26 9,lA 27 2 3,oP 28 (.build [i0,i0,i0] [(0,(1,.t 26)),(1,(2,.t 27))]),oP 29 (.bsl 98 3 [.t 28]),oP 30 (.app 98 3 (.t 25) (.t 29)),oP 31 (.call 167 [.t 30]),mV 32 9,mV 4 31,mV 5 32,oP 6 (.mv (.c (.bool true)))] .ret)))))
theorem dg115 : digF Tryz.prog Tryz.f115 = some (ic115,[(.t 4),(.t 5),(.t 6)]) := by kernel_rfl
theorem en115 : entr Tryz.prog 115 = true := by kernel_rfl
theorem c115 (m : List Pair) (a p : Int) (hp : PortsOk m) (hl : m.length ≤ 1000000) : FnR Tryz.prog G 115 [.sl 3 (m.map Pair.row),.agg [.int .i64 a,.int .i64 p]]
    (.tup [.sl 3 ((mOut m ⟨a,p⟩).1.map Pair.row),.int .i64 (mOut m ⟨a,p⟩).2.1,.bool (mOut m ⟨a,p⟩).2.2]) := by
  refine FnR.mkF Tryz.func115 en115 dg115 Tryz.ntmps115 (by simp) ?_
  have hp0 : ∀ p ∈ m,p.port ≠ 0 := fun p h => (hp p h).1
  have e1 := mOut_found (e := ⟨a,p⟩) hp0
  have e2 := mOut_none (e := ⟨a,p⟩) hp0
  simp only [ic115,go_sem]
  refine callO (c113 (m.map Pair.row) (by simp; omega)) [] 11 1 (by simp only [go_sem]; first | done | simp) (by simp) (by rintro _ _ ⟨rfl,rfl⟩; simp) (by intro i hi; obtain rfl : i = 0 := (by omega); simp only [go_sem]) ?_
  rintro _ _ ⟨rfl,rfl⟩
  simp only [go_sem]
  with_reducible repeat' (first | refine br ?_ ?_ <;> intro h e <;> (try simp only [e,go_sem]) <;> clear e | rw [i64w (by omega)] | (first | refine sk ?_ | refine sd ?_) <;> try simp only [go_sem] | (first | refine cr (c53 ..) ?_) <;> try simp only [go_sem] | fail)
  all_goals (have hw : IntKind.i64.wrap (10 + (m.length : Int)) = 10 + m.length := i64w (by omega))
  all_goals (try simp only [hw] at h)
  · rename_i h0
    rw [e2 h0,if_pos (by omega)]; exact ⟨⟨rfl,rfl⟩,rfl,rfl⟩
  · rename_i h0
    rw [e2 h0,if_neg (by omega)]
    refine callF (c167 ((m ++ ([⟨10 + (m.length : Int),⟨a,p⟩⟩] : List Pair)).map Pair.row)) [1030] true (by simp only [go_sem]; first | done | simp [E.row,Pc.row,Pair.row,Part.row,Flw.row,Pk.row,Conv.row]) (by simp only [List.mem_singleton]; rintro c rfl; rfl) rfl (.inl rfl) ?_
    simp only [go_sem]
  · rw [e1 h]; exact ⟨⟨rfl,rfl⟩,rfl,rfl⟩
def ic227 : IC := sR [oP 5 (.box 75 (.t 1)),oP 8 (.mv (.c .nils)),oP 9 (.mv (.c s0))] (.seq (.block 0 (sR [fD 16 1 5,lD 17 1 16,mV 18 17,⟨some 19,some (18,true),.mv (.t 3)⟩,oP 20 (.pick (.t 18) (.t 19) (.c (.bool false))),mV 21 20,⟨some 22,some (21,true),.fad 2 (.t 5)⟩,⟨some 23,some (21,true),.ld 2 true (.t 22)⟩,⟨some 24,some (21,true),.call 16 [.t 23]⟩,oP 25 (.pick (.t 21) (.t 24) (.c (.bool false))),mV 15 25] (.cond (.t 15) (sR [mV 27 0,fD 28 2 5,lA 29 2 28,oP 30 (.call 115 [.t 27,.t 29]),mV 26 30,eX 31 26 0,eX 32 26 1,eX 33 26 2,mV 10 31,mV 11 32,mV 12 33] (sR [mV 34 12] (.cond (.t 34) (sR [mV 35 10,mV 36 11,oP 37 (.build [i0,i0] [(0,(1,.c (.int .i64 9))),(1,(1,.t 36))]),oP 38 (.call 199 [.t 37]),mV 8 35,mV 9 38] .ret) .skip))) (sR [fD 40 1 5,lD 41 1 40,mV 42 41,⟨some 43,some (42,true),.mv (.t 3)⟩,⟨some 44,some (42,true),.un .not (.t 43)⟩,oP 45 (.pick (.t 42) (.t 44) (.c (.bool false))),mV 46 45,⟨some 47,some (46,true),.fad 2 (.t 5)⟩,⟨some 48,some (46,true),.ld 2 true (.t 47)⟩,⟨some 49,some (46,true),.call 13 [.t 48]⟩,oP 50 (.pick (.t 46) (.t 49) (.c (.bool false))),mV 39 50] (.cond (.t 39) (sR [mV 52 0,fD 53 2 5,fD 54 1 53,lD 55 1 54,oP 56 (.call 223 [.t 52,.t 55]),mV 51 56,eX 57 51 0,eX 58 51 1,oP 13 (.alloc 38 [i0,i0]),nP (.sto 2 (.t 13) (.t 57)),mV 14 58] (sR [mV 59 14] (.cond (.t 59) (sR [mV 60 0,lA 61 2 13,oP 62 (.call 199 [.t 61]),mV 8 60,mV 9 62] .ret) .skip))) .skip))))) (sR [mV 63 0,mV 64 2,mV 8 63,mV 9 64] .ret))
theorem dg227 : digF Tryz.prog Tryz.f227 = some (ic227,[(.t 8),(.t 9)]) := by kernel_rfl
theorem en227 : entr Tryz.prog 227 = true := by kernel_rfl
theorem c227 (m : List Pair) (n : Nat) (b : Bool) (a p : Int) (s : B) (out : Bool) (hp : PortsOk m) (hl : m.length ≤ 1000000) : FnR Tryz.prog G 227 [.sl 3 (m.map Pair.row),.agg [.int .i64 n,.bool b,.int .i64 a,.int .i64 p],.str s,.bool out]
    (.tup [.sl 3 ((turn m ⟨n,b,⟨a,p⟩⟩ s out).1.map Pair.row),.str (turn m ⟨n,b,⟨a,p⟩⟩ s out).2]) := by
  refine FnR.mkF Tryz.func227 en227 dg227 Tryz.ntmps227 (by simp) ?_
  simp only [ic227,go_sem]
  cases b <;> cases out <;> simp only [go_sem]
  all_goals
    repeat' (first
      | (refine callR (c16 ..) rfl rfl ?_; simp only [go_sem])
      | (refine callR (c13 ..) rfl rfl ?_; simp only [go_sem])
      | (with_reducible refine cB (fun h => ?_) (fun h => ?_) <;> simp only [h,go_sem])
      | (refine callR (c115 m a p hp hl) rfl rfl ?_; simp only [go_sem])
      | (refine callR (c223 m p) rfl rfl ?_; simp only [go_sem])
      | (refine callR (c199 ..) rfl rfl ?_; simp only [go_sem]))
  · simp [turn,pieceIn]
  · simp [turn,pieceOut]
  · rename_i h0
    obtain ⟨e,he⟩ := Option.isSome_iff_exists.1 h
    simp [turn,pieceIn,h0,he]
  · rename_i h0
    have : insideOf m p = none := by simpa using h
    simp [turn,pieceIn,h0,this]
  · simp [turn,pieceIn,h]
  · rename_i h0
    rcases hmo : mOut m ⟨a,p⟩ with ⟨x,port,ok⟩
    rw [hmo] at h
    simp only at h
    subst h
    simp [turn,pieceOut,h0,hmo]
  · rename_i h0
    rcases hmo : mOut m ⟨a,p⟩ with ⟨x,port,ok⟩
    rw [hmo] at h
    simp only at h
    subst h
    simp [turn,pieceOut,h0,hmo]
  · simp [turn,pieceOut,h]
def ic110 : IC := sR [oP 2 (.mv (.c .nils))] (sR [oP 3 (.bsl 98 3 []),mV 4 0,oP 5 (.app 98 3 (.t 3) (.t 4)),mV 2 5] .ret)
theorem dg110 : digF Tryz.prog Tryz.f110 = some (ic110,[(.t 2)]) := by kernel_rfl
theorem en110 : entr Tryz.prog 110 = true := by kernel_rfl
theorem c110 (rows : List (List V)) (hr : rows.length ≤ 2000000) : FnP Tryz.prog G 110 0 [] [.sl 3 rows] (fun r o => r = .own 0 rows.length ∧ o = [.arr 98 3 rows]) := by
  refine FnP.mk' Tryz.func110 en110 dg110 Tryz.ntmps110 (by simp) ⟨_,_,rfl,rfl⟩ ?_
  simp only [ic110,go_sem]
  with_reducible repeat' (first | refine br ?_ ?_ <;> intro h e <;> (try simp only [e,go_sem]) <;> clear e | rw [i64w (by omega)] | (first | refine sk ?_ | refine sd ?_) <;> try simp only [go_sem] | fail)
  exact retN (.own 0 rows.length) [.arr 98 3 rows] [(0,1005)] (by simp only [go_sem]; first | done | simp) ⟨rfl,rfl⟩ (by simp only [go_sem]) (by simp [argH]) (by simp only [go_sem])
def ic201 : IC := sR [oP 4 (.alloc 38 [i0,i0]),oP 5 (.mv (.c (.bool false)))] (sR [mV 7 1,oP 8 (.bin .sub (.t 7) (.c (.int .i64 10))),mV 6 8] (.seq (sR [mV 9 6,mV 10 0,oP 11 (.len (.t 10)),oP 12 (.bin .sub (.t 11) (.c (.int .i64 1))),oP 13 (.call 101 [.t 9,.c i0,.t 12]),oP 14 (.un .not (.t 13))] (.cond (.t 14) (sR [oP 15 (.build [i0,i0] []),nP (.sto 2 (.t 4) (.t 15)),oP 5 (.mv (.c (.bool false)))] .ret) .skip)) (sR [mV 16 0,mV 17 6,oP 18 (.iad 3 (.t 16) (.t 17)),fD 19 1 18,lA 20 2 19,nP (.sto 2 (.t 4) (.t 20)),oP 5 (.mv (.c (.bool true)))] .ret)))
theorem dg201 : digF Tryz.prog Tryz.f201 = some (ic201,[(.cell 4 2 true),(.t 5)]) := by kernel_rfl
theorem en201 : entr Tryz.prog 201 = true := by kernel_rfl
theorem c201 (m : List Pair) (n : Int) (hm : mapOk m = true) (hn : -1000000 ≤ n ∧ n ≤ 1000000) : FnR Tryz.prog G 201 [.sl 3 (m.map Pair.row),.int .i64 n] (rdV (insideOf m n)) := by
  refine FnR.mkF Tryz.func201 en201 dg201 Tryz.ntmps201 (by simp) ?_
  obtain ⟨hp,hl⟩ := mapOk_ports hm
  simp only [ic201,go_sem]
  have hat := insideOf_at hm n
  with_reducible repeat' (first | refine br ?_ ?_ <;> intro h e <;> (try simp only [e,go_sem]) <;> clear e | rw [i64w (by omega)] | (first | refine sk ?_ | refine sd ?_) <;> try simp only [go_sem] | (first | refine cr (c101 ..) ?_) <;> try simp only [go_sem] | fail)
  · rw [M.within_iff] at h
    rw [dif_pos (by omega)] at hat
    with_reducible repeat' (first | refine br ?_ ?_ <;> intro h e <;> (try simp only [e,go_sem]) <;> clear e | rw [i64w (by omega)] | (first | refine sk ?_ | refine sd ?_) <;> try simp only [go_sem] | fail)
    have hg : m.getD (n - 10).toNat default = m[(n - 10).toNat]'(by omega) := by simp [List.getD,show (n - 10).toNat < m.length by omega]
    simp only [hg,hat,go_sem]
    exact ⟨⟨rfl,rfl⟩,rfl⟩
  · have : ¬ (0 ≤ n - 10 ∧ n - 10 < m.length) := fun hc => by
      have : within (n - 10) 0 (m.length - 1) = true := by rw [M.within_iff]; omega
      rw [h] at this; cases this
    rw [dif_neg this] at hat
    rw [hat]
    exact ⟨⟨rfl,rfl⟩,rfl⟩
def ic165 : IC := sR [oP 4 (.box 75 (.t 1)),oP 6 (.mv (.c s0))] (.seq (sR [fD 9 1 4,lD 10 1 9,oP 11 (.un .not (.t 10)),mV 12 11,⟨some 13,some (12,false),.fad 2 (.t 4)⟩,⟨some 14,some (12,false),.ld 2 true (.t 13)⟩,⟨some 15,some (12,false),.call 154 [.t 14]⟩,⟨some 16,some (12,false),.un .not (.t 15)⟩,oP 17 (.pick (.t 12) (.c (.bool true)) (.t 16))] (.cond (.t 17) (sR [mV 18 2,mV 6 18] .ret) .skip)) (sR [mV 20 0,fD 21 2 4,fD 22 1 21,lD 23 1 22,oP 24 (.call 201 [.t 20,.t 23]),mV 19 24,eX 25 19 0,eX 26 19 1,oP 7 (.alloc 38 [i0,i0]),nP (.sto 2 (.t 7) (.t 25)),mV 8 26] (.seq (sR [mV 27 8,oP 28 (.un .not (.t 27))] (.cond (.t 28) (sR [mV 29 2,mV 6 29] .ret) .skip)) (sR [lA 30 2 7,oP 31 (.call 125 [.t 30]),oP 32 (.bin .add (.c (.str [64])) (.t 31)),oP 33 (.bin .add (.t 32) (.c (.str [59]))),mV 6 33] .ret))))
theorem dg165 : digF Tryz.prog Tryz.f165 = some (ic165,[(.t 6)]) := by kernel_rfl
theorem en165 : entr Tryz.prog 165 = true := by kernel_rfl
theorem c165 (m : List Pair) (n : Nat) (b : Bool) (a p : Int) (s : B) (hm : mapOk m = true) : FnR Tryz.prog G 165 [.sl 3 (m.map Pair.row),.agg [.int .i64 n,.bool b,.int .i64 a,.int .i64 p],.str s] (.str (pieceIn m ⟨n,b,⟨a,p⟩⟩ s)) := by
  refine FnR.mkF Tryz.func165 en165 dg165 Tryz.ntmps165 (by simp) ?_
  simp only [ic165,go_sem]
  cases b <;> simp only [go_sem]
  · simp [pieceIn]
  refine callR (c154 ..) rfl rfl ?_
  simp only [go_sem]
  cases hd : E.door ⟨a,p⟩ <;> simp only [go_sem]
  · simp [pieceIn,hd]
  have hd' := hd
  rw [E.door_iff] at hd
  simp only at hd
  refine callR (c201 m p hm (by omega)) rfl rfl ?_
  simp only [go_sem]
  cases hi : insideOf m p with
  | none => simp only [go_sem,Option.isSome_none]; simp [pieceIn,hd',hi]
  | some e =>
    have := text_le (e := e)
    simp only [go_sem,Option.isSome_some,Option.getD_some]
    refine callR (c125 e.a e.p) rfl rfl ?_
    simp only [go_sem]
    repeat' (with_reducible refine pureG (by simp; omega) ?_; try simp only [go_sem])
    simp [pieceIn,hd',hi,name]
def outP (m : List Pair) (e : E) (r : V) (o : List Hs) : Prop :=
  ((mOut m e).1 = m ∧ r = .tup [.own 0 m.length,.int .i64 (mOut m e).2.1,.bool (mOut m e).2.2] ∧ o = [.arr 98 3 (m.map Pair.row)]) ∨
  (r = .tup [.own 1 (mOut m e).1.length,.int .i64 (mOut m e).2.1,.bool (mOut m e).2.2] ∧ o = [.dead,.arr 98 3 ((mOut m e).1.map Pair.row)] ∧ (mOut m e).2.2 = true ∧ (mOut m e).1 ≠ m)
def ic105 : IC := sR [oP 3 (.box 38 (.t 1)),oP 4 (.mv (.c .nils)),oP 5 (.mv (.c i0)),oP 6 (.mv (.c (.bool false)))] (.seq (sR [oP 7 (.mv (.c i0))] (.block 0 (.loop (.seq (sR [mV 9 7,mV 10 0,oP 11 (.len (.t 10)),bN 12 .lss 9 11] (.cond (.t 12) .skip (.exit 0))) (.seq (.block 1 (.seq (.drw [0,0,3,7,15,0,63] [(0,mV 15 0),(1,mV 16 7),(2,oP 17 (.iad 3 (.t 15) (.t 16))),(3,fD 18 1 17),(4,lA 19 2 18),(5,lA 20 2 3),(6,oP 21 (.eqs false [.i,.i] (.t 19) (.t 20)))]) (.cond (.t 21) (.seq (.drw [0,0,0,6,14,30,1,127,255] [(0,mV 22 0),(1,mV 23 0),(2,mV 24 7),(3,oP 25 (.iad 3 (.t 23) (.t 24))),(4,fD 26 0 25),(5,lD 27 1 26),(6,mV 4 22),(7,mV 5 27),(8,oP 6 (.mv (.c (.bool true))))]) .ret) .skip))) (.reg [mV 13 7,oP 14 (.bin .add (.t 13) (.c (.int .i64 1))),mV 7 14])))))) (.seq (sR [mV 28 0,oP 29 (.len (.t 28)),oP 30 (.bin .gtr (.t 29) (.c (.int .i64 7)))] (.cond (.t 30) (sR [mV 31 0,mV 4 31,oP 5 (.mv (.c i0)),oP 6 (.mv (.c (.bool false)))] .ret) .skip)) (sR [mV 32 0,oP 33 (.len (.t 32)),oP 34 (.bin .add (.c (.int .i64 10)) (.t 33)),mV 8 34] (sR [mV 35 0,mV 36 8,lA 37 2 3,oP 38 (.build [i0,i0,i0] [(0,(1,.t 36)),(1,(2,.t 37))]),oP 39 (.bsl 98 3 [.t 38]),oP 40 (.app 98 3 (.t 35) (.t 39)),mV 41 8,mV 4 40,mV 5 41,oP 6 (.mv (.c (.bool true)))] .ret))))
theorem dg105 : digF Tryz.prog Tryz.f105 = some (ic105,[(.t 4),(.t 5),(.t 6)]) := by kernel_rfl
theorem en105 : entr Tryz.prog 105 = true := by kernel_rfl
theorem c105 (m : List Pair) (a p : Int) (hp : PortsOk m) (hl : m.length ≤ 1000000) : FnP Tryz.prog G 105 1 [.arr 98 3 (m.map Pair.row)] [.own 0 m.length,.agg [.int .i64 a,.int .i64 p]] (outP m ⟨a,p⟩) := by
  refine FnP.mk' Tryz.func105 en105 dg105 Tryz.ntmps105 (by simp) ?_ ?_
  · by_cases h : (mOut m ⟨a,p⟩).1 = m
    · exact ⟨_,_,.inl ⟨h,rfl,rfl⟩⟩
    · refine ⟨_,_,.inr ⟨rfl,rfl, ?_,h⟩⟩
      cases hb : (mOut m ⟨a,p⟩).2.2 with
      | true => rfl
      | false =>
        exfalso
        apply h
        revert hb
        unfold mOut
        split
        · simp
        · split <;> simp
  simp only [ic105,go_sem]
  refine loopN (fun i : Nat => ⟨getL [(0,.own 0 m.length),(3,.pv 1003 0),(7,.int .i64 (i : Int))],getH [(0,.arr 98 3 (m.map Pair.row)),(1003,.var 38 [.int .i64 a,.int .i64 p])]⟩) (fun i => m.length - i) (fun i => i ≤ m.length ∧ portOf m ⟨a,p⟩ = portOf (m.drop i) ⟨a,p⟩) 0 (leQ []) ⟨Nat.zero_le _,by simp⟩ ?_
  intro i ⟨hi,ha⟩
  simp only [go_sem]
  by_cases h : (i : Int) < m.length
  · have hil : i < m.length := by omega
    have hg : m.getD i default = m[i] := by simp [List.getD,hil]
    rw [List.drop_eq_getElem_cons hil,portOf_cons] at ha
    simp only [eq_true h,go_sem]
    with_reducible repeat' (first | refine br ?_ ?_ <;> intro h e <;> (try simp only [e,go_sem,getD_mp hil,hg,E.ext_iff']) <;> clear e | rw [i64w (by omega)] | (first | refine sk ?_ | refine sd ?_) <;> try simp only [go_sem,getD_mp hil,hg,E.ext_iff'] | fail)
    · rw [if_pos h] at ha
      have hne : portOf m ⟨a,p⟩ ≠ 0 := by rw [ha]; exact (hp m[i] (List.getElem_mem hil)).1
      have hf := mOut_found (fun p h => (hp p h).1) hne
      refine retN (.tup [.own 0 m.length,.int .i64 (mOut m ⟨a,p⟩).2.1,.bool (mOut m ⟨a,p⟩).2.2]) [.arr 98 3 (m.map Pair.row)] [] ?_ (.inl ⟨by rw [hf],rfl,rfl⟩) (by simp only [go_sem]) (by simp [argH]) (by simp only [go_sem]; first | done | simp)
      simp only [go_sem,hf,ha]
      try simp
    · refine ⟨i + 1,by omega,⟨by omega,by rw [ha,if_neg h]⟩,(leQ [])⟩
  · simp only [eq_false h,go_sem]
    have : i = m.length := by omega
    subst this
    rw [List.drop_length,portOf_nil] at ha
    have hf := mOut_none (fun p h => (hp p h).1) ha
    with_reducible repeat' (first | refine br ?_ ?_ <;> intro h e <;> (try simp only [e,go_sem]) <;> clear e | rw [i64w (by omega)] | (first | refine sk ?_ | refine sd ?_) <;> try simp only [go_sem] | fail)
    · rw [if_pos (by omega)] at hf
      refine retN (.tup [.own 0 m.length,.int .i64 (mOut m ⟨a,p⟩).2.1,.bool (mOut m ⟨a,p⟩).2.2]) [.arr 98 3 (m.map Pair.row)] [] ?_ (.inl ⟨by rw [hf],rfl,rfl⟩) (by simp only [go_sem]) (by simp [argH]) (by simp only [go_sem]; first | done | simp)
      simp only [go_sem,hf]
      try simp
    · rw [if_neg (by omega)] at hf
      refine retN (.tup [.own 1 (mOut m ⟨a,p⟩).1.length,.int .i64 (mOut m ⟨a,p⟩).2.1,.bool (mOut m ⟨a,p⟩).2.2]) [.dead,.arr 98 3 ((mOut m ⟨a,p⟩).1.map Pair.row)] [(1,1040)] ?_ (.inr ⟨rfl,rfl,by rw [hf],by rw [hf]; simp⟩) ?_ (by simp [argH,getN]) (by simp only [go_sem]; first | done | simp)
      · simp only [go_sem,hf]; simp
      · simp only [go_sem,hf]; simp [Pair.row]
def ic164 : IC := sR [oP 4 (.box 75 (.t 1)),oP 6 (.mv (.c .nils)),oP 7 (.mv (.c s0))] (.seq (sR [fD 11 1 4,lD 12 1 11,oP 13 (.un .not (.t 12)),mV 14 13,⟨some 15,some (14,false),.fad 2 (.t 4)⟩,⟨some 16,some (14,false),.ld 2 true (.t 15)⟩,⟨some 17,some (14,false),.call 43 [.t 16]⟩,⟨some 18,some (14,false),.un .not (.t 17)⟩,oP 19 (.pick (.t 14) (.c (.bool true)) (.t 18))] (.cond (.t 19) (sR [mV 20 0,mV 21 2,mV 6 20,mV 7 21] .ret) .skip)) (sR [mV 23 0,fD 24 2 4,lA 25 2 24,oP 26 (.call 105 [.t 23,.t 25]),mV 22 26,eX 27 22 0,eX 28 22 1,eX 29 22 2,mV 8 27,mV 9 28,mV 10 29] (.seq (sR [mV 30 10,oP 31 (.un .not (.t 30))] (.cond (.t 31) (sR [mV 32 0,mV 33 2,mV 6 32,mV 7 33] .ret) .skip)) (sR [mV 34 8,mV 35 9,oP 36 (.build [i0,i0] [(0,(1,.c (.int .i64 9))),(1,(1,.t 35))]),oP 37 (.call 125 [.t 36]),oP 38 (.bin .add (.c (.str [64])) (.t 37)),oP 39 (.bin .add (.t 38) (.c (.str [59]))),mV 6 34,mV 7 39] .ret))))
theorem dg164 : digF Tryz.prog Tryz.f164 = some (ic164,[(.t 6),(.t 7)]) := by kernel_rfl
theorem en164 : entr Tryz.prog 164 = true := by kernel_rfl
theorem c164 (m : List Pair) (n : Nat) (b : Bool) (a p : Int) (s : B) (hp : PortsOk m) (hl : m.length ≤ 1000000) : FnP Tryz.prog G 164 0 [.arr 98 3 (m.map Pair.row)] [.own 0 m.length,.agg [.int .i64 n,.bool b,.int .i64 a,.int .i64 p],.str s]
    (fun r o => r = .tup [.own 0 (pieceOut m ⟨n,b,⟨a,p⟩⟩ s).1.length,.str (pieceOut m ⟨n,b,⟨a,p⟩⟩ s).2] ∧ o = [.arr 98 3 ((pieceOut m ⟨n,b,⟨a,p⟩⟩ s).1.map Pair.row)]) := by
  refine FnP.mk' Tryz.func164 en164 dg164 Tryz.ntmps164 (by simp) ⟨_,_,rfl,rfl⟩ ?_
  simp only [ic164,go_sem]
  have keep : ∀ l mm,pieceOut m ⟨n,b,⟨a,p⟩⟩ s = (m,s) → getL l 6 = .own 0 m.length → getL l 7 = .str s → getH mm 0 = .arr 98 3 (m.map Pair.row) →
      retQ [.t 6,.t 7] 0 (fun r o => r = .tup [.own 0 (pieceOut m ⟨n,b,⟨a,p⟩⟩ s).1.length,.str (pieceOut m ⟨n,b,⟨a,p⟩⟩ s).2] ∧ o = [.arr 98 3 ((pieceOut m ⟨n,b,⟨a,p⟩⟩ s).1.map Pair.row)]) .ret ⟨getL l,getH mm⟩ := fun l mm h1 h2 h3 h4 => by
    refine retN _ _ [] ?_ ⟨rfl,rfl⟩ ?_ (by simp [argH]) (by simp only [go_sem])
    · simp only [go_sem,h1,h2,h3]; try simp
    · simp only [go_sem,h1,h4]
  cases b <;> simp only [go_sem]
  · exact keep _ _ (by simp [pieceOut]) (by simp only [go_sem]) (by simp only [go_sem]) (by simp only [go_sem])
  refine callR (c43 ..) rfl rfl ?_
  simp only [go_sem]
  cases hi : E.inside ⟨a,p⟩ <;> simp only [go_sem]
  · exact keep _ _ (by simp [pieceOut,hi]) (by simp only [go_sem]) (by simp only [go_sem]) (by simp only [go_sem])
  refine callN (c105 m a p hp hl) [0] [] true 26 2 (by simp only [go_sem]; first | done | simp) (by simp only [go_sem]; first | done | simp) (by simp) (by simp) (by simp) ?_ ?_ ?_
  · rintro res out (⟨_,rfl,rfl⟩ | ⟨rfl,rfl,_⟩)
    · exact ⟨by simp,by simp,.inl rfl,fun i hi => by obtain rfl : i = 0 := (by omega); simp [chH,stepOk]⟩
    · exact ⟨by simp,by simp,.inl rfl,fun i hi => by obtain rfl : i = 0 := (by omega); simp [chH,stepOk]⟩
  · intro i hi
    have : i = 0 ∨ i = 1 := by omega
    rcases this with rfl | rfl <;> simp only [go_sem]
  · rintro res out (⟨h1,rfl,rfl⟩ | ⟨rfl,rfl,h3,_⟩)
    · have hpo : ∀ c,(mOut m ⟨a,p⟩).2.2 = c → pieceOut m ⟨n,true,⟨a,p⟩⟩ s = bif c then ((mOut m ⟨a,p⟩).1,name ⟨9,(mOut m ⟨a,p⟩).2.1⟩) else (m,s) := fun c hc => by
        subst hc
        rcases hmo : mOut m ⟨a,p⟩ with ⟨x,port,ok⟩
        cases ok <;> simp [pieceOut,hi,hmo]
      simp only [go_sem]
      cases hok : (mOut m ⟨a,p⟩).2.2 <;> simp only [go_sem]
      · exact keep _ _ (by rw [hpo _ hok]; rfl) (by simp only [go_sem]) (by simp only [go_sem]) (by simp only [go_sem])
      · have hpo := hpo _ hok
        simp only [cond_true,h1] at hpo
        have hlt := text_le (e := ⟨9,(mOut m ⟨a,p⟩).2.1⟩)
        with_reducible repeat' (first | refine br ?_ ?_ <;> intro h e <;> (try simp only [e,go_sem]) <;> clear e | rw [i64w (by omega)] | (first | refine sk ?_ | refine sd ?_) <;> try simp only [go_sem] | (first | refine cr (c125 ..) ?_) <;> try simp only [go_sem] | fail)
        refine retN _ _ [] ?_ ⟨rfl,rfl⟩ ?_ (by simp [argH]) (by simp only [go_sem])
        · simp only [go_sem,hpo]; simp [name]
        · simp only [go_sem,hpo]
    · have hpo : pieceOut m ⟨n,true,⟨a,p⟩⟩ s = ((mOut m ⟨a,p⟩).1,name ⟨9,(mOut m ⟨a,p⟩).2.1⟩) := by
        rcases hmo : mOut m ⟨a,p⟩ with ⟨x,port,ok⟩
        rw [hmo] at h3
        simp only at h3
        subst h3
        simp [pieceOut,hi,hmo]
      simp only [go_sem,h3]
      have hlt := text_le (e := ⟨9,(mOut m ⟨a,p⟩).2.1⟩)
      with_reducible repeat' (first | refine br ?_ ?_ <;> intro h e <;> (try simp only [e,go_sem]) <;> clear e | rw [i64w (by omega)] | (first | refine sk ?_ | refine sd ?_) <;> try simp only [go_sem] | (first | refine cr (c125 ..) ?_) <;> try simp only [go_sem] | fail)
      refine retN _ _ [(0,102601)] ?_ ⟨rfl,rfl⟩ ?_ (by simp [argH]) (by simp only [go_sem])
      · simp only [go_sem,hpo]; simp [name]
      · simp only [go_sem,hpo]
end Go.Proofs.YtblndjmhjaijjaaGreatDoor.W
namespace Go.Proofs.YtblndjmhjaijjaaGreatDoor.M
def fits : List Pc → B → Prop
  | [],_ => True
  | p :: ps,s => p.size ≤ s.length ∧ fits ps (s.drop p.size)
theorem turn_len (m : List Pair) (p : Pc) (s : B) (out : Bool) : (turn m p s out).2.length ≤ s.length + 6 ∧ (turn m p s out).1.length ≤ m.length + 1 := by
  cases out
  · simp only [turn,pieceIn,cond_false]
    refine ⟨?_,by omega⟩
    split
    · split
      · rename_i e _; have := name_le e; omega
      · omega
    · omega
  · simp only [turn,pieceOut,cond_true]
    split
    · have h := mOut_len m p.e
      rcases hmo : M.mOut m p.e with ⟨x,port,ok⟩
      rw [hmo] at h
      cases ok <;> simp only at h ⊢
      · omega
      · have := name_le ⟨9,port⟩; omega
    · simp only; omega
theorem PortsOk.turn {m : List Pair} (h : PortsOk m) (p : Pc) (s : B) (out : Bool) : PortsOk (turn m p s out).1 := by
  cases out
  · exact h
  · simp only [M.turn,pieceOut,cond_true]
    split
    · have h2 := h.mOut (e := p.e)
      rcases hmo : M.mOut m p.e with ⟨x,port,ok⟩
      rw [hmo] at h2
      cases ok
      · exact h
      · exact h2
    · exact h
theorem nameAt_app {s : B} {e : E} (h : nameAt s = some e) (r : B) : nameAt (s ++ r) = some e := by
  obtain ⟨h1,q,rfl⟩ := nameAt_some h
  rw [List.append_assoc]
  exact nameAt_name h1 _
theorem nameAt_back {s r : B} {e : E} (h : nameAt (s ++ r) = some e) (hl : (name e).length ≤ s.length) : nameAt s = some e := by
  obtain ⟨h1,q,hq⟩ := nameAt_some h
  have : s = name e ++ s.drop (name e).length := by
    have h2 := congrArg (List.take (name e).length) hq
    rw [List.take_append_of_le_length hl,List.take_left'] at h2
    · conv => lhs; rw [← List.take_append_drop (name e).length s,h2]
    · rfl
  rw [this]
  exact nameAt_name h1 _
theorem pcs_app : ∀ (n : Nat) (s r : B),s.length ≤ n → (∀ i e,i < s.length → nameAt ((s ++ r).drop i) = some e → i + (name e).length ≤ s.length) → pcs (s ++ r) = pcs s ++ pcs r := by
  intro n
  induction n with
  | zero =>
    intro s r hs _
    have : s = [] := List.eq_nil_of_length_eq_zero (by omega)
    subst this; rfl
  | succ n ih =>
    intro s r hs H
    by_cases h : s = []
    · subst h; rfl
    have hp : 0 < s.length := List.length_pos_iff.2 h
    have hne : s ++ r ≠ [] := by simp [h]
    have key : pc1 (s ++ r) = pc1 s := by
      unfold pc1
      cases hn : nameAt (s ++ r) with
      | some e =>
        have := H 0 e hp (by simpa using hn)
        rw [nameAt_back hn (by omega)]
      | none =>
        cases hs : nameAt s with
        | none => rfl
        | some e => rw [nameAt_app hs r] at hn; cases hn
    obtain ⟨p1,p2,_⟩ := pc1_size h
    rw [pcs_cons hne,pcs_cons h,key,List.drop_append_of_le_length p2,List.cons_append]
    congr 1
    refine ih _ _ (by simp; omega) fun i e hi hn => ?_
    have hi' : i < s.length - (pc1 s).size := by simpa using hi
    have := H (i + (pc1 s).size) e (by omega) (by rw [Nat.add_comm,← List.drop_drop,List.drop_append_of_le_length p2]; exact hn)
    simp; omega
theorem pcs_sum : ∀ (n : Nat) (s : B),s.length ≤ n → ((pcs s).map (·.size)).sum = s.length := by
  intro n
  induction n with
  | zero =>
    intro s hs
    have : s = [] := List.eq_nil_of_length_eq_zero (by omega)
    subst this; rfl
  | succ n ih =>
    intro s hs
    by_cases h : s = []
    · subst h; rfl
    obtain ⟨p1,p2,_⟩ := pc1_size h
    rw [pcs_cons h,List.map_cons,List.sum_cons,ih _ (by simp; omega)]
    simp; omega
theorem pcs_fits : ∀ (n : Nat) (s r : B),s.length ≤ n → fits (pcs s) (s ++ r) := by
  intro n
  induction n with
  | zero =>
    intro s r hs
    have : s = [] := List.eq_nil_of_length_eq_zero (by omega)
    subst this; trivial
  | succ n ih =>
    intro s r hs
    by_cases h : s = []
    · subst h; trivial
    obtain ⟨p1,p2,_⟩ := pc1_size h
    rw [pcs_cons h]
    refine ⟨by simp; omega, ?_⟩
    rw [List.drop_append_of_le_length p2]
    exact ih _ _ (by simp; omega)
theorem heldK_beg (t : B) : ∀ n,0 < heldK t n → begs (t.drop (t.length - heldK t n)) = true
  | 0,h => by simp [heldK] at h
  | n + 1,h => by
    simp only [heldK] at h ⊢
    split
    · rename_i hc
      simp only [Bool.and_eq_true] at hc
      exact hc.2
    · rename_i hc
      rw [if_neg hc] at h
      exact heldK_beg t n h
theorem heldK_max (t : B) : ∀ n k,k ≤ n → k ≤ t.length → 0 < k → begs (t.drop (t.length - k)) = true → k ≤ heldK t n
  | 0,k,hk,_,h0,_ => by omega
  | n + 1,k,hk,hl,h0,hb => by
    simp only [heldK]
    by_cases hc : (decide (n + 1 ≤ t.length) && begs (t.drop (t.length - (n + 1)))) = true
    · rw [if_pos hc]; exact hk
    · rw [if_neg hc]
      rcases Nat.lt_or_ge k (n + 1) with h | h
      · exact heldK_max t n k (by omega) hl h0 hb
      · obtain rfl : k = n + 1 := by omega
        exact absurd (by simp [hl,hb]) hc
theorem held_beg {t : B} (h : 0 < held t) : begs (t.drop (t.length - held t)) = true := heldK_beg t 5 h
theorem held_max {t : B} {k : Nat} (hk : k ≤ 5) (hl : k ≤ t.length) (h0 : 0 < k) (hb : begs (t.drop (t.length - k)) = true) : k ≤ held t := heldK_max t 5 k hk hl h0 hb
theorem held5 (t : B) : held t ≤ 5 ∧ held t ≤ t.length := by
  have key : ∀ n,heldK t n ≤ n ∧ heldK t n ≤ t.length := fun n => by
    induction n with
    | zero => exact ⟨Nat.le_refl _,Nat.zero_le _⟩
    | succ n ih =>
      simp only [heldK]
      split
      · rename_i h; simp at h; omega
      · omega
  exact key 5
theorem begs_take {s : B} (h : begs s = true) {k : Nat} (h0 : 0 < k) (hk : k ≤ s.length) : begs (s.take k) = true := by
  rcases s with _ | ⟨a,_ | ⟨b,_ | ⟨c,_ | ⟨d,_ | ⟨e,_ | ⟨f,r⟩⟩⟩⟩⟩⟩
  · cases h
  all_goals (try (simp [begs] at h; done))
  all_goals
    simp only [List.length_cons,List.length_nil] at hk
    match k,h0,hk with
    | 1,_,_ => simp_all [begs]
    | 2,_,_ => simp_all [begs]
    | 3,_,_ => simp_all [begs]
    | 4,_,_ => simp_all [begs]
    | 5,_,_ => simp_all [begs]
theorem begs_head {s : B} (h : begs s = true) : s.length ≤ 5 ∧ ∃ r,s = 64 :: r := by
  rcases s with _ | ⟨a,_ | ⟨b,_ | ⟨c,_ | ⟨d,_ | ⟨e,_ | ⟨f,r⟩⟩⟩⟩⟩⟩ <;> simp_all [begs]
theorem ends_beg : ∀ e ∈ ends,∀ k ∈ [1,2,3,4,5],k < (name e).length → begs ((name e).take k) = true := by decide
theorem name_beg {e : E} (h : e.any = true) {k : Nat} (h0 : 0 < k) (hk : k < (name e).length) : begs ((name e).take k) = true := by
  have hl := name_len h
  refine ends_beg e (E.any_iff.1 h) k ?_ hk
  have : k ≤ 5 := by split at hl <;> omega
  simp; omega
theorem name_64 {e : E} {j : Nat} (h0 : 0 < j) : (name e)[j]? ≠ some 64 := by
  obtain ⟨j,rfl⟩ : ∃ i,j = i + 1 := ⟨j - 1,by omega⟩
  simp only [name,List.getElem?_cons_succ]
  intro hc
  have := List.mem_of_getElem? hc
  rcases List.mem_append.1 this with h | h
  · exact text_no64 h
  · simp at h
theorem held_app (s t : B) : held (s ++ t) ≤ held s + t.length := by
  rcases Nat.lt_or_ge t.length (held (s ++ t)) with h | h
  · have hb := held_beg (t := s ++ t) (by omega)
    have h5 := held5 (s ++ t)
    simp only [List.length_append] at h5 hb
    have hk : 0 < held (s ++ t) - t.length := by omega
    have h2 := begs_take hb hk (by simp; omega)
    have e1 : ((s ++ t).drop (s.length + t.length - held (s ++ t))).take (held (s ++ t) - t.length) = s.drop (s.length - (held (s ++ t) - t.length)) := by
      rw [List.drop_append_of_le_length (by omega),List.take_append_of_le_length (by simp; omega)]
      rw [List.take_of_length_le (by simp; omega)]
      congr 1; omega
    rw [e1] at h2
    have := held_max (by omega) (by omega) hk h2
    omega
  · omega
theorem body_app (s t : B) : body (s ++ t) = body s ++ (body (s ++ t)).drop (body s).length := by
  have h1 := held_app s t
  have h5 := held5 s
  have : body s = (body (s ++ t)).take (body s).length := by
    rw [body_len]
    unfold body
    rw [List.take_take,List.length_append,Nat.min_eq_left (by omega),List.take_append_of_le_length (by omega)]
  conv => lhs; rw [← List.take_append_drop (body s).length (body (s ++ t)),← this]
theorem pieces_app (s t : B) : pieces (s ++ t) = pieces s ++ pcs ((body (s ++ t)).drop (body s).length) := by
  rw [pieces_eq,pieces_eq]
  conv => lhs; rw [body_app]
  refine pcs_app _ _ _ (Nat.le_refl _) fun i e hi hn => ?_
  rw [← body_app] at hn
  obtain ⟨ha,q,hq⟩ := nameAt_some hn
  have hu : ∃ q',(s ++ t).drop i = name e ++ q' := by
    refine ⟨q ++ (s ++ t).drop ((s ++ t).length - held (s ++ t)), ?_⟩
    rw [← List.append_assoc,← hq]
    have : s ++ t = body (s ++ t) ++ (s ++ t).drop ((s ++ t).length - held (s ++ t)) := (List.take_append_drop _ _).symm
    conv => lhs; rw [this]
    rw [List.drop_append_of_le_length]
    have h1 := congrArg List.length (body_app s t)
    simp only [List.length_append] at h1
    omega
  obtain ⟨q',hq'⟩ := hu
  have hnl := name_len ha
  have hbl := body_len s
  have h5 := held5 s
  rcases Nat.lt_or_ge (body s).length (i + (name e).length) with hlt | hge
  · exfalso
    by_cases hh : held s = 0
    · have hk : 0 < s.length - i := by omega
      have hkl : s.length - i < (name e).length := by omega
      have hb := name_beg ha hk hkl
      have e1 : (name e).take (s.length - i) = s.drop (s.length - (s.length - i)) := by
        have h2 := congrArg (List.take (s.length - i)) hq'
        rw [List.take_append_of_le_length (by omega),List.drop_append_of_le_length (by omega),List.take_append_of_le_length (by simp),List.take_of_length_le (by simp)] at h2
        rw [← h2]; congr 1; omega
      rw [e1] at hb
      have := held_max (by split at hnl <;> omega) (by omega) hk hb
      omega
    · have hb := held_beg (t := s) (by omega)
      obtain ⟨_,r,hr⟩ := begs_head hb
      have e1 : (s ++ t)[(body s).length]? = some 64 := by
        rw [List.getElem?_append_left (by omega),hbl]
        have := congrArg (fun l => l[0]?) hr
        simpa using this
      have e2 : (s ++ t)[(body s).length]? = (name e)[(body s).length - i]? := by
        have := congrArg (fun l => l[(body s).length - i]?) hq'
        simp only [List.getElem?_drop] at this
        rw [show i + ((body s).length - i) = (body s).length by omega] at this
        rw [this,List.getElem?_append_left (by omega)]
      rw [e2] at e1
      exact name_64 (by omega) e1
  · exact hge
end Go.Proofs.YtblndjmhjaijjaaGreatDoor.M
namespace Go.Proofs.YtblndjmhjaijjaaGreatDoor.W
open Go Go.RowKit Go.Proofs Go.Proofs.YtblndjmhjaijjaaGreatDoor.VL Go.Proofs.YtblndjmhjaijjaaGreatDoor.M
attribute [local congr] optK_congr guardK_congr condK_congr runT_congr runD_congr wpI_congr CallV_congr LoopI_congr pureK_congr effK_congr calK_congr stepV_congr doV_congr exN_congr exB_congr retF_congr retQ_congr gK_congr condW_congr ldK_congr stoK_congr
attribute [local go_sem] argL_cons argL_nil argH_nil argH_cons chH_getH wpI_seq wpI_reg wpI_drw wpI_ret cond_k condW_t condW_f wpI_skip wpI_block wpI_exit wpI_loop exN_n exN_r exN_e exB_n exB_r exB_h exB_m runT_k kT_e runT_nil runD_k kD_e runD_nil step_u step_k gK_t gK_f do_mv do_bino bo_add bo_sub bo_mul bo_subu bo_quo bo_rem bo_xor bo_eql bo_neq bo_lss bo_leq bo_gtr bo_geq bo_cat bo_eqs bo_nes do_pick do_call do_cal calK_f do_box do_alloc do_ldk ldK_s do_stok stoK_s do_fad do_nilc do_not do_neg do_len do_lens do_ext do_eqs do_beq do_isn do_cvi do_sls do_idx do_mn do_mx do_build do_mkf do_s2b do_b2s do_slv do_iad do_bsl do_mks do_app ev_t ev_c app_some app_none
attribute [local go_sem] List.nil_append List.cons_append List.append_nil getL_hit getL_miss getH_nil getH_hit getH_miss nm_eq ne_eq Nat.reduceEqDiff not_false_eq_true Nat.reduceAdd Nat.add_zero Nat.zero_add if_true if_false ite_true ite_false pureK_s effK_s optK_s gdV_t gdV_f gdV_s pick_b ge_iff_le gt_iff_lt cond_true cond_false fresh_k cells_agg cells_int cells_bool cells_str cells_own cells_sl cells_nils ld_pv ld_pa ld_ip ldVar_t ldVar_f ldArr_t ldArr_f ldRow_t ldRow_f ldA_s ld1_s fad_pv fad_pa fad_ip nilc_pv nilc_pa nilc_ip not_b neg_i cvi_i ext_t retF_n retF_r
attribute [local go_sem] resV_k rvs_nil rvs_t rvs_c fstO_s consO_s resK_s resL_1 resL_2 resL_3 resL_4  Option.some.injEq List.map_cons List.map_nil List.all_cons List.all_nil Bool.and_true Bool.and_self Bool.not_true Bool.not_false Option.map_some Option.map_none sls_s slsG_s loV_n loV_i hiV_n hiV_i idx_s mn_i mx_i s2b_s b2s_s bytO_s bytes_nil bytes_cons conB_s slv_sl slv_own slv_nils slvG_s slvN_s slvO_s iad_sl iadG_map take_map drop_map List.length_map iad_own iad_view iadO_a iadW_a mks_i rowO_nils rowO_sl rowO_own rowA_a eq_self appG_nils appG_own appO_a guardP_T mapA_s bld_nil mkf_nil bldF_e fill_nil fill_cons mkf_e lens_s len_nils len_sl len_own len_view isn_nile isn_erre List.getElem?_cons_zero List.getElem?_cons_succ List.length_cons List.length_nil decide_true decide_false Int.toNat_natCast Int.cast_ofNat_Int Int.reduceLT Int.reduceLE Int.reduceEq Int.reduceAdd Int.reduceSub Int.reduceMul Int.reduceNeg Int.reduceToNat List.getD_cons_zero List.getD_cons_succ not_true_eq_false not_false_eq_true Bool.false_eq_true Bool.true_eq_false reduceCtorEq
attribute [local go_sem] E.row Pc.row Pair.row Part.row Strm.row Flw.row Pk.row Door.row Conv.row World.row Ev.row rdV E.eta Pc.eta Pair.eta Part.eta Strm.eta Pk.eta Flw.eta Conv.eta Door.eta World.eta Ev.eta
attribute [local go_sem] sub_ok st_pv st_pa stVar_v stArr_a Nat.le_refl List.drop_zero List.drop_succ_cons List.take_succ_cons List.take_zero setR Nat.reduceLeDiff
attribute [local go_sem] wk_bot wk2_bot wk1_bot wk_undef wk_tup_e wk2_agg_e wk_agg_e wk1_fn_e wk2_fn_e wk_fn_e wkl_nil wkl_cons wkh_var_e wkh_arr_e wkh_fresh_e wkh_dead_v wkh_dead_a wkh_dead_d wk0_undef wk0_int wk0_bool wk0_str wk0_nils wk0_nils_sl wk0_nilp wk0_nile wk0_erre wk0_sl wk0_iptr wk0_own wk0_view wk0_pv wk0_pa fzA_a fzW_a fzP_v wk0_own_sl wk0_view_sl wk0_pv_iptr WkS_nil WkS_cons WkN_nil WkN_cons nonB_nil nonB_cons getN_nil getN_hit getN_miss pinOk_0 pinOk_s and_true true_and and_self
attribute [local go_sem] bot_int one_int unt_int clo_int bot_bool one_bool unt_bool clo_bool bot_str one_str unt_str clo_str bot_nils one_nils unt_nils clo_nils bot_nilp one_nilp unt_nilp clo_nilp bot_nile one_nile unt_nile clo_nile bot_erre one_erre unt_erre clo_erre bot_raw one_raw unt_raw clo_raw bot_sl one_sl unt_sl clo_sl bot_own one_own unt_own clo_own bot_view one_view unt_view clo_view bot_pv one_pv unt_pv clo_pv bot_pa one_pa unt_pa clo_pa bot_iptr one_iptr unt_iptr clo_iptr unt_agg unt_fn one_fn
attribute [local go_sem] rn_tup rn_agg rn2_agg rn_fn rn2_fn rnfn1 rn_bot rn2_bot rn1_bot rn0_int rn0_bool rn0_str rn0_nils rn0_nilp rn0_nile rn0_erre rn0_sl rn0_iptr rn0_own rn0_view rn0_pv rn0_pa hrn_var hrn_arr hrn_dead outU_nil outU_cons deads_nil deads_cons bk_ge bk_lt nsF_0 nsF_s chH_0 chH_s chH_n newN_e andB_s eqR_nil eqR_i eqR_b eqR_s mapX_f mapX_t eqs_a beq_f beq_t live_arr live_var nsl_nil nsl_cons Nat.reduceMul Nat.reduceLT Nat.zero_le Nat.not_lt_zero
attribute [local go_sem] mV lD lA fD bN eX oP nP sR i0 s0
def ic204 : IC := sR [oP 8 (.mv (.c .nils)),oP 9 (.mv (.c .nils))] (sR [mV 15 1,oP 16 (.len (.t 15)),oP 17 (.mks 9 1 (.t 16)),mV 10 17] (.seq (sR [mV 18 1,oP 19 (.len (.t 18)),oP 20 (.mv (.c i0))] (.block 0 (.loop (sR [bN 21 .lss 20 19] (.seq (.cond (.t 21) .skip (.exit 0)) (.seq (.block 1 (sR [oP 22 (.iad 4 (.t 18) (.t 20)),lA 23 4 22,oP 12 (.alloc 75 [i0,.bool false,i0,i0]),nP (.sto 4 (.t 12) (.t 23))] (.seq (.drw [0,0,0,0,8,28,0,127,255,511,511,1023,4095] [(0,mV 25 0),(1,lA 26 4 12),(2,mV 27 2),(3,fD 28 0 12),(4,lD 29 1 28),(5,oP 30 (.sls (.t 27) none (some (.t 29)))),(6,mV 31 3),(7,oP 32 (.call 227 [.t 25,.t 26,.t 30,.t 31])),(8,mV 24 32),(9,eX 33 24 0),(10,eX 34 24 1),(11,mV 13 33),(12,mV 14 34)]) (sR [mV 35 13,mV 0 35] (sR [mV 36 10,mV 37 14,oP 38 (.call 180 [.t 37]),oP 39 (.bsl 9 1 [.t 38]),oP 40 (.app 9 1 (.t 36) (.t 39)),mV 10 40] (.reg [mV 41 2,fD 42 0 12,lD 43 1 42,oP 44 (.sls (.t 41) (some (.t 43)) none),mV 2 44])))))) (.reg [oP 45 (.bin .add (.t 20) (.c (.int .i64 1))),mV 20 45]))))))) (sR [mV 46 0,mV 47 10,mV 8 46,mV 9 47] .ret)))
theorem dg204 : digF Tryz.prog Tryz.f204 = some (ic204,[(.t 8),(.t 9)]) := by kernel_rfl
theorem en204 : entr Tryz.prog 204 = true := by kernel_rfl
theorem c204 (m : List Pair) (l : List Pc) (s : B) (out : Bool) (hp : PortsOk m) (hm : m.length ≤ 100) (hl : l.length ≤ 1000) (hs : s.length ≤ 1000) (hf : fits l s) :
    FnR Tryz.prog G 204 [.sl 3 (m.map Pair.row),.sl 4 (l.map Pc.row),.str s,.bool out] (.tup [.sl 3 ((turned m l s out).1.map Pair.row),.sl 1 ((turned m l s out).2.map fun x => [.str x])]) := by
  refine FnR.mkF Tryz.func204 en204 dg204 Tryz.ntmps204 (by simp) ?_
  simp only [ic204,go_sem]
  with_reducible repeat' (first | refine br ?_ ?_ <;> intro h e <;> (try simp only [e,go_sem]) <;> clear e | rw [i64w (by omega)] | (first | refine sk ?_ | refine sd ?_) <;> try simp only [go_sem] | fail)
  refine loopN (fun a : List Pair × B × List B × Nat => ⟨getL [(0,.sl 3 (a.1.map Pair.row)),(2,.str a.2.1),(3,.bool out),(10,.own 1017 a.2.2.1.length),(18,.sl 4 (l.map Pc.row)),(19,.int .i64 l.length),(20,.int .i64 (a.2.2.2 : Int))],getH [(1017,.arr 9 1 (a.2.2.1.map fun x => [.str x]))]⟩)
    (fun a => l.length - a.2.2.2) (fun a => a.2.2.2 ≤ l.length ∧ PortsOk a.1 ∧ a.1.length ≤ m.length + a.2.2.2 ∧ a.2.1.length ≤ 1000 ∧ a.2.2.1.length = a.2.2.2 ∧ fits (l.drop a.2.2.2) a.2.1 ∧
      turned m l s out = ((turned a.1 (l.drop a.2.2.2) a.2.1 out).1,a.2.2.1 ++ (turned a.1 (l.drop a.2.2.2) a.2.1 out).2)) (m,s,[],0)
    (leN [] (by simp only [go_sem]; first | done | rfl) (by simp only [go_sem]; first | done | rfl) (by simp [getN]) (by simp only [go_sem])) ⟨by simp,hp,by simp,hs,rfl,by simpa using hf,by simp⟩ ?_
  intro ⟨mm,ss,ts,i⟩ ⟨h1,h2,h3,h4,h5,h6,h7⟩
  simp only at h1 h2 h3 h4 h5 h6 h7
  simp only [go_sem]
  by_cases h : (i : Int) < l.length
  · have hil : i < l.length := by omega
    have hg : l.getD i default = l[i] := by simp [List.getD,hil]
    rw [List.drop_eq_getElem_cons hil] at h6 h7
    generalize hq : l[i] = q at *
    simp only [eq_true h,go_sem]
    refine effG (by omega) ?_
    simp only [hg,go_sem]
    obtain ⟨f1,f2⟩ := h6
    with_reducible repeat' (first | refine br ?_ ?_ <;> intro h e <;> (try simp only [e,go_sem]) <;> clear e | rw [i64w (by omega)] | (first | refine sk ?_ | refine sd ?_) <;> try simp only [go_sem] | fail)
    have ht := turn_len mm q (ss.take q.size) out
    simp only [List.length_take] at ht
    refine callR (c227 mm q.size q.named q.e.a q.e.p _ out h2 (by omega)) rfl rfl ?_
    simp only [go_sem]
    have h2' := h2.turn q (ss.take q.size) out
    generalize htt : turn mm q (ss.take q.size) out = r at *
    with_reducible repeat' (first | refine br ?_ ?_ <;> intro h e <;> (try simp only [e,go_sem]) <;> clear e | rw [i64w (by omega)] | (first | refine sk ?_ | refine sd ?_) <;> try simp only [go_sem] | (first | refine cr (c180 ..) ?_) <;> try simp only [go_sem] | fail)
    refine ⟨(r.1,ss.drop q.size,ts ++ [r.2],i + 1),by simp; omega,⟨by simp; omega,h2',by simp; omega,by simp; omega,by simp; omega,f2, ?_⟩,leN [(1017,1040)] ?_ ?_ (by simp [getN]) (by simp only [go_sem])⟩
    · rw [h7]; simp [turned,htt]
    · simp only [go_sem]; simp
    · simp only [go_sem]; simp
  · simp only [eq_false h,go_sem]
    have : i = l.length := by omega
    subst this
    rw [h7]
    simp [turned]
end Go.Proofs.YtblndjmhjaijjaaGreatDoor.W
namespace Go.Proofs.YtblndjmhjaijjaaGreatDoor.M
def SB (s : Strm) : Prop := s.inn.length ≤ 2000000 ∧ s.parts.length ≤ 2000000 ∧ ∀ p ∈ s.parts,p.text.length ≤ 2000000
def StrB (s : Strm) : Prop := s.inn.length ≤ 40 ∧ s.parts.length ≤ 40 ∧ ∀ p ∈ s.parts,(1 ≤ p.size ∧ p.size ≤ 6) ∧ 1 ≤ p.text.length ∧ p.text.length ≤ 6 ∧ txOk p.text = true
theorem okParts_len : ∀ {ps : List Part} {qs : List Pc},okParts ps qs = true → ps.length = qs.length
  | [],[],_ => rfl
  | p :: ps,q :: qs,h => by
    simp only [okParts,Bool.and_eq_true] at h
    simp [okParts_len h.2]
  | [],_ :: _,h => by simp [okParts] at h
  | _ :: _,[],h => by simp [okParts] at h
theorem okParts_at : ∀ {ps : List Part} {qs : List Pc},okParts ps qs = true → ∀ (i : Nat) p q,ps[i]? = some p → qs[i]? = some q → okPart p q = true
  | [],[],_,i,p,q,h,_ => by simp at h
  | p :: ps,q :: qs,h,i,p',q',h1,h2 => by
    simp only [okParts,Bool.and_eq_true] at h
    cases i with
    | zero => simp at h1 h2; subst h1 h2; exact h.1
    | succ i => exact okParts_at h.2 i p' q' (by simpa using h1) (by simpa using h2)
  | [],_ :: _,h,_,_,_,_,_ => by simp [okParts] at h
  | _ :: _,[],h,_,_,_,_,_ => by simp [okParts] at h
theorem pcs_small : ∀ (n : Nat) (s : B),s.length ≤ n → ∀ q ∈ pcs s,1 ≤ q.size ∧ q.size ≤ 6 := by
  intro n
  induction n with
  | zero =>
    intro s hs
    have : s = [] := List.eq_nil_of_length_eq_zero (by omega)
    subst this; intro q hq; cases hq
  | succ n ih =>
    intro s hs q hq
    by_cases h : s = []
    · subst h; cases hq
    obtain ⟨p1,p2,p3⟩ := pc1_size h
    rw [pcs_cons h] at hq
    rcases List.mem_cons.1 hq with rfl | hq
    · exact ⟨p1,p3⟩
    · exact ih _ (by simp; omega) q hq
theorem pieces_small (t : B) : ∀ q ∈ pieces t,1 ≤ q.size ∧ q.size ≤ 6 := by
  rw [pieces_eq]; exact pcs_small _ _ (Nat.le_refl _)
theorem txOk_len {t : B} (h : txOk t = true) : t.length ≤ 40 := by
  simp only [txOk,Bool.and_eq_true,decide_eq_true_eq] at h; exact h.2
theorem okPart_iff {p : Part} {q : Pc} : okPart p q = true ↔ p.size = q.size ∧ (1 ≤ p.text.length ∧ p.text.length ≤ 6) ∧ txOk p.text = true := by
  simp only [okPart,Bool.and_eq_true,decide_eq_true_eq,within_iff]
  constructor
  · rintro ⟨⟨a,b⟩,c⟩; exact ⟨a,by omega,c⟩
  · rintro ⟨a,b,c⟩; exact ⟨⟨a,by omega⟩,c⟩
theorem strmOk_B {s : Strm} (h : strmOk s = true) : StrB s := by
  simp only [strmOk,Bool.and_eq_true] at h
  have hl := okParts_len h.2
  have h40 := txOk_len h.1
  have := pieces_len s.inn
  refine ⟨h40,by omega,fun p hp => ?_⟩
  obtain ⟨i,hi⟩ := List.getElem?_of_mem hp
  have hil := (List.getElem?_eq_some_iff.1 hi).1
  have hq := List.getElem?_eq_getElem (show i < (pieces s.inn).length by omega)
  obtain ⟨a,b,c⟩ := okPart_iff.1 (okParts_at h.2 i _ _ hi hq)
  have := pieces_small s.inn _ (List.getElem_mem (show i < (pieces s.inn).length by omega))
  exact ⟨by omega,b.1,b.2,c⟩
theorem doneP_cons (p : Part) (l : List Part) : doneP (p :: l) = p.size.toNat + doneP l := by simp [doneP]
theorem okParts_done : ∀ {ps : List Part} {qs : List Pc},okParts ps qs = true → doneP ps = (qs.map (·.size)).sum
  | [],[],_ => rfl
  | p :: ps,q :: qs,h => by
    simp only [okParts,Bool.and_eq_true] at h
    have := (okPart_iff.1 h.1).1
    rw [doneP_cons,okParts_done h.2,this]; simp
  | [],_ :: _,h => by simp [okParts] at h
  | _ :: _,[],h => by simp [okParts] at h
theorem strmOk_done {s : Strm} (h : strmOk s = true) : doneP s.parts = (body s.inn).length ∧ s.parts.length = (pieces s.inn).length := by
  simp only [strmOk,Bool.and_eq_true] at h
  refine ⟨?_,okParts_len h.2⟩
  rw [okParts_done h.2,pieces_eq,pcs_sum _ _ (Nat.le_refl _)]
theorem put_fits {s : Strm} (h : strmOk s = true) (t : B) : s.parts.length ≤ (pieces (s.inn ++ t)).length ∧ (pieces (s.inn ++ t)).drop s.parts.length = pcs ((body (s.inn ++ t)).drop (body s.inn).length) ∧
    doneP s.parts ≤ (s.inn ++ t).length ∧ fits ((pieces (s.inn ++ t)).drop s.parts.length) ((s.inn ++ t).drop (doneP s.parts)) := by
  obtain ⟨h1,h2⟩ := strmOk_done h
  have hp := pieces_app s.inn t
  have hb := body_app s.inn t
  have e1 : (pieces (s.inn ++ t)).drop s.parts.length = pcs ((body (s.inn ++ t)).drop (body s.inn).length) := by
    rw [hp,h2,List.drop_left']
    rfl
  refine ⟨by rw [hp,h2]; simp,e1,by rw [h1,body_len]; simp; omega, ?_⟩
  rw [e1,h1]
  have : s.inn ++ t = body (s.inn ++ t) ++ (s.inn ++ t).drop ((s.inn ++ t).length - held (s.inn ++ t)) := (List.take_append_drop _ _).symm
  conv => rhs; rw [this]
  have hl := congrArg List.length hb
  simp only [List.length_append] at hl
  rw [List.drop_append_of_le_length (by omega)]
  exact pcs_fits _ _ _ (Nat.le_refl _)
theorem backP_rng {l : List Part} (h : ∀ p ∈ l,0 ≤ p.size ∧ p.size ≤ 6) : ∀ i,0 ≤ backP l i ∧ backP l i ≤ 6 * l.length := by
  induction l with
  | nil => intro i; simp [backP]
  | cons p l ih =>
    intro i
    have := ih (fun q hq => h q (by simp [hq])) (i - p.text.length)
    have := h p (by simp)
    simp only [backP,List.length_cons]
    split <;> omega
def outL (l : List Part) : B := l.flatMap (·.text)
theorem outL_step {l : List Part} {i : Nat} (h : i < l.length) : outL (l.take (i + 1)) = outL (l.take i) ++ l[i].text := by
  unfold outL
  rw [List.take_add_one,List.getElem?_eq_getElem h,List.flatMap_append]
  simp
theorem outL_le {l : List Part} (h : ∀ p ∈ l,p.text.length ≤ 6) (i : Nat) : (outL (l.take i)).length ≤ 6 * l.length := by
  have key : ∀ (l : List Part),(∀ p ∈ l,p.text.length ≤ 6) → (outL l).length ≤ 6 * l.length := by
    intro l
    induction l with
    | nil => intro _; simp [outL]
    | cons p l ih =>
      intro h
      have := ih fun q hq => h q (by simp [hq])
      have := h p (by simp)
      simp only [outL,List.flatMap_cons,List.length_append,List.length_cons] at *
      omega
  have := key (l.take i) fun p hp => h p (List.mem_of_mem_take hp)
  simp only [List.length_take] at this
  omega
theorem doneL_step {l : List Part} {i : Nat} (h : i < l.length) : doneP (l.take (i + 1)) = doneP (l.take i) + l[i].size.toNat := by
  unfold doneP
  rw [List.take_add_one,List.getElem?_eq_getElem h,List.map_append,List.sum_append]
  rfl
theorem doneL_le {l : List Part} (h : ∀ p ∈ l,p.size ≤ 6) (i : Nat) : doneP (l.take i) ≤ 6 * l.length := by
  have key : ∀ (l : List Part),(∀ p ∈ l,p.size ≤ 6) → doneP l ≤ 6 * l.length := by
    intro l
    induction l with
    | nil => intro _; simp [doneP]
    | cons p l ih =>
      intro h
      have := ih fun q hq => h q (by simp [hq])
      have := h p (by simp)
      rw [doneP_cons,List.length_cons]
      omega
  have := key (l.take i) fun p hp => h p (List.mem_of_mem_take hp)
  simp only [List.length_take] at this
  omega
theorem behind_app {c : B} {n : Int} {t : B} (h : (behind c n t).2 = true) : ∃ x,(behind c n t).1 = c ++ x ∧ x.length ≤ t.length := by
  unfold behind at h ⊢
  split
  · rename_i hc; rw [if_pos hc] at h; cases h
  · split
    · exact ⟨[],by simp,by simp⟩
    · exact ⟨_,rfl,by simp⟩
theorem mkParts_len : ∀ {l : List Pc} {ts : List B},ts.length = l.length → (mkParts l ts).length = l.length
  | [],[],_ => rfl
  | p :: ps,b :: bs,h => by simp [mkParts,mkParts_len (l := ps) (ts := bs) (by simpa using h)]
  | [],_ :: _,h => by simp at h
  | _ :: _,[],h => by simp at h
theorem turned_len : ∀ (l : List Pc) (m : List Pair) (s : B) (out : Bool),(turned m l s out).2.length = l.length
  | [],m,s,out => rfl
  | p :: ps,m,s,out => by simp [turned,turned_len ps]
theorem mkParts_step : ∀ (l : List Pc) (ts : List B) (i : Nat),ts.length = l.length → i < l.length → mkParts (l.take (i + 1)) (ts.take (i + 1)) = mkParts (l.take i) (ts.take i) ++ [⟨(l.getD i default).size,ts.getD i default⟩]
  | [],_,i,_,h => by simp at h
  | _ :: _,[],i,h,_ => by simp at h
  | p :: ps,b :: bs,0,_,_ => by simp [mkParts]
  | p :: ps,b :: bs,i + 1,h1,h2 => by
    have := mkParts_step ps bs i (by simpa using h1) (by simpa using h2)
    simp [mkParts,this]
end Go.Proofs.YtblndjmhjaijjaaGreatDoor.M
namespace Go.Proofs.YtblndjmhjaijjaaGreatDoor.W
open Go Go.RowKit Go.Proofs Go.Proofs.YtblndjmhjaijjaaGreatDoor.VL Go.Proofs.YtblndjmhjaijjaaGreatDoor.M
attribute [local congr] optK_congr guardK_congr condK_congr runT_congr runD_congr wpI_congr CallV_congr LoopI_congr pureK_congr effK_congr calK_congr stepV_congr doV_congr exN_congr exB_congr retF_congr retQ_congr gK_congr condW_congr ldK_congr stoK_congr
attribute [local go_sem] argL_cons argL_nil argH_nil argH_cons chH_getH wpI_seq wpI_reg wpI_drw wpI_ret cond_k condW_t condW_f wpI_skip wpI_block wpI_exit wpI_loop exN_n exN_r exN_e exB_n exB_r exB_h exB_m runT_k kT_e runT_nil runD_k kD_e runD_nil step_u step_k gK_t gK_f do_mv do_bino bo_add bo_sub bo_mul bo_subu bo_quo bo_rem bo_xor bo_eql bo_neq bo_lss bo_leq bo_gtr bo_geq bo_cat bo_eqs bo_nes do_pick do_call do_cal calK_f do_box do_alloc do_ldk ldK_s do_stok stoK_s do_fad do_nilc do_not do_neg do_len do_lens do_ext do_eqs do_beq do_isn do_cvi do_sls do_idx do_mn do_mx do_build do_mkf do_s2b do_b2s do_slv do_iad do_bsl do_mks do_app ev_t ev_c app_some app_none
attribute [local go_sem] List.nil_append List.cons_append List.append_nil getL_hit getL_miss getH_nil getH_hit getH_miss nm_eq ne_eq Nat.reduceEqDiff not_false_eq_true Nat.reduceAdd Nat.add_zero Nat.zero_add if_true if_false ite_true ite_false pureK_s effK_s optK_s gdV_t gdV_f gdV_s pick_b ge_iff_le gt_iff_lt cond_true cond_false fresh_k cells_agg cells_int cells_bool cells_str cells_own cells_sl cells_nils ld_pv ld_pa ld_ip ldVar_t ldVar_f ldArr_t ldArr_f ldRow_t ldRow_f ldA_s ld1_s fad_pv fad_pa fad_ip nilc_pv nilc_pa nilc_ip not_b neg_i cvi_i ext_t retF_n retF_r
attribute [local go_sem] resV_k rvs_nil rvs_t rvs_c fstO_s consO_s resK_s resL_1 resL_2 resL_3 resL_4  Option.some.injEq List.map_cons List.map_nil List.all_cons List.all_nil Bool.and_true Bool.and_self Bool.not_true Bool.not_false Option.map_some Option.map_none sls_s slsG_s loV_n loV_i hiV_n hiV_i idx_s mn_i mx_i s2b_s b2s_s bytO_s bytes_nil bytes_cons conB_s slv_sl slv_own slv_nils slvG_s slvN_s slvO_s iad_sl iadG_map take_map drop_map List.length_map iad_own iad_view iadO_a iadW_a mks_i rowO_nils rowO_sl rowO_own rowA_a eq_self appG_nils appG_own appO_a guardP_T mapA_s bld_nil mkf_nil bldF_e fill_nil fill_cons mkf_e lens_s len_nils len_sl len_own len_view isn_nile isn_erre List.getElem?_cons_zero List.getElem?_cons_succ List.length_cons List.length_nil decide_true decide_false Int.toNat_natCast Int.cast_ofNat_Int Int.reduceLT Int.reduceLE Int.reduceEq Int.reduceAdd Int.reduceSub Int.reduceMul Int.reduceNeg Int.reduceToNat List.getD_cons_zero List.getD_cons_succ not_true_eq_false not_false_eq_true Bool.false_eq_true Bool.true_eq_false reduceCtorEq
attribute [local go_sem] E.row Pc.row Pair.row Part.row Strm.row Flw.row Pk.row Door.row Conv.row World.row Ev.row rdV E.eta Pc.eta Pair.eta Part.eta Strm.eta Pk.eta Flw.eta Conv.eta Door.eta World.eta Ev.eta
attribute [local go_sem] sub_ok st_pv st_pa stVar_v stArr_a Nat.le_refl List.drop_zero List.drop_succ_cons List.take_succ_cons List.take_zero setR Nat.reduceLeDiff
attribute [local go_sem] wk_bot wk2_bot wk1_bot wk_undef wk_tup_e wk2_agg_e wk_agg_e wk1_fn_e wk2_fn_e wk_fn_e wkl_nil wkl_cons wkh_var_e wkh_arr_e wkh_fresh_e wkh_dead_v wkh_dead_a wkh_dead_d wk0_undef wk0_int wk0_bool wk0_str wk0_nils wk0_nils_sl wk0_nilp wk0_nile wk0_erre wk0_sl wk0_iptr wk0_own wk0_view wk0_pv wk0_pa fzA_a fzW_a fzP_v wk0_own_sl wk0_view_sl wk0_pv_iptr WkS_nil WkS_cons WkN_nil WkN_cons nonB_nil nonB_cons getN_nil getN_hit getN_miss pinOk_0 pinOk_s and_true true_and and_self
attribute [local go_sem] bot_int one_int unt_int clo_int bot_bool one_bool unt_bool clo_bool bot_str one_str unt_str clo_str bot_nils one_nils unt_nils clo_nils bot_nilp one_nilp unt_nilp clo_nilp bot_nile one_nile unt_nile clo_nile bot_erre one_erre unt_erre clo_erre bot_raw one_raw unt_raw clo_raw bot_sl one_sl unt_sl clo_sl bot_own one_own unt_own clo_own bot_view one_view unt_view clo_view bot_pv one_pv unt_pv clo_pv bot_pa one_pa unt_pa clo_pa bot_iptr one_iptr unt_iptr clo_iptr unt_agg unt_fn one_fn
attribute [local go_sem] rn_tup rn_agg rn2_agg rn_fn rn2_fn rnfn1 rn_bot rn2_bot rn1_bot rn0_int rn0_bool rn0_str rn0_nils rn0_nilp rn0_nile rn0_erre rn0_sl rn0_iptr rn0_own rn0_view rn0_pv rn0_pa hrn_var hrn_arr hrn_dead outU_nil outU_cons deads_nil deads_cons bk_ge bk_lt nsF_0 nsF_s chH_0 chH_s chH_n newN_e andB_s eqR_nil eqR_i eqR_b eqR_s mapX_f mapX_t eqs_a beq_f beq_t live_arr live_var nsl_nil nsl_cons Nat.reduceMul Nat.reduceLT Nat.zero_le Nat.not_lt_zero
attribute [local go_sem] mV lD lA fD bN eX oP nP sR i0 s0
def ic192 : IC := sR [oP 6 (.mv (.c s0)),oP 7 (.mv (.c (.bool false)))] (.seq (sR [mV 8 1,mV 9 0,oP 10 (.lens (.t 9)),bN 11 .gtr 8 10,mV 12 11,⟨some 13,some (12,false),.mv (.t 1)⟩,⟨some 14,some (12,false),.mv (.t 2)⟩,⟨some 15,some (12,false),.lens (.t 14)⟩,⟨some 16,some (12,false),.bin .add (.t 13) (.t 15)⟩,⟨some 17,some (12,false),.bin .gtr (.t 16) (.c (.int .i64 40))⟩,oP 18 (.pick (.t 12) (.c (.bool true)) (.t 17))] (.cond (.t 18) (sR [mV 19 0,mV 6 19,oP 7 (.mv (.c (.bool false)))] .ret) .skip)) (.seq (sR [mV 20 1,mV 21 2,oP 22 (.lens (.t 21)),bN 23 .add 20 22,mV 24 0,oP 25 (.lens (.t 24)),bN 26 .leq 23 25] (.cond (.t 26) (sR [mV 27 0,mV 6 27,oP 7 (.mv (.c (.bool true)))] .ret) .skip)) (sR [mV 28 0,mV 29 2,mV 30 0,oP 31 (.lens (.t 30)),mV 32 1,bN 33 .sub 31 32,oP 34 (.sls (.t 29) (some (.t 33)) none),bN 35 .add 28 34,mV 6 35,oP 7 (.mv (.c (.bool true)))] .ret)))
theorem dg192 : digF Tryz.prog Tryz.f192 = some (ic192,[(.t 6),(.t 7)]) := by kernel_rfl
theorem en192 : entr Tryz.prog 192 = true := by kernel_rfl
theorem c192 (came : B) (n : Int) (text : B) (hn : 0 ≤ n ∧ n ≤ 1000) (hc : came.length ≤ 1000) (ht : text.length ≤ 1000) : FnR Tryz.prog G 192 [.str came,.int .i64 n,.str text] (.tup [.str (behind came n text).1,.bool (behind came n text).2]) := by
  refine FnR.mkF Tryz.func192 en192 dg192 Tryz.ntmps192 (by simp) ?_
  simp only [ic192,go_sem]
  with_reducible repeat' (first | rw [i64w (by omega)]; try simp only [go_sem] | refine br ?_ ?_ <;> intro h e <;> (try simp only [e,go_sem]) <;> clear e | (first | refine sk ?_ | refine sd ?_) <;> try simp only [go_sem] | fail)
  · have : behind came n text = (came,false) := by
      unfold behind; rw [if_pos (by simp; omega)]
    rw [this]; exact ⟨rfl,rfl⟩
  · have : behind came n text = (came,false) := by
      unfold behind; rw [if_pos (by simp; omega)]
    rw [this]; exact ⟨rfl,rfl⟩
  · have : behind came n text = (came,true) := by
      unfold behind; rw [if_neg (by simp; omega),if_pos (by omega)]
    rw [this]; exact ⟨rfl,rfl⟩
  · refine pureG (by simp; omega) ?_
    simp only [go_sem]
    have : behind came n text = (came ++ text.drop (came.length - n).toNat,true) := by
      unfold behind; rw [if_neg (by simp; omega),if_neg (by omega)]
    rw [this,List.take_length]; exact ⟨rfl,rfl⟩
def ic121 : IC := sR [oP 2 (.box 163 (.t 0)),oP 3 (.box 75 (.t 1)),oP 4 (.mv (.c (.bool false)))] (sR [fD 5 0 2,lD 6 1 5,fD 7 0 3,lD 8 1 7,bN 9 .eql 6 8,mV 10 9,⟨some 11,some (10,true),.fad 1 (.t 2)⟩,⟨some 12,some (10,true),.ld 1 false (.t 11)⟩,⟨some 13,some (10,true),.lens (.t 12)⟩,⟨some 14,some (10,true),.call 36 [.t 13,.c (.int .i64 1),.c (.int .i64 6)]⟩,oP 15 (.pick (.t 10) (.t 14) (.c (.bool false))),mV 16 15,⟨some 17,some (16,true),.fad 1 (.t 2)⟩,⟨some 18,some (16,true),.ld 1 false (.t 17)⟩,⟨some 19,some (16,true),.call 90 [.t 18]⟩,oP 20 (.pick (.t 16) (.t 19) (.c (.bool false))),mV 4 20] .ret)
theorem dg121 : digF Tryz.prog Tryz.f121 = some (ic121,[(.t 4)]) := by kernel_rfl
theorem en121 : entr Tryz.prog 121 = true := by kernel_rfl
theorem c121 (n : Int) (t : B) (k : Nat) (b : Bool) (x y : Int) (ht : t.length ≤ 2000000) : FnR Tryz.prog G 121 [.agg [.int .i64 n,.str t],.agg [.int .i64 k,.bool b,.int .i64 x,.int .i64 y]] (.bool (okPart ⟨n,t⟩ ⟨k,b,⟨x,y⟩⟩)) := by
  refine FnR.mkF Tryz.func121 en121 dg121 Tryz.ntmps121 (by simp) ?_
  simp only [ic121,go_sem]
  with_reducible repeat' (first | refine br ?_ ?_ <;> intro h e <;> (try simp only [e,go_sem]) <;> clear e | rw [i64w (by omega)] | (first | refine sk ?_ | refine sd ?_) <;> try simp only [go_sem] | (first | refine cr (c36 ..) ?_ | refine cr (c90 ..) ?_) <;> try simp only [go_sem] | fail)
  all_goals simp [okPart, *]
theorem okParts_drop {ps : List Part} {qs : List Pc} {i : Nat} (h : i < ps.length) (hl : ps.length = qs.length) : okParts (ps.drop i) (qs.drop i) = (okPart (ps.getD i default) (qs.getD i default) && okParts (ps.drop (i + 1)) (qs.drop (i + 1))) := by
  rw [List.drop_eq_getElem_cons h,List.drop_eq_getElem_cons (show i < qs.length by omega)]
  simp [okParts,List.getD,h,show i < qs.length by omega]
theorem okParts_ne : ∀ {ps : List Part} {qs : List Pc},ps.length ≠ qs.length → okParts ps qs = false := fun {ps qs} h => by
  cases hc : okParts ps qs with
  | false => rfl
  | true => exact absurd (okParts_len hc) h
def ic120 : IC := sR [oP 6 (.mv (.c (.bool false)))] (.seq (sR [mV 10 0,oP 11 (.len (.t 10)),mV 12 1,oP 13 (.len (.t 12)),bN 14 .neq 11 13] (.cond (.t 14) (sR [oP 6 (.mv (.c (.bool false)))] .ret) .skip)) (.seq (sR [mV 15 0,oP 16 (.len (.t 15)),oP 17 (.mv (.c i0))] (.block 0 (.loop (sR [bN 18 .lss 17 16] (.seq (.cond (.t 18) .skip (.exit 0)) (.seq (.block 1 (sR [mV 19 17,oP 20 (.iad 2 (.t 15) (.t 17)),lA 21 2 20,oP 8 (.alloc 163 [i0,s0]),mV 7 19,nP (.sto 2 (.t 8) (.t 21))] (sR [mV 22 1,mV 23 7,oP 24 (.iad 4 (.t 22) (.t 23)),lA 25 4 24,oP 9 (.alloc 75 [i0,.bool false,i0,i0]),nP (.sto 4 (.t 9) (.t 25))] (sR [mV 26 2,lA 27 2 8,lA 28 4 9,oP 29 (.cal (.t 26) [.t 27,.t 28]),oP 30 (.un .not (.t 29))] (.cond (.t 30) (sR [oP 6 (.mv (.c (.bool false)))] .ret) .skip))))) (.reg [oP 31 (.bin .add (.t 17) (.c (.int .i64 1))),mV 17 31]))))))) (sR [oP 6 (.mv (.c (.bool true)))] .ret)))
theorem dg120 : digF Tryz.prog Tryz.f120 = some (ic120,[(.t 6)]) := by kernel_rfl
theorem en120 : entr Tryz.prog 120 = true := by kernel_rfl
theorem c120 (ps : List Part) (qs : List Pc) (hp : ps.length ≤ 2000000) (hq : qs.length ≤ 2000000) (ht : ∀ p ∈ ps,p.text.length ≤ 2000000) :
    FnR Tryz.prog G 120 [.sl 2 (ps.map Part.row),.sl 4 (qs.map Pc.row),.fn 121 []] (.bool (okParts ps qs)) := by
  refine FnR.mkF Tryz.func120 en120 dg120 Tryz.ntmps120 (by simp) ?_
  simp only [ic120,go_sem]
  with_reducible repeat' (first | refine br ?_ ?_ <;> intro h e <;> (try simp only [e,go_sem]) <;> clear e | rw [i64w (by omega)] | (first | refine sk ?_ | refine sd ?_) <;> try simp only [go_sem] | fail)
  · refine loopN (fun i : Nat => ⟨getL [(1,.sl 4 (qs.map Pc.row)),(2,.fn 121 []),(15,.sl 2 (ps.map Part.row)),(16,.int .i64 ps.length),(17,.int .i64 (i : Int))],getH []⟩) (fun i => ps.length - i) (fun i => i ≤ ps.length ∧ okParts ps qs = okParts (ps.drop i) (qs.drop i)) 0 (leQ []) ⟨Nat.zero_le _,by simp⟩ ?_
    intro i ⟨hi,ha⟩
    simp only [go_sem]
    have hlen : ps.length = qs.length := by omega
    by_cases hil : (i : Int) < ps.length
    · have hst := okParts_drop (show i < ps.length by omega) hlen
      have htx : (ps.getD i default).text.length ≤ 2000000 := by
        have : ps.getD i default = ps[i]'(by omega) := by simp [List.getD,show i < ps.length by omega]
        rw [this]; exact ht _ (List.getElem_mem _)
      simp only [eq_true hil,go_sem]
      refine effG (by omega) ?_
      simp only [go_sem]
      refine effG (by omega) ?_
      simp only [go_sem]
      refine callR (c121 _ _ _ _ _ _ htx) rfl rfl ?_
      simp only [go_sem]
      with_reducible repeat' (first | rw [i64w (by omega)]; try simp only [go_sem] | refine br ?_ ?_ <;> intro h e <;> (try simp only [e,go_sem]) <;> clear e | (first | refine sk ?_ | refine sd ?_) <;> try simp only [go_sem] | fail)
      · refine ⟨i + 1,by omega,⟨by omega, ?_⟩,(leQ [])⟩
        rw [ha,hst,h,Bool.true_and]
      · rw [ha,hst,h,Bool.false_and]
    · simp only [eq_false hil,go_sem]
      have : i = ps.length := by omega
      subst this
      rw [ha,List.drop_length,hlen,List.drop_length]; rfl
  · rw [okParts_ne (by omega)]
def ic55 : IC := sR [oP 1 (.box 89 (.t 0)),oP 2 (.mv (.c (.bool false)))] (.seq (sR [fD 3 0 1,lD 4 1 3,oP 5 (.call 90 [.t 4]),oP 6 (.un .not (.t 5))] (.cond (.t 6) (sR [oP 2 (.mv (.c (.bool false)))] .ret) .skip)) (.seq (.drw [0,1,0,4,12,31,63] [(0,fD 7 1 1),(1,lD 8 1 7),(2,fD 9 0 1),(3,lD 10 1 9),(4,oP 11 (.call 91 [.t 10])),(5,oP 12 (.call 120 [.t 8,.t 11,.c (.fn 121 [])])),(6,mV 2 12)]) .ret))
theorem dg55 : digF Tryz.prog Tryz.f55 = some (ic55,[(.t 2)]) := by kernel_rfl
theorem en55 : entr Tryz.prog 55 = true := by kernel_rfl
theorem c55 (s : Strm) (h : SB s) : FnR Tryz.prog G 55 [.agg [.str s.inn,.sl 2 (s.parts.map Part.row)]] (.bool (strmOk s)) := by
  refine FnR.mkF Tryz.func55 en55 dg55 Tryz.ntmps55 (by simp) ?_
  obtain ⟨h1,h2,h3⟩ := h
  simp only [ic55,go_sem]
  have hp := pieces_len s.inn
  with_reducible repeat' (first | refine br ?_ ?_ <;> intro h e <;> (try simp only [e,go_sem]) <;> clear e | rw [i64w (by omega)] | (first | refine sk ?_ | refine sd ?_) <;> try simp only [go_sem] | (first | refine cr (c90 ..) ?_ | refine cr (c91 ..) ?_) <;> try simp only [go_sem] | fail)
  · refine callR (c120 s.parts (pieces s.inn) h2 (by omega) h3) rfl rfl ?_
    simp only [go_sem]
    with_reducible repeat' (first | refine br ?_ ?_ <;> intro h e <;> (try simp only [e,go_sem]) <;> clear e | rw [i64w (by omega)] | (first | refine sk ?_ | refine sd ?_) <;> try simp only [go_sem] | fail)
    simp_all [strmOk]
  · simp_all [strmOk]
def ic106 : IC := sR [oP 1 (.box 89 (.t 0)),oP 2 (.mv (.c s0))] (sR [oP 3 (.mv (.c s0))] (.seq (sR [oP 4 (.mv (.c i0))] (.block 0 (.loop (.seq (sR [mV 5 4,fD 6 1 1,lD 7 1 6,oP 8 (.len (.t 7)),bN 9 .lss 5 8] (.cond (.t 9) .skip (.exit 0))) (.seq (.block 1 (.reg [mV 12 3,fD 13 1 1,lD 14 1 13,mV 15 4,oP 16 (.iad 2 (.t 14) (.t 15)),fD 17 1 16,lD 18 1 17,bN 19 .add 12 18,mV 3 19])) (.reg [mV 10 4,oP 11 (.bin .add (.t 10) (.c (.int .i64 1))),mV 4 11])))))) (sR [mV 20 3,mV 2 20] .ret)))
theorem dg106 : digF Tryz.prog Tryz.f106 = some (ic106,[(.t 2)]) := by kernel_rfl
theorem en106 : entr Tryz.prog 106 = true := by kernel_rfl
theorem c106 (s : Strm) (h : StrB s) : FnR Tryz.prog G 106 [.agg [.str s.inn,.sl 2 (s.parts.map Part.row)]] (.str (sOut s)) := by
  refine FnR.mkF Tryz.func106 en106 dg106 Tryz.ntmps106 (by simp) ?_
  obtain ⟨h1,h2,h3⟩ := h
  have hol := outL_le (l := s.parts) fun p hp => (h3 p hp).2.2.1
  simp only [ic106,go_sem]
  refine loopN (fun i : Nat => ⟨getL [(1,.pv 1001 0),(3,.str (outL (s.parts.take i))),(4,.int .i64 (i : Int))],getH [(1001,.var 89 [.str s.inn,.sl 2 (s.parts.map Part.row)])]⟩) (fun i => s.parts.length - i) (fun i => i ≤ s.parts.length) 0 (leQ []) (Nat.zero_le _) ?_
  intro i hi
  simp only [go_sem]
  by_cases h : (i : Int) < s.parts.length
  · have hil : i < s.parts.length := by omega
    have hst := outL_step hil
    have ho := hol i
    have h3' := (h3 _ (List.getElem_mem hil)).2.2.1
    have hg : s.parts.getD i default = s.parts[i] := by simp [List.getD,hil]
    simp only [eq_true h,go_sem]
    refine effG (by omega) ?_
    simp only [hg,go_sem]
    with_reducible repeat' (first | rw [i64w (by omega)]; try simp only [go_sem] | refine br ?_ ?_ <;> intro h e <;> (try simp only [e,go_sem]) <;> clear e | (first | refine sk ?_ | refine sd ?_) <;> try simp only [go_sem] | fail)
    exact ⟨i + 1,by omega,by omega,leN [] (by simp only [go_sem,hst]; omega) (by simp only [go_sem]) (by simp [getN]) (by simp only [go_sem])⟩
  · simp only [eq_false h,go_sem]
    have : i = s.parts.length := by omega
    subst this
    rw [List.take_length]; rfl
def ic162 : IC := sR [oP 1 (.box 89 (.t 0)),oP 2 (.mv (.c i0))] (sR [oP 3 (.mv (.c i0))] (.seq (sR [oP 4 (.mv (.c i0))] (.block 0 (.loop (.seq (sR [mV 5 4,fD 6 1 1,lD 7 1 6,oP 8 (.len (.t 7)),bN 9 .lss 5 8] (.cond (.t 9) .skip (.exit 0))) (.seq (.block 1 (.reg [mV 12 3,fD 13 1 1,lD 14 1 13,mV 15 4,oP 16 (.iad 2 (.t 14) (.t 15)),fD 17 0 16,lD 18 1 17,bN 19 .add 12 18,mV 3 19])) (.reg [mV 10 4,oP 11 (.bin .add (.t 10) (.c (.int .i64 1))),mV 4 11])))))) (sR [mV 20 3,mV 2 20] .ret)))
theorem dg162 : digF Tryz.prog Tryz.f162 = some (ic162,[(.t 2)]) := by kernel_rfl
theorem en162 : entr Tryz.prog 162 = true := by kernel_rfl
theorem c162 (s : Strm) (h : StrB s) : FnR Tryz.prog G 162 [.agg [.str s.inn,.sl 2 (s.parts.map Part.row)]] (.int .i64 (doneP s.parts)) := by
  refine FnR.mkF Tryz.func162 en162 dg162 Tryz.ntmps162 (by simp) ?_
  obtain ⟨h1,h2,h3⟩ := h
  have hol := doneL_le (l := s.parts) fun p hp => (h3 p hp).1.2
  simp only [ic162,go_sem]
  refine loopN (fun i : Nat => ⟨getL [(1,.pv 1001 0),(3,.int .i64 (doneP (s.parts.take i))),(4,.int .i64 (i : Int))],getH [(1001,.var 89 [.str s.inn,.sl 2 (s.parts.map Part.row)])]⟩) (fun i => s.parts.length - i) (fun i => i ≤ s.parts.length) 0 (leQ []) (Nat.zero_le _) ?_
  intro i hi
  simp only [go_sem]
  by_cases h : (i : Int) < s.parts.length
  · have hil : i < s.parts.length := by omega
    have hst := doneL_step hil
    have ho := hol i
    have h3' := (h3 _ (List.getElem_mem hil)).1
    have hg : s.parts.getD i default = s.parts[i] := by simp [List.getD,hil]
    simp only [eq_true h,go_sem]
    refine effG (by omega) ?_
    simp only [hg,go_sem]
    with_reducible repeat' (first | rw [i64w (by omega)]; try simp only [go_sem] | refine br ?_ ?_ <;> intro h e <;> (try simp only [e,go_sem]) <;> clear e | (first | refine sk ?_ | refine sd ?_) <;> try simp only [go_sem] | fail)
    exact ⟨i + 1,by omega,by omega,leN [] (by simp only [go_sem,hst]; omega) (by simp only [go_sem]) (by simp [getN]) (by simp only [go_sem])⟩
  · simp only [eq_false h,go_sem]
    have : i = s.parts.length := by omega
    subst this
    rw [List.take_length]
def ic166 : IC := sR [oP 2 (.box 89 (.t 0)),oP 4 (.mv (.c i0))] (sR [oP 5 (.mv (.c i0))] (.seq (sR [oP 6 (.mv (.c i0))] (.block 0 (.loop (.seq (sR [mV 7 6,fD 8 1 2,lD 9 1 8,oP 10 (.len (.t 9)),bN 11 .lss 7 10,mV 12 11,⟨some 13,some (12,true),.fad 1 (.t 2)⟩,⟨some 14,some (12,true),.ld 1 false (.t 13)⟩,⟨some 15,some (12,true),.mv (.t 6)⟩,⟨some 16,some (12,true),.iad 2 (.t 14) (.t 15)⟩,⟨some 17,some (12,true),.fad 0 (.t 16)⟩,⟨some 18,some (12,true),.ld 1 false (.t 17)⟩,⟨some 19,some (12,true),.mv (.t 1)⟩,⟨some 20,some (12,true),.bin .leq (.t 18) (.t 19)⟩,oP 21 (.pick (.t 12) (.t 20) (.c (.bool false)))] (.cond (.t 21) .skip (.exit 0))) (.seq (.block 1 (sR [mV 24 1,fD 25 1 2,lD 26 1 25,mV 27 6,oP 28 (.iad 2 (.t 26) (.t 27)),fD 29 0 28,lD 30 1 29,bN 31 .sub 24 30,mV 1 31] (.reg [mV 32 5,fD 33 1 2,lD 34 1 33,mV 35 6,oP 36 (.iad 2 (.t 34) (.t 35)),fD 37 1 36,lD 38 1 37,oP 39 (.lens (.t 38)),bN 40 .add 32 39,mV 5 40]))) (.reg [mV 22 6,oP 23 (.bin .add (.t 22) (.c (.int .i64 1))),mV 6 23])))))) (sR [mV 41 5,mV 4 41] .ret)))
theorem dg166 : digF Tryz.prog Tryz.f166 = some (ic166,[(.t 4)]) := by kernel_rfl
theorem en166 : entr Tryz.prog 166 = true := by kernel_rfl
theorem c166 (s : Strm) (n : Int) (h : StrB s) (hn : -10000 ≤ n ∧ n ≤ 10000) : FnR Tryz.prog G 166 [.agg [.str s.inn,.sl 2 (s.parts.map Part.row)],.int .i64 n] (.int .i64 (forP s.parts n)) := by
  refine FnR.mkF Tryz.func166 en166 dg166 Tryz.ntmps166 (by simp) ?_
  obtain ⟨h1,h2,h3⟩ := h
  simp only [ic166,go_sem]
  refine loopN (fun a : Nat × Int × Int => ⟨getL [(1,.int .i64 a.2.1),(2,.pv 1002 0),(5,.int .i64 a.2.2),(6,.int .i64 (a.1 : Int))],getH [(1002,.var 89 [.str s.inn,.sl 2 (s.parts.map Part.row)])]⟩) (fun a => s.parts.length - a.1)
    (fun a => a.1 ≤ s.parts.length ∧ forP s.parts n = a.2.2 + forP (s.parts.drop a.1) a.2.1 ∧ (-20000 ≤ a.2.1 ∧ a.2.1 ≤ 10000) ∧ -10000 - 6 * a.1 ≤ a.2.1 ∧ 0 ≤ a.2.2 ∧ a.2.2 ≤ 6 * a.1) (0,n,0) (leQ []) ⟨Nat.zero_le _,by simp,⟨by simp; omega,by simp; omega⟩,by simp; omega,by simp,by simp⟩ ?_
  intro ⟨i,x,y⟩ ⟨hi,ha,hx,hx2,hy,hy2⟩
  simp only at hi ha hx hx2 hy hy2
  simp only [go_sem]
  by_cases h : (i : Int) < s.parts.length
  · have hil : i < s.parts.length := by omega
    have h3' := h3 _ (List.getElem_mem hil)
    have hg : s.parts.getD i default = s.parts[i] := by simp [List.getD,hil]
    rw [List.drop_eq_getElem_cons hil] at ha
    simp only [forP] at ha
    simp only [eq_true h,go_sem]
    refine effG (by omega) ?_
    simp only [hg,go_sem]
    with_reducible repeat' (first | rw [i64w (by omega)]; try simp only [go_sem,hg] | refine br ?_ ?_ <;> intro h e <;> (try simp only [e,go_sem,hg]) <;> clear e | (first | refine sk ?_ | refine sd ?_) <;> try simp only [go_sem,hg] | fail)
    · rw [if_pos h] at ha
      exact ⟨(i + 1,x - s.parts[i].size,y + s.parts[i].text.length),by simp; omega,⟨by simp; omega,by simp only; rw [ha]; omega,by simp only; omega,by simp only; omega,by simp only; omega,by simp only; omega⟩,(leQ [])⟩
    · rw [if_neg h] at ha
      rw [ha]; omega
  · simp only [eq_false h,go_sem]
    have : i = s.parts.length := by omega
    subst this
    rw [ha,List.drop_length]; simp [forP]
def ic107 : IC := sR [oP 2 (.box 89 (.t 0)),oP 4 (.mv (.c i0))] (sR [oP 5 (.mv (.c i0))] (.seq (sR [oP 6 (.mv (.c i0))] (.block 0 (.loop (.seq (sR [mV 7 6,fD 8 1 2,lD 9 1 8,oP 10 (.len (.t 9)),bN 11 .lss 7 10,mV 12 11,⟨some 13,some (12,true),.fad 1 (.t 2)⟩,⟨some 14,some (12,true),.ld 1 false (.t 13)⟩,⟨some 15,some (12,true),.mv (.t 6)⟩,⟨some 16,some (12,true),.iad 2 (.t 14) (.t 15)⟩,⟨some 17,some (12,true),.fad 1 (.t 16)⟩,⟨some 18,some (12,true),.ld 1 false (.t 17)⟩,⟨some 19,some (12,true),.lens (.t 18)⟩,⟨some 20,some (12,true),.mv (.t 1)⟩,⟨some 21,some (12,true),.bin .leq (.t 19) (.t 20)⟩,oP 22 (.pick (.t 12) (.t 21) (.c (.bool false)))] (.cond (.t 22) .skip (.exit 0))) (.seq (.block 1 (sR [mV 25 1,fD 26 1 2,lD 27 1 26,mV 28 6,oP 29 (.iad 2 (.t 27) (.t 28)),fD 30 1 29,lD 31 1 30,oP 32 (.lens (.t 31)),bN 33 .sub 25 32,mV 1 33] (.reg [mV 34 5,fD 35 1 2,lD 36 1 35,mV 37 6,oP 38 (.iad 2 (.t 36) (.t 37)),fD 39 0 38,lD 40 1 39,bN 41 .add 34 40,mV 5 41]))) (.reg [mV 23 6,oP 24 (.bin .add (.t 23) (.c (.int .i64 1))),mV 6 24])))))) (sR [mV 42 5,mV 4 42] .ret)))
theorem dg107 : digF Tryz.prog Tryz.f107 = some (ic107,[(.t 4)]) := by kernel_rfl
theorem en107 : entr Tryz.prog 107 = true := by kernel_rfl
theorem c107 (s : Strm) (n : Int) (h : StrB s) (hn : -10000 ≤ n ∧ n ≤ 10000) : FnR Tryz.prog G 107 [.agg [.str s.inn,.sl 2 (s.parts.map Part.row)],.int .i64 n] (.int .i64 (backP s.parts n)) := by
  refine FnR.mkF Tryz.func107 en107 dg107 Tryz.ntmps107 (by simp) ?_
  obtain ⟨h1,h2,h3⟩ := h
  simp only [ic107,go_sem]
  refine loopN (fun a : Nat × Int × Int => ⟨getL [(1,.int .i64 a.2.1),(2,.pv 1002 0),(5,.int .i64 a.2.2),(6,.int .i64 (a.1 : Int))],getH [(1002,.var 89 [.str s.inn,.sl 2 (s.parts.map Part.row)])]⟩) (fun a => s.parts.length - a.1)
    (fun a => a.1 ≤ s.parts.length ∧ backP s.parts n = a.2.2 + backP (s.parts.drop a.1) a.2.1 ∧ (-20000 ≤ a.2.1 ∧ a.2.1 ≤ 10000) ∧ -10000 - 6 * a.1 ≤ a.2.1 ∧ 0 ≤ a.2.2 ∧ a.2.2 ≤ 6 * a.1) (0,n,0) (leQ []) ⟨Nat.zero_le _,by simp,⟨by simp; omega,by simp; omega⟩,by simp; omega,by simp,by simp⟩ ?_
  intro ⟨i,x,y⟩ ⟨hi,ha,hx,hx2,hy,hy2⟩
  simp only at hi ha hx hx2 hy hy2
  simp only [go_sem]
  by_cases h : (i : Int) < s.parts.length
  · have hil : i < s.parts.length := by omega
    have h3' := h3 _ (List.getElem_mem hil)
    have hg : s.parts.getD i default = s.parts[i] := by simp [List.getD,hil]
    rw [List.drop_eq_getElem_cons hil] at ha
    simp only [backP] at ha
    simp only [eq_true h,go_sem]
    refine effG (by omega) ?_
    simp only [hg,go_sem]
    with_reducible repeat' (first | rw [i64w (by omega)]; try simp only [go_sem,hg] | refine br ?_ ?_ <;> intro h e <;> (try simp only [e,go_sem,hg]) <;> clear e | (first | refine sk ?_ | refine sd ?_) <;> try simp only [go_sem,hg] | fail)
    · rw [if_pos h] at ha
      exact ⟨(i + 1,x - s.parts[i].text.length,y + s.parts[i].size),by simp; omega,⟨by simp; omega,by simp only; rw [ha]; omega,by simp only; omega,by simp only; omega,by simp only; omega,by simp only; omega⟩,(leQ [])⟩
    · rw [if_neg h] at ha
      rw [ha]; omega
  · simp only [eq_false h,go_sem]
    have : i = s.parts.length := by omega
    subst this
    rw [ha,List.drop_length]; simp [backP]
def ic173 : IC := sR [oP 2 (.box 89 (.t 0)),oP 4 (.mv (.c i0))] (sR [oP 5 (.mv (.c i0))] (.seq (sR [fD 8 1 2,lD 9 1 8,oP 10 (.len (.t 9)),oP 11 (.mv (.c i0))] (.block 0 (.loop (sR [bN 12 .lss 11 10] (.seq (.cond (.t 12) .skip (.exit 0)) (.seq (.block 1 (sR [oP 13 (.iad 2 (.t 9) (.t 11)),lA 14 2 13,oP 7 (.alloc 163 [i0,s0]),nP (.sto 2 (.t 7) (.t 14))] (.seq (sR [mV 15 1,fD 16 0 7,lD 17 1 16,bN 18 .sub 15 17,mV 1 18] (sR [mV 19 1,oP 20 (.bin .lss (.t 19) (.c i0))] (.cond (.t 20) (.exit 0) .skip))) (.reg [mV 21 5,fD 22 1 7,lD 23 1 22,oP 24 (.lens (.t 23)),bN 25 .add 21 24,mV 5 25])))) (.reg [oP 26 (.bin .add (.t 11) (.c (.int .i64 1))),mV 11 26]))))))) (sR [mV 27 5,mV 4 27] .ret)))
theorem dg173 : digF Tryz.prog Tryz.f173 = some (ic173,[(.t 4)]) := by kernel_rfl
theorem en173 : entr Tryz.prog 173 = true := by kernel_rfl
theorem c173 (s : Strm) (n : Int) (h : StrB s) (hn : -10000 ≤ n ∧ n ≤ 10000) : FnR Tryz.prog G 173 [.agg [.str s.inn,.sl 2 (s.parts.map Part.row)],.int .i64 n] (.int .i64 (forP s.parts n)) := by
  refine FnR.mkF Tryz.func173 en173 dg173 Tryz.ntmps173 (by simp) ?_
  obtain ⟨h1,h2,h3⟩ := h
  simp only [ic173,go_sem]
  refine loopN (fun a : Nat × Int × Int => ⟨getL [(1,.int .i64 a.2.1),(5,.int .i64 a.2.2),(9,.sl 2 (s.parts.map Part.row)),(10,.int .i64 s.parts.length),(11,.int .i64 (a.1 : Int))],getH []⟩) (fun a => s.parts.length - a.1)
    (fun a => a.1 ≤ s.parts.length ∧ forP s.parts n = a.2.2 + forP (s.parts.drop a.1) a.2.1 ∧ (-20000 ≤ a.2.1 ∧ a.2.1 ≤ 10000) ∧ -10000 - 6 * a.1 ≤ a.2.1 ∧ 0 ≤ a.2.2 ∧ a.2.2 ≤ 6 * a.1) (0,n,0) (leQ []) ⟨Nat.zero_le _,by simp,⟨by simp; omega,by simp; omega⟩,by simp; omega,by simp,by simp⟩ ?_
  intro ⟨i,x,y⟩ ⟨hi,ha,hx,hx2,hy,hy2⟩
  simp only at hi ha hx hx2 hy hy2
  simp only [go_sem]
  by_cases h : (i : Int) < s.parts.length
  · have hil : i < s.parts.length := by omega
    have h3' := h3 _ (List.getElem_mem hil)
    have hg : s.parts.getD i default = s.parts[i] := by simp [List.getD,hil]
    rw [List.drop_eq_getElem_cons hil] at ha
    simp only [forP] at ha
    simp only [eq_true h,go_sem]
    refine effG (by omega) ?_
    simp only [hg,go_sem]
    with_reducible repeat' (first | rw [i64w (by omega)]; try simp only [go_sem,hg] | refine br ?_ ?_ <;> intro h e <;> (try simp only [e,go_sem,hg]) <;> clear e | (first | refine sk ?_ | refine sd ?_) <;> try simp only [go_sem,hg] | fail)
    · rw [if_neg (by omega)] at ha
      rw [ha]; omega
    · rw [if_pos (by omega)] at ha
      exact ⟨(i + 1,x - s.parts[i].size,y + s.parts[i].text.length),by simp; omega,⟨by simp; omega,by simp only; rw [ha]; omega,by simp only; omega,by simp only; omega,by simp only; omega,by simp only; omega⟩,(leQ [])⟩
  · simp only [eq_false h,go_sem]
    have : i = s.parts.length := by omega
    subst this
    rw [ha,List.drop_length]; simp [forP]
def ic171 : IC := sR [oP 2 (.box 89 (.t 0)),oP 4 (.mv (.c i0))] (sR [oP 5 (.mv (.c i0))] (.seq (sR [fD 8 1 2,lD 9 1 8,oP 10 (.len (.t 9)),oP 11 (.mv (.c i0))] (.block 0 (.loop (sR [bN 12 .lss 11 10] (.seq (.cond (.t 12) .skip (.exit 0)) (.seq (.block 1 (sR [oP 13 (.iad 2 (.t 9) (.t 11)),lA 14 2 13,oP 7 (.alloc 163 [i0,s0]),nP (.sto 2 (.t 7) (.t 14))] (.seq (sR [mV 15 1,fD 16 1 7,lD 17 1 16,oP 18 (.lens (.t 17)),bN 19 .sub 15 18,mV 1 19] (sR [mV 20 1,oP 21 (.bin .lss (.t 20) (.c i0))] (.cond (.t 21) (.exit 0) .skip))) (.reg [mV 22 5,fD 23 0 7,lD 24 1 23,bN 25 .add 22 24,mV 5 25])))) (.reg [oP 26 (.bin .add (.t 11) (.c (.int .i64 1))),mV 11 26]))))))) (sR [mV 27 5,mV 4 27] .ret)))
theorem dg171 : digF Tryz.prog Tryz.f171 = some (ic171,[(.t 4)]) := by kernel_rfl
theorem en171 : entr Tryz.prog 171 = true := by kernel_rfl
theorem c171 (s : Strm) (n : Int) (h : StrB s) (hn : -10000 ≤ n ∧ n ≤ 10000) : FnR Tryz.prog G 171 [.agg [.str s.inn,.sl 2 (s.parts.map Part.row)],.int .i64 n] (.int .i64 (backP s.parts n)) := by
  refine FnR.mkF Tryz.func171 en171 dg171 Tryz.ntmps171 (by simp) ?_
  obtain ⟨h1,h2,h3⟩ := h
  simp only [ic171,go_sem]
  refine loopN (fun a : Nat × Int × Int => ⟨getL [(1,.int .i64 a.2.1),(5,.int .i64 a.2.2),(9,.sl 2 (s.parts.map Part.row)),(10,.int .i64 s.parts.length),(11,.int .i64 (a.1 : Int))],getH []⟩) (fun a => s.parts.length - a.1)
    (fun a => a.1 ≤ s.parts.length ∧ backP s.parts n = a.2.2 + backP (s.parts.drop a.1) a.2.1 ∧ (-20000 ≤ a.2.1 ∧ a.2.1 ≤ 10000) ∧ -10000 - 6 * a.1 ≤ a.2.1 ∧ 0 ≤ a.2.2 ∧ a.2.2 ≤ 6 * a.1) (0,n,0) (leQ []) ⟨Nat.zero_le _,by simp,⟨by simp; omega,by simp; omega⟩,by simp; omega,by simp,by simp⟩ ?_
  intro ⟨i,x,y⟩ ⟨hi,ha,hx,hx2,hy,hy2⟩
  simp only at hi ha hx hx2 hy hy2
  simp only [go_sem]
  by_cases h : (i : Int) < s.parts.length
  · have hil : i < s.parts.length := by omega
    have h3' := h3 _ (List.getElem_mem hil)
    have hg : s.parts.getD i default = s.parts[i] := by simp [List.getD,hil]
    rw [List.drop_eq_getElem_cons hil] at ha
    simp only [backP] at ha
    simp only [eq_true h,go_sem]
    refine effG (by omega) ?_
    simp only [hg,go_sem]
    with_reducible repeat' (first | rw [i64w (by omega)]; try simp only [go_sem,hg] | refine br ?_ ?_ <;> intro h e <;> (try simp only [e,go_sem,hg]) <;> clear e | (first | refine sk ?_ | refine sd ?_) <;> try simp only [go_sem,hg] | fail)
    · rw [if_neg (by omega)] at ha
      rw [ha]; omega
    · rw [if_pos (by omega)] at ha
      exact ⟨(i + 1,x - s.parts[i].text.length,y + s.parts[i].size),by simp; omega,⟨by simp; omega,by simp only; rw [ha]; omega,by simp only; omega,by simp only; omega,by simp only; omega,by simp only; omega⟩,(leQ [])⟩
  · simp only [eq_false h,go_sem]
    have : i = s.parts.length := by omega
    subst this
    rw [ha,List.drop_length]; simp [backP]
def ic169 : IC := sR [oP 1 (.box 89 (.t 0)),oP 2 (.alloc 89 [s0,.nils])] (.seq (.drw [0,1,0,4,12,28,63,127] [(0,fD 3 0 1),(1,lD 4 1 3),(2,fD 5 1 1),(3,lD 6 1 5),(4,oP 7 (.call 203 [.t 6])),(5,oP 8 (.call 202 [.t 7])),(6,oP 9 (.build [s0,.nils] [(0,(1,.t 4)),(1,(1,.t 8))])),(7,nP (.sto 2 (.t 2) (.t 9)))]) .ret)
theorem dg169 : digF Tryz.prog Tryz.f169 = some (ic169,[(.cell 2 2 true)]) := by kernel_rfl
theorem en169 : entr Tryz.prog 169 = true := by kernel_rfl
theorem c169 (t : B) (rows : List (List V)) (hr : rows.length ≤ 2000000) : FnR Tryz.prog G 169 [.agg [.str t,.sl 2 rows]] (.agg [.str t,.sl 2 rows]) := by
  refine FnR.mkF Tryz.func169 en169 dg169 Tryz.ntmps169 (by simp) ?_
  simp only [ic169,go_sem]
  repeat' (first
    | (with_reducible refine chkI ?_ ?_; · kernel_rfl; try simp only [go_sem])
    | (refine callO (c203 rows hr) [] 7 1 (by simp only [go_sem]; first | done | simp) (by simp) (by rintro _ _ ⟨rfl,rfl⟩; simp) (by intro i hi; obtain rfl : i = 0 := (by omega); simp only [go_sem]) ?_; rintro _ _ ⟨rfl,rfl⟩; simp only [go_sem])
    | (refine callU (o202 rows rows.length rfl) [100700] [] 8 1 (by simp only [go_sem]; first | done | simp) (by simp only [go_sem]; first | done | simp) (by simp) (by simp) (by rintro _ _ ⟨rfl,rfl⟩; simp) (by intro i hi; obtain rfl : i = 0 := (by omega); simp only [go_sem]) ?_; rintro _ _ ⟨rfl,rfl⟩; simp only [go_sem])
    | kernel_rfl)
def ic111 : IC := sR [oP 1 (.box 89 (.t 0)),oP 2 (.alloc 89 [s0,.nils])] (.seq (.drw [0,1,0,0,8,28,63,127] [(0,fD 3 0 1),(1,lD 4 1 3),(2,oP 5 (.bsl 163 2 [])),(3,fD 6 1 1),(4,lD 7 1 6),(5,oP 8 (.app 163 2 (.t 5) (.t 7))),(6,oP 9 (.build [s0,.nils] [(0,(1,.t 4)),(1,(1,.t 8))])),(7,nP (.sto 2 (.t 2) (.t 9)))]) .ret)
theorem dg111 : digF Tryz.prog Tryz.f111 = some (ic111,[(.cell 2 2 true)]) := by kernel_rfl
theorem en111 : entr Tryz.prog 111 = true := by kernel_rfl
theorem c111 (t : B) (rows : List (List V)) (hr : rows.length ≤ 2000000) : FnR Tryz.prog G 111 [.agg [.str t,.sl 2 rows]] (.agg [.str t,.sl 2 rows]) := by
  refine FnR.mkF Tryz.func111 en111 dg111 Tryz.ntmps111 (by simp) ?_
  simp only [ic111,go_sem]
  with_reducible repeat' (first | refine br ?_ ?_ <;> intro h e <;> (try simp only [e,go_sem]) <;> clear e | rw [i64w (by omega)] | (first | refine sk ?_ | refine sd ?_) <;> try simp only [go_sem] | fail)
end Go.Proofs.YtblndjmhjaijjaaGreatDoor.W
namespace Go.Proofs.YtblndjmhjaijjaaGreatDoor.M
structure PutI (m : List Pair) (s : Strm) (inn : B) (out : Bool) (mm : List Pair) (ts : List B) (i d : Nat) : Prop where
  hk : s.parts.length ≤ i
  hi : i ≤ (pieces inn).length
  hp : PortsOk mm
  ml : mm.length ≤ m.length + i
  ht : s.parts.length + ts.length = i
  hd : d ≤ inn.length
  f : fits ((pieces inn).drop i) (inn.drop d)
  o : out = false → mm = m
  e : turned m ((pieces inn).drop s.parts.length) (inn.drop (doneP s.parts)) out = ((turned mm ((pieces inn).drop i) (inn.drop d) out).1,ts ++ (turned mm ((pieces inn).drop i) (inn.drop d) out).2)
theorem mkParts_app : ∀ (l : List Pc) (ts : List B) (b : B),ts.length < l.length → mkParts l (ts ++ [b]) = mkParts l ts ++ [⟨(l.getD ts.length default).size,b⟩]
  | [],ts,b,h => by simp at h
  | p :: ps,[],b,_ => by simp [mkParts]
  | p :: ps,t :: ts,b,h => by
    have := mkParts_app ps ts b (by simpa using h)
    simp [mkParts,this]
theorem mkParts_len2 : ∀ (l : List Pc) (ts : List B),ts.length ≤ l.length → (mkParts l ts).length = ts.length
  | [],ts,h => by simp at h; subst h; rfl
  | p :: ps,[],_ => rfl
  | p :: ps,t :: ts,h => by simp [mkParts,mkParts_len2 ps ts (by simpa using h)]
theorem PutI.step {m : List Pair} {s : Strm} {inn : B} {out : Bool} {mm : List Pair} {ts : List B} {i d : Nat} (h : PutI m s inn out mm ts i d) (hi : i < (pieces inn).length) :
    d + ((pieces inn).getD i default).size ≤ inn.length ∧
    PutI m s inn out (turn mm ((pieces inn).getD i default) ((inn.drop d).take ((pieces inn).getD i default).size) out).1 (ts ++ [(turn mm ((pieces inn).getD i default) ((inn.drop d).take ((pieces inn).getD i default).size) out).2]) (i + 1) (d + ((pieces inn).getD i default).size) := by
  have hg : (pieces inn).getD i default = (pieces inn)[i] := by simp [List.getD,hi]
  obtain ⟨h1,h2,h3,h4,h5,h6,h7,h8,h9⟩ := h
  rw [hg]
  rw [List.drop_eq_getElem_cons hi] at h7 h9
  generalize (pieces inn)[i] = q at *
  obtain ⟨f1,f2⟩ := h7
  rw [List.length_drop] at f1
  have htl := turn_len mm q ((inn.drop d).take q.size) out
  refine ⟨by omega,by omega,by omega,h3.turn q _ out,by omega,by simp; omega,by omega,by rwa [List.drop_drop] at f2,fun hf => by subst hf; exact h8 rfl, ?_⟩
  rw [h9]
  simp only [turned,List.drop_drop,List.append_assoc,List.singleton_append]
theorem PutI.init {m : List Pair} {s : Strm} {x : B} {out : Bool} (hm : PortsOk m) (hs : strmOk s = true) : PutI m s (s.inn ++ x) out m [] s.parts.length (doneP s.parts) := by
  obtain ⟨f1,f2,f3,f4⟩ := put_fits hs x
  exact ⟨Nat.le_refl _,f1,hm,by omega,by simp,f3,f4,fun _ => rfl,by simp⟩
theorem PutI.done {m : List Pair} {s : Strm} {inn : B} {out : Bool} {mm : List Pair} {ts : List B} {d : Nat} (h : PutI m s inn out mm ts (pieces inn).length d) :
    turned m ((pieces inn).drop s.parts.length) (inn.drop (doneP s.parts)) out = (mm,ts) := by
  rw [h.e,List.drop_length]; simp [turned]
theorem put_done {m : List Pair} {s : Strm} {n : Int} {t : B} {out : Bool} {mm : List Pair} {ts : List B} {d : Nat} (hb : (behind s.inn n t).2 = true) (h : PutI m s (behind s.inn n t).1 out mm ts (pieces (behind s.inn n t).1).length d) :
    put m s n t out = (mm,⟨(behind s.inn n t).1,s.parts ++ mkParts ((pieces (behind s.inn n t).1).drop s.parts.length) ts⟩,true) := by
  simp [put,hb,h.done]
end Go.Proofs.YtblndjmhjaijjaaGreatDoor.M
namespace Go.Proofs.YtblndjmhjaijjaaGreatDoor.M
def ixI (o : Option Nat) : Int := match o with
  | some k => k
  | none => -1
theorem flowIx_cons (f : Flw) (fs : List Flw) (i o : E) : flowIx (f :: fs) i o = if f.ins = i ∧ f.out = o then some 0 else (flowIx fs i o).map (· + 1) := by
  unfold flowIx
  rw [List.findIdx?_cons]
  by_cases h1 : f.ins = i <;> by_cases h2 : f.out = o <;> simp [h1,h2]
theorem flowIx_nil (i o : E) : flowIx [] i o = none := rfl
def sameF (i o : E) (f : Flw) : Bool := decide (f.ins = i) && decide (f.out = o)
theorem flowIx_none : ∀ {fs : List Flw} {i o : E},flowIx fs i o = none ↔ fs.any (sameF i o) = false
  | [],i,o => by simp [flowIx_nil]
  | f :: fs,i,o => by
    rw [flowIx_cons]
    have := flowIx_none (fs := fs) (i := i) (o := o)
    by_cases h : f.ins = i ∧ f.out = o
    · rw [if_pos h]; simp [sameF,h]
    · rw [if_neg h]
      have hs : sameF i o f = false := by rw [sameF,← Bool.decide_and]; simpa using h
      simp [hs,this]
theorem flowIx_some : ∀ {fs : List Flw} {i o : E} {k : Nat},flowIx fs i o = some k → ∃ f,fs[k]? = some f ∧ f.ins = i ∧ f.out = o ∧ (fs.take k).any (sameF i o) = false
  | [],i,o,k,h => by simp [flowIx_nil] at h
  | f :: fs,i,o,k,h => by
    rw [flowIx_cons] at h
    by_cases hc : f.ins = i ∧ f.out = o
    · rw [if_pos hc] at h; cases h; exact ⟨f,rfl,hc.1,hc.2,rfl⟩
    · rw [if_neg hc] at h
      cases hx : flowIx fs i o with
      | none => rw [hx] at h; cases h
      | some j =>
        rw [hx] at h; cases h
        obtain ⟨g,h1,h2,h3,h4⟩ := flowIx_some hx
        have hs : sameF i o f = false := by rw [sameF,← Bool.decide_and]; simpa using hc
        exact ⟨g,by simpa using h1,h2,h3,by simp [hs,h4]⟩
theorem flowIx_at : ∀ {fs : List Flw} {i o : E} {k : Nat} {f : Flw},fs[k]? = some f → f.ins = i → f.out = o → (fs.take k).any (sameF i o) = false → flowIx fs i o = some k
  | [],i,o,k,f,h,_,_,_ => by simp at h
  | g :: fs,i,o,0,f,h,h1,h2,_ => by
    simp at h; subst h; rw [flowIx_cons,if_pos ⟨h1,h2⟩]
  | g :: fs,i,o,k + 1,f,h,h1,h2,h3 => by
    simp only [List.take_succ_cons,List.any_cons,Bool.or_eq_false_iff] at h3
    have hn : ¬ (g.ins = i ∧ g.out = o) := fun hc => by
      have := h3.1; rw [sameF,hc.1,hc.2] at this; simp at this
    rw [flowIx_cons,if_neg hn,flowIx_at (by simpa using h) h1 h2 h3.2]; rfl
theorem ixI_lt {o : Option Nat} : ixI o < 0 ↔ o = none := by
  cases o with
  | none => simp [ixI]
  | some k => simp only [ixI,reduceCtorEq,iff_false]; omega
theorem okFlow_i {d : Door} {k : Nat} (h : k < d.flows.length) : okFlow d k = (d.map.any (fun p => decide (p.ins = d.flows[k].ins)) && d.flows[k].out.outside && strmOk d.flows[k].up && strmOk d.flows[k].down && !(d.flows.take k).any (sameF d.flows[k].ins d.flows[k].out)) := by
  unfold okFlow
  rw [List.getElem?_eq_getElem h]
  rfl
theorem doorOk_bad {d : Door} {k : Nat} (h : k < d.flows.length) (hb : okFlow d k = false) : doorOk d = false := by
  have : (List.range d.flows.length).all (okFlow d) = false := by
    rw [List.all_eq_false]; exact ⟨k,List.mem_range.2 h,by simp [hb]⟩
  simp [doorOk,this]
theorem doorOk_iff {d : Door} : doorOk d = true ↔ mapOk d.map = true ∧ d.flows.length ≤ 4 ∧ ∀ k,k < d.flows.length → okFlow d k = true := by
  simp [doorOk,List.all_eq_true,and_assoc]
theorem portOf_zero {m : List Pair} (hp : ∀ p ∈ m,p.port ≠ 0) (e : E) : portOf m e = 0 ↔ m.any (fun p => decide (p.ins = e)) = false := by
  unfold portOf
  cases hf : m.find? fun p => decide (p.ins = e) with
  | none =>
    rw [List.find?_eq_none] at hf
    simp only [List.any_eq_false,true_iff]
    exact hf
  | some p =>
    have h1 := List.find?_some hf
    have h2 := List.mem_of_find?_eq_some hf
    simp only [hp p h2,false_iff,Bool.not_eq_false,List.any_eq_true]
    exact ⟨p,h2,h1⟩
def DB (d : Door) : Prop := d.map.length ≤ 2000000 ∧ d.flows.length ≤ 2000000 ∧ ∀ f ∈ d.flows,SB f.up ∧ SB f.down
end Go.Proofs.YtblndjmhjaijjaaGreatDoor.M
namespace Go.Proofs.YtblndjmhjaijjaaGreatDoor.W
open Go Go.RowKit Go.Proofs Go.Proofs.YtblndjmhjaijjaaGreatDoor.VL Go.Proofs.YtblndjmhjaijjaaGreatDoor.M
attribute [local congr] optK_congr guardK_congr condK_congr runT_congr runD_congr wpI_congr CallV_congr LoopI_congr pureK_congr effK_congr calK_congr stepV_congr doV_congr exN_congr exB_congr retF_congr retQ_congr gK_congr condW_congr ldK_congr stoK_congr
attribute [local go_sem] argL_cons argL_nil argH_nil argH_cons chH_getH wpI_seq wpI_reg wpI_drw wpI_ret cond_k condW_t condW_f wpI_skip wpI_block wpI_exit wpI_loop exN_n exN_r exN_e exB_n exB_r exB_h exB_m runT_k kT_e runT_nil runD_k kD_e runD_nil step_u step_k gK_t gK_f do_mv do_bino bo_add bo_sub bo_mul bo_subu bo_quo bo_rem bo_xor bo_eql bo_neq bo_lss bo_leq bo_gtr bo_geq bo_cat bo_eqs bo_nes do_pick do_call do_cal calK_f do_box do_alloc do_ldk ldK_s do_stok stoK_s do_fad do_nilc do_not do_neg do_len do_lens do_ext do_eqs do_beq do_isn do_cvi do_sls do_idx do_mn do_mx do_build do_mkf do_s2b do_b2s do_slv do_iad do_bsl do_mks do_app ev_t ev_c app_some app_none
attribute [local go_sem] List.nil_append List.cons_append List.append_nil getL_hit getL_miss getH_nil getH_hit getH_miss nm_eq ne_eq Nat.reduceEqDiff not_false_eq_true Nat.reduceAdd Nat.add_zero Nat.zero_add if_true if_false ite_true ite_false pureK_s effK_s optK_s gdV_t gdV_f gdV_s pick_b ge_iff_le gt_iff_lt cond_true cond_false fresh_k cells_agg cells_int cells_bool cells_str cells_own cells_sl cells_nils ld_pv ld_pa ld_ip ldVar_t ldVar_f ldArr_t ldArr_f ldRow_t ldRow_f ldA_s ld1_s fad_pv fad_pa fad_ip nilc_pv nilc_pa nilc_ip not_b neg_i cvi_i ext_t retF_n retF_r
attribute [local go_sem] resV_k rvs_nil rvs_t rvs_c fstO_s consO_s resK_s resL_1 resL_2 resL_3 resL_4  Option.some.injEq List.map_cons List.map_nil List.all_cons List.all_nil Bool.and_true Bool.and_self Bool.not_true Bool.not_false Option.map_some Option.map_none sls_s slsG_s loV_n loV_i hiV_n hiV_i idx_s mn_i mx_i s2b_s b2s_s bytO_s bytes_nil bytes_cons conB_s slv_sl slv_own slv_nils slvG_s slvN_s slvO_s iad_sl iadG_map take_map drop_map List.length_map iad_own iad_view iadO_a iadW_a mks_i rowO_nils rowO_sl rowO_own rowA_a eq_self appG_nils appG_own appO_a guardP_T mapA_s bld_nil mkf_nil bldF_e fill_nil fill_cons mkf_e lens_s len_nils len_sl len_own len_view isn_nile isn_erre List.getElem?_cons_zero List.getElem?_cons_succ List.length_cons List.length_nil decide_true decide_false Int.toNat_natCast Int.cast_ofNat_Int Int.reduceLT Int.reduceLE Int.reduceEq Int.reduceAdd Int.reduceSub Int.reduceMul Int.reduceNeg Int.reduceToNat List.getD_cons_zero List.getD_cons_succ not_true_eq_false not_false_eq_true Bool.false_eq_true Bool.true_eq_false reduceCtorEq
attribute [local go_sem] E.row Pc.row Pair.row Part.row Strm.row Flw.row Pk.row Door.row Conv.row World.row Ev.row rdV E.eta Pc.eta Pair.eta Part.eta Strm.eta Pk.eta Flw.eta Conv.eta Door.eta World.eta Ev.eta
attribute [local go_sem] sub_ok st_pv st_pa stVar_v stArr_a Nat.le_refl List.drop_zero List.drop_succ_cons List.take_succ_cons List.take_zero setR Nat.reduceLeDiff
attribute [local go_sem] wk_bot wk2_bot wk1_bot wk_undef wk_tup_e wk2_agg_e wk_agg_e wk1_fn_e wk2_fn_e wk_fn_e wkl_nil wkl_cons wkh_var_e wkh_arr_e wkh_fresh_e wkh_dead_v wkh_dead_a wkh_dead_d wk0_undef wk0_int wk0_bool wk0_str wk0_nils wk0_nils_sl wk0_nilp wk0_nile wk0_erre wk0_sl wk0_iptr wk0_own wk0_view wk0_pv wk0_pa fzA_a fzW_a fzP_v wk0_own_sl wk0_view_sl wk0_pv_iptr WkS_nil WkS_cons WkN_nil WkN_cons nonB_nil nonB_cons getN_nil getN_hit getN_miss pinOk_0 pinOk_s and_true true_and and_self
attribute [local go_sem] bot_int one_int unt_int clo_int bot_bool one_bool unt_bool clo_bool bot_str one_str unt_str clo_str bot_nils one_nils unt_nils clo_nils bot_nilp one_nilp unt_nilp clo_nilp bot_nile one_nile unt_nile clo_nile bot_erre one_erre unt_erre clo_erre bot_raw one_raw unt_raw clo_raw bot_sl one_sl unt_sl clo_sl bot_own one_own unt_own clo_own bot_view one_view unt_view clo_view bot_pv one_pv unt_pv clo_pv bot_pa one_pa unt_pa clo_pa bot_iptr one_iptr unt_iptr clo_iptr unt_agg unt_fn one_fn
attribute [local go_sem] rn_tup rn_agg rn2_agg rn_fn rn2_fn rnfn1 rn_bot rn2_bot rn1_bot rn0_int rn0_bool rn0_str rn0_nils rn0_nilp rn0_nile rn0_erre rn0_sl rn0_iptr rn0_own rn0_view rn0_pv rn0_pa hrn_var hrn_arr hrn_dead outU_nil outU_cons deads_nil deads_cons bk_ge bk_lt nsF_0 nsF_s chH_0 chH_s chH_n newN_e andB_s eqR_nil eqR_i eqR_b eqR_s mapX_f mapX_t eqs_a beq_f beq_t live_arr live_var nsl_nil nsl_cons Nat.reduceMul Nat.reduceLT Nat.zero_le Nat.not_lt_zero
attribute [local go_sem] mV lD lA fD bN eX oP nP sR i0 s0
def ic47 : IC := sR [oP 1 (.box 40 (.t 0)),oP 2 (.mv (.c (.bool false)))] (.seq (sR [fD 3 1 1,lA 4 2 3,oP 5 (.call 112 [.t 4]),oP 6 (.un .not (.t 5)),mV 7 6,⟨some 8,some (7,false),.fad 3 (.t 1)⟩,⟨some 9,some (7,false),.ld 2 true (.t 8)⟩,⟨some 10,some (7,false),.call 112 [.t 9]⟩,⟨some 11,some (7,false),.un .not (.t 10)⟩,oP 12 (.pick (.t 7) (.c (.bool true)) (.t 11)),mV 13 12,⟨some 14,some (13,false),.fad 5 (.t 1)⟩,⟨some 15,some (13,false),.ld 1 false (.t 14)⟩,⟨some 16,some (13,false),.call 36 [.t 15,.c i0,.c (.int .i64 99)]⟩,⟨some 17,some (13,false),.un .not (.t 16)⟩,oP 18 (.pick (.t 13) (.c (.bool true)) (.t 17))] (.cond (.t 18) (sR [oP 2 (.mv (.c (.bool false)))] .ret) .skip)) (sR [fD 19 0 1,lD 20 1 19,oP 21 (.bin .eql (.t 20) (.c (.int .i64 1))),mV 22 21,⟨some 23,some (22,true),.fad 6 (.t 1)⟩,⟨some 24,some (22,true),.ld 1 false (.t 23)⟩,⟨some 25,some (22,true),.call 90 [.t 24]⟩,oP 26 (.pick (.t 22) (.t 25) (.c (.bool false))),mV 27 26,⟨some 28,some (27,true),.fad 6 (.t 1)⟩,⟨some 29,some (27,true),.ld 1 false (.t 28)⟩,⟨some 30,some (27,true),.bin .neq (.t 29) (.c s0)⟩,oP 31 (.pick (.t 27) (.t 30) (.c (.bool false))),mV 32 31,⟨some 33,some (32,false),.fad 0 (.t 1)⟩,⟨some 34,some (32,false),.ld 1 false (.t 33)⟩,⟨some 35,some (32,false),.bin .eql (.t 34) (.c (.int .i64 2))⟩,⟨some 36,some (32,false),.mv (.t 35)⟩,⟨some 37,some (36,true),.fad 6 (.t 1)⟩,⟨some 38,some (36,true),.ld 1 false (.t 37)⟩,⟨some 39,some (36,true),.bin .eql (.t 38) (.c s0)⟩,⟨some 40,some (32,false),.pick (.t 36) (.t 39) (.c (.bool false))⟩,oP 41 (.pick (.t 32) (.c (.bool true)) (.t 40)),mV 2 41] .ret))
theorem dg47 : digF Tryz.prog Tryz.f47 = some (ic47,[(.t 2)]) := by kernel_rfl
theorem en47 : entr Tryz.prog 47 = true := by kernel_rfl
theorem isE (s : B) : List.isEmpty s = decide (s = []) := by cases s <;> simp
theorem c47 (p : Pk) (h : p.text.length ≤ 2000000) : FnR Tryz.prog G 47 [.agg [.int .i64 p.kind,.int .i64 p.frm.a,.int .i64 p.frm.p,.int .i64 p.to.a,.int .i64 p.to.p,.int .i64 p.at_,.str p.text]] (.bool (pkOk p)) := by
  refine FnR.mkF Tryz.func47 en47 dg47 Tryz.ntmps47 (by simp) ?_
  simp only [ic47,go_sem]
  with_reducible repeat' (first | refine br ?_ ?_ <;> intro h e <;> (try simp only [e,go_sem]) <;> clear e | rw [i64w (by omega)] | (first | refine sk ?_ | refine sd ?_) <;> try simp only [go_sem] | (first | refine cr (c112 ..) ?_ | refine cr (c36 ..) ?_ | refine cr (c90 ..) ?_) <;> try simp only [go_sem] | fail)
  all_goals simp_all [pkOk,isE]
def ic42 : IC := sR [oP 1 (.box 40 (.t 0)),oP 2 (.mv (.c (.bool false)))] (.seq (sR [fD 3 1 1,lA 4 2 3,oP 5 (.call 100 [.t 4]),oP 6 (.un .not (.t 5)),mV 7 6,⟨some 8,some (7,false),.fad 3 (.t 1)⟩,⟨some 9,some (7,false),.ld 2 true (.t 8)⟩,⟨some 10,some (7,false),.call 100 [.t 9]⟩,⟨some 11,some (7,false),.un .not (.t 10)⟩,oP 12 (.pick (.t 7) (.c (.bool true)) (.t 11)),mV 13 12,⟨some 14,some (13,false),.fad 5 (.t 1)⟩,⟨some 15,some (13,false),.ld 1 false (.t 14)⟩,⟨some 16,some (13,false),.call 101 [.t 15,.c i0,.c (.int .i64 99)]⟩,⟨some 17,some (13,false),.un .not (.t 16)⟩,oP 18 (.pick (.t 13) (.c (.bool true)) (.t 17))] (.cond (.t 18) (sR [oP 2 (.mv (.c (.bool false)))] .ret) .skip)) (.seq (sR [fD 19 0 1,lD 20 1 19] (.block 0 (sR [oP 22 (.bin .eql (.t 20) (.c (.int .i64 1))),mV 21 22] (.cond (.t 21) (sR [fD 23 6 1,lD 24 1 23,oP 25 (.call 102 [.t 24]),mV 26 25,⟨some 27,some (26,true),.fad 6 (.t 1)⟩,⟨some 28,some (26,true),.ld 1 false (.t 27)⟩,⟨some 29,some (26,true),.bin .neq (.t 28) (.c s0)⟩,oP 30 (.pick (.t 26) (.t 29) (.c (.bool false))),mV 2 30] .ret) (sR [oP 32 (.bin .eql (.t 20) (.c (.int .i64 2))),mV 31 32] (.cond (.t 31) (sR [fD 33 6 1,lD 34 1 33,oP 35 (.bin .eql (.t 34) (.c s0)),mV 2 35] .ret) .skip)))))) (sR [oP 2 (.mv (.c (.bool false)))] .ret)))
theorem dg42 : digF Tryz.prog Tryz.f42 = some (ic42,[(.t 2)]) := by kernel_rfl
theorem en42 : entr Tryz.prog 42 = true := by kernel_rfl
theorem c42 (p : Pk) (h : p.text.length ≤ 2000000) : FnR Tryz.prog G 42 [.agg [.int .i64 p.kind,.int .i64 p.frm.a,.int .i64 p.frm.p,.int .i64 p.to.a,.int .i64 p.to.p,.int .i64 p.at_,.str p.text]] (.bool (pkOk p)) := by
  refine FnR.mkF Tryz.func42 en42 dg42 Tryz.ntmps42 (by simp) ?_
  simp only [ic42,go_sem]
  with_reducible repeat' (first | refine br ?_ ?_ <;> intro h e <;> (try simp only [e,go_sem]) <;> clear e | rw [i64w (by omega)] | (first | refine sk ?_ | refine sd ?_) <;> try simp only [go_sem] | (first | refine cr (c100 ..) ?_ | refine cr (c101 ..) ?_ | refine cr (c102 ..) ?_) <;> try simp only [go_sem] | fail)
  all_goals simp_all [pkOk,isE]
def ic48 : IC := sR [oP 1 (.box 40 (.t 0)),oP 2 (.mv (.c (.bool false)))] (sR [fD 3 1 1,lA 4 2 3,oP 5 (.call 16 [.t 4]),mV 6 5,⟨some 7,some (6,true),.fad 3 (.t 1)⟩,⟨some 8,some (6,true),.ld 2 true (.t 7)⟩,⟨some 9,some (6,true),.call 17 [.t 8]⟩,oP 10 (.pick (.t 6) (.t 9) (.c (.bool false))),mV 2 10] .ret)
theorem dg48 : digF Tryz.prog Tryz.f48 = some (ic48,[(.t 2)]) := by kernel_rfl
theorem en48 : entr Tryz.prog 48 = true := by kernel_rfl
theorem c48 (p : Pk) : FnR Tryz.prog G 48 [.agg [.int .i64 p.kind,.int .i64 p.frm.a,.int .i64 p.frm.p,.int .i64 p.to.a,.int .i64 p.to.p,.int .i64 p.at_,.str p.text]] (.bool p.outward) := by
  refine FnR.mkF Tryz.func48 en48 dg48 Tryz.ntmps48 (by simp) ?_
  simp only [ic48,go_sem]
  with_reducible repeat' (first | refine br ?_ ?_ <;> intro h e <;> (try simp only [e,go_sem]) <;> clear e | rw [i64w (by omega)] | (first | refine sk ?_ | refine sd ?_) <;> try simp only [go_sem] | (first | refine cr (c16 ..) ?_ | refine cr (c17 ..) ?_) <;> try simp only [go_sem] | fail)
  all_goals simp_all [Pk.outward]
def ic79 : IC := sR [oP 1 (.box 40 (.t 0)),oP 2 (.mv (.c (.bool false)))] (sR [fD 3 1 1,lA 4 2 3,oP 5 (.call 17 [.t 4]),mV 6 5,⟨some 7,some (6,true),.fad 3 (.t 1)⟩,⟨some 8,some (6,true),.ld 2 true (.t 7)⟩,⟨some 9,some (6,true),.call 13 [.t 8]⟩,oP 10 (.pick (.t 6) (.t 9) (.c (.bool false))),mV 2 10] .ret)
theorem dg79 : digF Tryz.prog Tryz.f79 = some (ic79,[(.t 2)]) := by kernel_rfl
theorem en79 : entr Tryz.prog 79 = true := by kernel_rfl
theorem c79 (p : Pk) : FnR Tryz.prog G 79 [.agg [.int .i64 p.kind,.int .i64 p.frm.a,.int .i64 p.frm.p,.int .i64 p.to.a,.int .i64 p.to.p,.int .i64 p.at_,.str p.text]] (.bool p.inward) := by
  refine FnR.mkF Tryz.func79 en79 dg79 Tryz.ntmps79 (by simp) ?_
  simp only [ic79,go_sem]
  with_reducible repeat' (first | refine br ?_ ?_ <;> intro h e <;> (try simp only [e,go_sem]) <;> clear e | rw [i64w (by omega)] | (first | refine sk ?_ | refine sd ?_) <;> try simp only [go_sem] | (first | refine cr (c17 ..) ?_ | refine cr (c13 ..) ?_) <;> try simp only [go_sem] | fail)
  all_goals simp_all [Pk.inward]
def ic99 : IC := sR [oP 4 (.box 38 (.t 1)),oP 5 (.box 38 (.t 2)),oP 6 (.mv (.c i0))] (.seq (sR [oP 7 (.mv (.c i0))] (.block 0 (.loop (.seq (sR [mV 8 7,mV 9 0,oP 10 (.len (.t 9)),bN 11 .lss 8 10] (.cond (.t 11) .skip (.exit 0))) (.seq (.block 1 (.seq (.drw [0,0,3,7,15,0,63,127,255,255,1023,2047,4095,255,16383,32767] [(0,mV 14 0),(1,mV 15 7),(2,oP 16 (.iad 8 (.t 14) (.t 15))),(3,fD 17 0 16),(4,lA 18 2 17),(5,lA 19 2 4),(6,oP 20 (.eqs false [.i,.i] (.t 18) (.t 19))),(7,mV 21 20),(8,⟨some 22,some (21,true),.mv (.t 0)⟩),(9,⟨some 23,some (21,true),.mv (.t 7)⟩),(10,⟨some 24,some (21,true),.iad 8 (.t 22) (.t 23)⟩),(11,⟨some 25,some (21,true),.fad 2 (.t 24)⟩),(12,⟨some 26,some (21,true),.ld 2 true (.t 25)⟩),(13,⟨some 27,some (21,true),.ld 2 true (.t 5)⟩),(14,⟨some 28,some (21,true),.eqs false [.i,.i] (.t 26) (.t 27)⟩),(15,oP 29 (.pick (.t 21) (.t 28) (.c (.bool false))))]) (.cond (.t 29) (sR [mV 30 7,mV 6 30] .ret) .skip))) (.reg [mV 12 7,oP 13 (.bin .add (.t 12) (.c (.int .i64 1))),mV 7 13])))))) (sR [oP 6 (.mv (.c (.int .i64 (-1))))] .ret))
theorem dg99 : digF Tryz.prog Tryz.f99 = some (ic99,[(.t 6)]) := by kernel_rfl
theorem en99 : entr Tryz.prog 99 = true := by kernel_rfl
theorem c99 (fs : List Flw) (i o : E) (hl : fs.length ≤ 2000000) : FnR Tryz.prog G 99 [.sl 8 (fs.map Flw.row),.agg [.int .i64 i.a,.int .i64 i.p],.agg [.int .i64 o.a,.int .i64 o.p]] (.int .i64 (ixI (flowIx fs i o))) := by
  refine FnR.mkF Tryz.func99 en99 dg99 Tryz.ntmps99 (by simp) ?_
  simp only [ic99,go_sem]
  refine loopN (fun k : Nat => ⟨getL [(0,.sl 8 (fs.map Flw.row)),(4,.pv 1004 0),(5,.pv 1005 0),(7,.int .i64 (k : Int))],getH [(1004,.var 38 [.int .i64 i.a,.int .i64 i.p]),(1005,.var 38 [.int .i64 o.a,.int .i64 o.p])]⟩) (fun k => fs.length - k)
    (fun k => k ≤ fs.length ∧ flowIx fs i o = (flowIx (fs.drop k) i o).map (· + k)) 0 (leQ []) ⟨Nat.zero_le _,by simp⟩ ?_
  intro k ⟨hk,ha⟩
  simp only [go_sem]
  by_cases h : (k : Int) < fs.length
  · have hil : k < fs.length := by omega
    have hg : fs.getD k default = fs[k] := by simp [List.getD,hil]
    rw [List.drop_eq_getElem_cons hil,flowIx_cons] at ha
    simp only [eq_true h,go_sem]
    with_reducible repeat' (first | refine br ?_ ?_ <;> intro h e <;> (try simp only [e,go_sem,hg,E.ext_iff']) <;> clear e | rw [i64w (by omega)] | (first | refine sk ?_ | refine sd ?_) <;> try simp only [go_sem,hg,E.ext_iff'] | fail)
    · rw [if_pos ⟨by assumption,h⟩] at ha
      rw [ha]; simp [ixI]
    · rw [if_neg (fun hc => h hc.2)] at ha
      refine ⟨k + 1,by omega,⟨by omega,by rw [ha]; cases flowIx (fs.drop (k + 1)) i o <;> simp; omega⟩,(leQ [])⟩
    · rw [if_neg (fun hc => h hc.1)] at ha
      refine ⟨k + 1,by omega,⟨by omega,by rw [ha]; cases flowIx (fs.drop (k + 1)) i o <;> simp; omega⟩,(leQ [])⟩
  · simp only [eq_false h,go_sem]
    have : k = fs.length := by omega
    subst this
    rw [ha,List.drop_length]; rfl
def ic119 : IC := sR [oP 3 (.box 91 (.t 0)),oP 4 (.mv (.c (.bool false)))] (sR [fD 5 0 3,lA 6 2 5,lA 7 2 1,oP 8 (.eqs false [.i,.i] (.t 6) (.t 7)),mV 9 8,⟨some 10,some (9,true),.fad 2 (.t 3)⟩,⟨some 11,some (9,true),.ld 2 true (.t 10)⟩,⟨some 12,some (9,true),.ld 2 true (.t 2)⟩,⟨some 13,some (9,true),.eqs false [.i,.i] (.t 11) (.t 12)⟩,oP 14 (.pick (.t 9) (.t 13) (.c (.bool false))),mV 4 14] .ret)
theorem dg119 : digF Tryz.prog Tryz.f119 = some (ic119,[(.t 4)]) := by kernel_rfl
theorem en119 : entr Tryz.prog 119 = true := by kernel_rfl
theorem c119 (f : Flw) (i o : E) : FnR Tryz.prog G 119 [.agg [.int .i64 f.ins.a,.int .i64 f.ins.p,.int .i64 f.out.a,.int .i64 f.out.p,.str f.up.inn,.sl 2 (f.up.parts.map Part.row),.str f.down.inn,.sl 2 (f.down.parts.map Part.row)],.iptr [.int .i64 i.a,.int .i64 i.p] 0,.iptr [.int .i64 o.a,.int .i64 o.p] 0] (.bool (decide (f.ins = i) && decide (f.out = o))) := by
  refine FnR.mkF Tryz.func119 en119 dg119 Tryz.ntmps119 (by simp) ?_
  simp only [ic119,go_sem,E.ext_iff']
  with_reducible repeat' (first | refine br ?_ ?_ <;> intro h e <;> (try simp only [e,go_sem,E.ext_iff']) <;> clear e | rw [i64w (by omega)] | (first | refine sk ?_ | refine sd ?_) <;> try simp only [go_sem,E.ext_iff'] | fail)
  all_goals simp_all
def ic118 : IC := sR [oP 4 (.mv (.c i0))] (.seq (sR [mV 6 0,oP 7 (.len (.t 6)),oP 8 (.mv (.c i0))] (.block 0 (.loop (sR [bN 9 .lss 8 7] (.seq (.cond (.t 9) .skip (.exit 0)) (.seq (.block 1 (sR [mV 10 8,mV 5 10] (sR [mV 11 1,mV 12 0,mV 13 5,oP 14 (.iad 8 (.t 12) (.t 13)),lA 15 8 14,oP 16 (.cal (.t 11) [.t 15])] (.cond (.t 16) (sR [mV 17 5,mV 4 17] .ret) .skip)))) (.reg [oP 18 (.bin .add (.t 8) (.c (.int .i64 1))),mV 8 18]))))))) (sR [oP 4 (.mv (.c (.int .i64 (-1))))] .ret))
theorem dg118 : digF Tryz.prog Tryz.f118 = some (ic118,[(.t 4)]) := by kernel_rfl
theorem en118 : entr Tryz.prog 118 = true := by kernel_rfl
theorem c118 (fs : List Flw) (i o : E) (hl : fs.length ≤ 2000000) : FnR Tryz.prog G 118 [.sl 8 (fs.map Flw.row),.fn 119 [.iptr [.int .i64 i.a,.int .i64 i.p] 0,.iptr [.int .i64 o.a,.int .i64 o.p] 0]] (.int .i64 (ixI (flowIx fs i o))) := by
  refine FnR.mkF Tryz.func118 en118 dg118 Tryz.ntmps118 (by simp) ?_
  simp only [ic118,go_sem]
  refine loopN (fun k : Nat => ⟨getL [(0,.sl 8 (fs.map Flw.row)),(1,.fn 119 [.iptr [.int .i64 i.a,.int .i64 i.p] 0,.iptr [.int .i64 o.a,.int .i64 o.p] 0]),(7,.int .i64 fs.length),(8,.int .i64 (k : Int))],getH []⟩) (fun k => fs.length - k)
    (fun k => k ≤ fs.length ∧ flowIx fs i o = (flowIx (fs.drop k) i o).map (· + k)) 0 (leQ []) ⟨Nat.zero_le _,by simp⟩ ?_
  intro k ⟨hk,ha⟩
  simp only [go_sem]
  by_cases h : (k : Int) < fs.length
  · have hil : k < fs.length := by omega
    have hg : fs.getD k default = fs[k] := by simp [List.getD,hil]
    rw [List.drop_eq_getElem_cons hil,flowIx_cons] at ha
    simp only [eq_true h,go_sem]
    with_reducible repeat' (first | refine br ?_ ?_ <;> intro h e <;> (try simp only [e,go_sem,hg]) <;> clear e | rw [i64w (by omega)] | (first | refine sk ?_ | refine sd ?_) <;> try simp only [go_sem,hg] | fail)
    refine callR (c119 fs[k] i o) rfl rfl ?_
    simp only [go_sem]
    by_cases hc : fs[k].ins = i ∧ fs[k].out = o
    · rw [if_pos hc] at ha
      simp only [hc,go_sem]
      rw [ha]; simp [ixI]
    · rw [if_neg hc] at ha
      have : (decide (fs[k].ins = i) && decide (fs[k].out = o)) = false := by
        rw [← Bool.decide_and]; simpa using hc
      simp only [this,go_sem]
      with_reducible repeat' (first | refine br ?_ ?_ <;> intro h e <;> (try simp only [e,go_sem]) <;> clear e | rw [i64w (by omega)] | (first | refine sk ?_ | refine sd ?_) <;> try simp only [go_sem] | fail)
      refine ⟨k + 1,by omega,⟨by omega,by rw [ha]; cases flowIx (fs.drop (k + 1)) i o <;> simp; omega⟩,(leQ [])⟩
  · simp only [eq_false h,go_sem]
    have : k = fs.length := by omega
    subst this
    rw [ha,List.drop_length]; rfl
theorem mkf_pv1 (f a b : Nat) : mkfF f [.pv a b] = some (.fn f [.pv a b]) := mkf_e rfl
theorem mkf_pv2 (f a b c d : Nat) : mkfF f [.pv a b,.pv c d] = some (.fn f [.pv a b,.pv c d]) := mkf_e rfl
def ic54 : IC := sR [oP 3 (.box 30 (.t 0)),oP 4 (.box 38 (.t 1)),oP 5 (.box 38 (.t 2)),oP 6 (.mv (.c i0))] (sR [fD 7 1 3,lD 8 1 7,oP 9 (.mkf 119 [.t 4,.t 5]),oP 10 (.call 118 [.t 8,.t 9]),mV 6 10] .ret)
theorem dg54 : digF Tryz.prog Tryz.f54 = some (ic54,[(.t 6)]) := by kernel_rfl
theorem en54 : entr Tryz.prog 54 = true := by kernel_rfl
theorem c54 (rows : List (List V)) (fs : List Flw) (i o : E) (hl : fs.length ≤ 2000000) : FnR Tryz.prog G 54 [.agg [.sl 3 rows,.sl 8 (fs.map Flw.row)],.agg [.int .i64 i.a,.int .i64 i.p],.agg [.int .i64 o.a,.int .i64 o.p]] (.int .i64 (ixI (flowIx fs i o))) := by
  refine FnR.mkF Tryz.func54 en54 dg54 Tryz.ntmps54 (by simp) ?_
  simp only [ic54,go_sem,mkf_pv2]
  refine callF (c118 fs i o hl) [1004,1005] true (by simp only [go_sem,List.mem_cons,true_or,or_true]) (by simp only [List.mem_cons,List.not_mem_nil,or_false]; rintro c (rfl | rfl) <;> rfl) rfl (.inl rfl) ?_
  simp only [go_sem]
def ic22 : IC := sR [oP 1 (.box 30 (.t 0)),oP 2 (.mv (.c (.bool false)))] (.seq (sR [fD 5 0 1,lD 6 1 5,oP 7 (.call 24 [.t 6]),oP 8 (.un .not (.t 7)),mV 9 8,⟨some 10,some (9,false),.fad 1 (.t 1)⟩,⟨some 11,some (9,false),.ld 1 false (.t 10)⟩,⟨some 12,some (9,false),.len (.t 11)⟩,⟨some 13,some (9,false),.bin .gtr (.t 12) (.c (.int .i64 4))⟩,oP 14 (.pick (.t 9) (.c (.bool true)) (.t 13))] (.cond (.t 14) (sR [oP 2 (.mv (.c (.bool false)))] .ret) .skip)) (.seq (sR [fD 15 1 1,lD 16 1 15,oP 17 (.len (.t 16)),oP 18 (.mv (.c i0))] (.block 0 (.loop (sR [bN 19 .lss 18 17] (.seq (.cond (.t 19) .skip (.exit 0)) (.seq (.block 1 (sR [mV 20 18,oP 21 (.iad 8 (.t 16) (.t 18)),lA 22 8 21,oP 4 (.alloc 91 [i0,i0,i0,i0,s0,.nils,s0,.nils]),mV 3 20,nP (.sto 8 (.t 4) (.t 22))] (sR [fD 23 0 1,lD 24 1 23,fD 25 0 4,lA 26 2 25,oP 27 (.call 53 [.t 24,.t 26]),oP 28 (.bin .eql (.t 27) (.c i0)),mV 29 28,⟨some 30,some (29,false),.fad 2 (.t 4)⟩,⟨some 31,some (29,false),.ld 2 true (.t 30)⟩,⟨some 32,some (29,false),.call 17 [.t 31]⟩,⟨some 33,some (29,false),.un .not (.t 32)⟩,oP 34 (.pick (.t 29) (.c (.bool true)) (.t 33)),mV 35 34,⟨some 36,some (35,false),.ld 2 true (.t 1)⟩,⟨some 37,some (35,false),.fad 0 (.t 4)⟩,⟨some 38,some (35,false),.ld 2 true (.t 37)⟩,⟨some 39,some (35,false),.fad 2 (.t 4)⟩,⟨some 40,some (35,false),.ld 2 true (.t 39)⟩,⟨some 41,some (35,false),.call 54 [.t 36,.t 38,.t 40]⟩,⟨some 42,some (35,false),.mv (.t 3)⟩,⟨some 43,some (35,false),.bin .neq (.t 41) (.t 42)⟩,oP 44 (.pick (.t 35) (.c (.bool true)) (.t 43)),mV 45 44,⟨some 46,some (45,false),.fad 4 (.t 4)⟩,⟨some 47,some (45,false),.ld 2 true (.t 46)⟩,⟨some 48,some (45,false),.call 55 [.t 47]⟩,⟨some 49,some (45,false),.un .not (.t 48)⟩,oP 50 (.pick (.t 45) (.c (.bool true)) (.t 49)),mV 51 50,⟨some 52,some (51,false),.fad 6 (.t 4)⟩,⟨some 53,some (51,false),.ld 2 true (.t 52)⟩,⟨some 54,some (51,false),.call 55 [.t 53]⟩,⟨some 55,some (51,false),.un .not (.t 54)⟩,oP 56 (.pick (.t 51) (.c (.bool true)) (.t 55))] (.cond (.t 56) (sR [oP 2 (.mv (.c (.bool false)))] .ret) .skip)))) (.reg [oP 57 (.bin .add (.t 18) (.c (.int .i64 1))),mV 18 57]))))))) (sR [oP 2 (.mv (.c (.bool true)))] .ret)))
theorem dg22 : digF Tryz.prog Tryz.f22 = some (ic22,[(.t 2)]) := by kernel_rfl
theorem en22 : entr Tryz.prog 22 = true := by kernel_rfl
theorem c22 (d : Door) (h : DB d) : FnR Tryz.prog G 22 [.agg [.sl 3 (d.map.map Pair.row),.sl 8 (d.flows.map Flw.row)]] (.bool (doorOk d)) := by
  refine FnR.mkF Tryz.func22 en22 dg22 Tryz.ntmps22 (by simp) ?_
  obtain ⟨h1,h2,h3⟩ := h
  simp only [ic22,go_sem]
  refine callR (c24 d.map h1) rfl rfl ?_
  cases hm : mapOk d.map <;> simp only [go_sem]
  · simp [doorOk,hm]
  obtain ⟨hp,hml⟩ := mapOk_ports hm
  with_reducible repeat' (first | refine br ?_ ?_ <;> intro h e <;> (try simp only [e,go_sem]) <;> clear e | rw [i64w (by omega)] | (first | refine sk ?_ | refine sd ?_) <;> try simp only [go_sem] | fail)
  · have : ¬ d.flows.length ≤ 4 := by omega
    simp [doorOk,this]
  refine loopN (fun k : Nat => ⟨getL [(1,.pv 1001 0),(16,.sl 8 (d.flows.map Flw.row)),(17,.int .i64 d.flows.length),(18,.int .i64 (k : Int))],getH [(1001,.var 30 [.sl 3 (d.map.map Pair.row),.sl 8 (d.flows.map Flw.row)])]⟩) (fun k => d.flows.length - k)
    (fun k => k ≤ d.flows.length ∧ ∀ j,j < k → okFlow d j = true) 0 (leQ []) ⟨Nat.zero_le _,by omega⟩ ?_
  intro k ⟨hk,ha⟩
  simp only [go_sem]
  by_cases h : (k : Int) < d.flows.length
  · have hil : k < d.flows.length := by omega
    have hg : d.flows.getD k default = d.flows[k] := by simp [List.getD,hil]
    have hok := okFlow_i hil
    obtain ⟨hs1,hs2⟩ := h3 _ (List.getElem_mem hil)
    have hz := portOf_zero (fun p h => by have := (hp p h).1; omega) d.flows[k].ins
    have hix : ixI (flowIx d.flows d.flows[k].ins d.flows[k].out) = k ↔ (d.flows.take k).any (sameF d.flows[k].ins d.flows[k].out) = false := by
      constructor
      · intro hx
        cases hf : flowIx d.flows d.flows[k].ins d.flows[k].out with
        | none => rw [hf] at hx; simp [ixI] at hx
        | some j =>
          rw [hf] at hx; simp only [ixI] at hx
          obtain rfl : j = k := by omega
          obtain ⟨_,_,_,_,h4⟩ := flowIx_some hf
          exact h4
      · intro hx
        rw [flowIx_at (List.getElem?_eq_getElem hil) rfl rfl hx]; rfl
    simp only [eq_true h,go_sem]
    with_reducible repeat' (first | refine br ?_ ?_ <;> intro h e <;> (try simp only [e,go_sem,hg]) <;> clear e | rw [i64w (by omega)] | (first | refine sk ?_ | refine sd ?_) <;> try simp only [go_sem,hg] | fail)
    refine callR (c53 d.map d.flows[k].ins.a d.flows[k].ins.p) rfl rfl ?_
    simp only [go_sem,hz]
    have st1 := c55 d.flows[k].up hs1
    have st2 := c55 d.flows[k].down hs2
    have fl := c54 (d.map.map Pair.row) d.flows d.flows[k].ins d.flows[k].out h2
    with_reducible repeat' (first | refine br ?_ ?_ <;> intro h e <;> (try simp only [e,go_sem,hix]) <;> clear e | rw [i64w (by omega)] | (first | refine sk ?_ | refine sd ?_) <;> try simp only [go_sem,hix] | (first | refine cr (c17 ..) ?_ | refine cr (st1 ..) ?_ | refine cr (st2 ..) ?_ | refine cr (fl ..) ?_) <;> try simp only [go_sem,hix] | fail)
    all_goals first
      | (have hb : okFlow d k = false := by rw [hok]; simp_all
         rw [doorOk_bad hil hb])
      | skip
    refine ⟨k + 1,by omega,⟨by omega,fun j hj => ?_⟩,(leQ [])⟩
    rcases Nat.lt_or_ge j k with hjk | hjk
    · exact ha j hjk
    · obtain rfl : j = k := by omega
      rw [hok]; simp_all
  · simp only [eq_false h,go_sem]
    have : k = d.flows.length := by omega
    subst this
    rw [doorOk_iff.2 ⟨hm,by omega,ha⟩]
def ic114 : IC := sR [oP 1 (.box 91 (.t 0)),oP 2 (.alloc 91 [i0,i0,i0,i0,s0,.nils,s0,.nils])] (.seq (.drw [0,1,0,4,0,16,48,0,128,496,1023,2047] [(0,fD 3 0 1),(1,lA 4 2 3),(2,fD 5 2 1),(3,lA 6 2 5),(4,fD 7 4 1),(5,lA 8 2 7),(6,oP 9 (.call 169 [.t 8])),(7,fD 10 6 1),(8,lA 11 2 10),(9,oP 12 (.call 169 [.t 11])),(10,oP 13 (.build [i0,i0,i0,i0,s0,.nils,s0,.nils] [(0,(2,.t 4)),(2,(2,.t 6)),(4,(2,.t 9)),(6,(2,.t 12))])),(11,nP (.sto 8 (.t 2) (.t 13)))]) .ret)
theorem dg114 : digF Tryz.prog Tryz.f114 = some (ic114,[(.cell 2 8 true)]) := by kernel_rfl
theorem en114 : entr Tryz.prog 114 = true := by kernel_rfl
theorem c114 (f : Flw) (h : f.up.parts.length ≤ 2000000 ∧ f.down.parts.length ≤ 2000000) : FnR Tryz.prog G 114 [.agg [.int .i64 f.ins.a,.int .i64 f.ins.p,.int .i64 f.out.a,.int .i64 f.out.p,.str f.up.inn,.sl 2 (f.up.parts.map Part.row),.str f.down.inn,.sl 2 (f.down.parts.map Part.row)]]
    (.agg [.int .i64 f.ins.a,.int .i64 f.ins.p,.int .i64 f.out.a,.int .i64 f.out.p,.str f.up.inn,.sl 2 (f.up.parts.map Part.row),.str f.down.inn,.sl 2 (f.down.parts.map Part.row)]) := by
  refine FnR.mkF Tryz.func114 en114 dg114 Tryz.ntmps114 (by simp) ?_
  simp only [ic114,go_sem]
  have c1 := c169 f.up.inn (f.up.parts.map Part.row) (by simp; omega)
  have c2 := c169 f.down.inn (f.down.parts.map Part.row) (by simp; omega)
  with_reducible repeat' (first | refine br ?_ ?_ <;> intro h e <;> (try simp only [e,go_sem]) <;> clear e | rw [i64w (by omega)] | (first | refine sk ?_ | refine sd ?_) <;> try simp only [go_sem] | (first | refine cr (c1 ..) ?_ | refine cr (c2 ..) ?_) <;> try simp only [go_sem] | fail)
def ic49 : IC := sR [oP 1 (.box 30 (.t 0)),oP 2 (.alloc 30 [.nils,.nils])] (.seq (.drw [0,1,3,0,8,24,56,127,0,511] [(0,fD 6 0 1),(1,lD 7 1 6),(2,oP 8 (.call 113 [.t 7])),(3,fD 9 1 1),(4,lD 10 1 9),(5,oP 11 (.len (.t 10))),(6,oP 12 (.mks 91 8 (.t 11))),(7,oP 13 (.build [.nils,.nils] [(0,(1,.t 8)),(1,(1,.t 12))])),(8,oP 3 (.alloc 30 [.nils,.nils])),(9,nP (.sto 2 (.t 3) (.t 13)))]) (.seq (sR [fD 14 1 1,lD 15 1 14,oP 16 (.len (.t 15)),oP 17 (.mv (.c i0))] (.block 0 (.loop (sR [bN 18 .lss 17 16] (.seq (.cond (.t 18) .skip (.exit 0)) (.seq (.block 1 (sR [oP 19 (.iad 8 (.t 15) (.t 17)),lA 20 8 19,oP 5 (.alloc 91 [i0,i0,i0,i0,s0,.nils,s0,.nils]),nP (.sto 8 (.t 5) (.t 20))] (.drw [0,1,0,4,12,31,63,127] [(0,fD 21 1 3),(1,lD 22 1 21),(2,lA 23 8 5),(3,oP 24 (.call 114 [.t 23])),(4,oP 25 (.bsl 91 8 [.t 24])),(5,oP 26 (.app 91 8 (.t 22) (.t 25))),(6,fD 27 1 3),(7,nP (.sto 1 (.t 27) (.t 26)))]))) (.reg [oP 28 (.bin .add (.t 17) (.c (.int .i64 1))),mV 17 28]))))))) (sR [lA 29 2 3,nP (.sto 2 (.t 2) (.t 29))] .ret)))
theorem dg49 : digF Tryz.prog Tryz.f49 = some (ic49,[(.cell 2 2 true)]) := by kernel_rfl
theorem en49 : entr Tryz.prog 49 = true := by kernel_rfl
theorem c49 (rows : List (List V)) (fs : List Flw) (hr : rows.length ≤ 2000000) (hf : fs.length ≤ 1000000) (h : ∀ f ∈ fs,f.up.parts.length ≤ 2000000 ∧ f.down.parts.length ≤ 2000000) :
    FnP Tryz.prog G 49 0 [] [.agg [.sl 3 rows,.sl 8 (fs.map Flw.row)]] (fun r o => r = .agg [.own 0 rows.length,.own 1 fs.length] ∧ o = [.arr 98 3 rows,.arr 91 8 (fs.map Flw.row)]) := by
  refine FnP.mk' Tryz.func49 en49 dg49 Tryz.ntmps49 (by simp) ⟨_,_,rfl,rfl⟩ ?_
  simp only [ic49,go_sem]
  with_reducible repeat' (first | refine br ?_ ?_ <;> intro h e <;> (try simp only [e,go_sem]) <;> clear e | rw [i64w (by omega)] | (first | refine sk ?_ | refine sd ?_) <;> try simp only [go_sem] | fail)
  refine callO (c113 rows hr) [] 8 1 (by simp only [go_sem]; first | done | simp) (by simp) (by rintro _ _ ⟨rfl,rfl⟩; simp) (by intro i hi; obtain rfl : i = 0 := (by omega); simp only [go_sem]) ?_
  rintro _ _ ⟨rfl,rfl⟩
  simp only [go_sem]
  with_reducible repeat' (first | refine br ?_ ?_ <;> intro h e <;> (try simp only [e,go_sem]) <;> clear e | rw [i64w (by omega)] | (first | refine sk ?_ | refine sd ?_) <;> try simp only [go_sem] | fail)
  refine loopN (fun k : Nat => ⟨getL [(2,.pv 1002 0),(3,.pv 1003 0),(15,.sl 8 (fs.map Flw.row)),(16,.int .i64 fs.length),(17,.int .i64 (k : Int))],getH [(1002,.var 30 [.nils,.nils]),(1003,.var 30 [.own 100800 rows.length,.own 1012 k]),(100800,.arr 98 3 rows),(1012,.arr 91 8 ((fs.take k).map Flw.row))]⟩) (fun k => fs.length - k)
    (fun k => k ≤ fs.length) 0 (leQ []) (Nat.zero_le _) ?_
  intro k hk
  simp only [go_sem]
  by_cases h5 : (k : Int) < fs.length
  · have hil : k < fs.length := by omega
    have hg : fs.getD k default = fs[k] := by simp [List.getD,hil]
    have hlen : (fs.take k).length = k := by simp; omega
    have c1 := c114 fs[k] (h _ (List.getElem_mem hil))
    simp only [eq_true h5,go_sem]
    with_reducible repeat' (first | refine br ?_ ?_ <;> intro h e <;> (try simp only [e,go_sem,hg,hlen]) <;> clear e | rw [i64w (by omega)] | (first | refine sk ?_ | refine sd ?_) <;> try simp only [go_sem,hg,hlen] | (first | refine cr (c1 ..) ?_) <;> try simp only [go_sem,hg,hlen] | fail)
    refine ⟨k + 1,by omega,by omega,leN [(1012,1026)] ?_ ?_ (by simp [getN]) (by simp only [go_sem])⟩
    · simp only [go_sem]; first | done | omega
    · simp only [go_sem]; rw [List.take_add_one,List.getElem?_eq_getElem hil]; simp only [Option.toList_some,List.map_append,List.map_cons,List.map_nil,Flw.row]
  · simp only [eq_false h5,go_sem]
    have : k = fs.length := by omega
    subst this
    rw [List.take_length]
    with_reducible repeat' (first | refine br ?_ ?_ <;> intro h e <;> (try simp only [e,go_sem]) <;> clear e | rw [i64w (by omega)] | (first | refine sk ?_ | refine sd ?_) <;> try simp only [go_sem] | fail)
    refine retN (.agg [.own 0 rows.length,.own 1 fs.length]) [.arr 98 3 rows,.arr 91 8 (fs.map Flw.row)] [(0,100800),(1,1012)] ?_ ⟨rfl,rfl⟩ ?_ (by simp [argH,getN]) (by simp only [go_sem])
    · simp only [go_sem]
    · simp only [go_sem]
def ic46 : IC := sR [oP 1 (.box 30 (.t 0)),oP 2 (.alloc 30 [.nils,.nils])] (sR [fD 6 0 1,lD 7 1 6,oP 8 (.call 110 [.t 7]),oP 9 (.bsl 91 8 []),oP 10 (.build [.nils,.nils] [(0,(1,.t 8)),(1,(1,.t 9))]),oP 3 (.alloc 30 [.nils,.nils]),nP (.sto 2 (.t 3) (.t 10))] (.seq (sR [oP 4 (.mv (.c i0))] (.block 0 (.loop (.seq (sR [mV 11 4,fD 12 1 1,lD 13 1 12,oP 14 (.len (.t 13)),bN 15 .lss 11 14] (.cond (.t 15) .skip (.exit 0))) (.seq (.block 1 (sR [fD 18 1 1,lD 19 1 18,mV 20 4,oP 21 (.iad 8 (.t 19) (.t 20)),lA 22 8 21,oP 5 (.alloc 91 [i0,i0,i0,i0,s0,.nils,s0,.nils]),nP (.sto 8 (.t 5) (.t 22))] (sR [fD 23 4 5,lA 24 2 23,oP 25 (.call 111 [.t 24]),fD 26 4 5,nP (.sto 2 (.t 26) (.t 25))] (sR [fD 27 6 5,lA 28 2 27,oP 29 (.call 111 [.t 28]),fD 30 6 5,nP (.sto 2 (.t 30) (.t 29))] (.reg [fD 31 1 3,lD 32 1 31,lA 33 8 5,oP 34 (.bsl 91 8 [.t 33]),oP 35 (.app 91 8 (.t 32) (.t 34)),fD 36 1 3,nP (.sto 1 (.t 36) (.t 35))]))))) (.reg [mV 16 4,oP 17 (.bin .add (.t 16) (.c (.int .i64 1))),mV 4 17])))))) (sR [lA 37 2 3,nP (.sto 2 (.t 2) (.t 37))] .ret)))
theorem dg46 : digF Tryz.prog Tryz.f46 = some (ic46,[(.cell 2 2 true)]) := by kernel_rfl
theorem en46 : entr Tryz.prog 46 = true := by kernel_rfl
theorem c46 (rows : List (List V)) (fs : List Flw) (hr : rows.length ≤ 2000000) (hf : fs.length ≤ 1000000) (h : ∀ f ∈ fs,f.up.parts.length ≤ 2000000 ∧ f.down.parts.length ≤ 2000000) :
    FnP Tryz.prog G 46 0 [] [.agg [.sl 3 rows,.sl 8 (fs.map Flw.row)]] (fun r o => r = .agg [.own 0 rows.length,.own 1 fs.length] ∧ o = [.arr 98 3 rows,.arr 91 8 (fs.map Flw.row)]) := by
  refine FnP.mk' Tryz.func46 en46 dg46 Tryz.ntmps46 (by simp) ⟨_,_,rfl,rfl⟩ ?_
  simp only [ic46,go_sem]
  with_reducible repeat' (first | refine br ?_ ?_ <;> intro h e <;> (try simp only [e,go_sem]) <;> clear e | rw [i64w (by omega)] | (first | refine sk ?_ | refine sd ?_) <;> try simp only [go_sem] | fail)
  refine callO (c110 rows hr) [] 8 1 (by simp only [go_sem]; first | done | simp) (by simp) (by rintro _ _ ⟨rfl,rfl⟩; simp) (by intro i hi; obtain rfl : i = 0 := (by omega); simp only [go_sem]) ?_
  rintro _ _ ⟨rfl,rfl⟩
  simp only [go_sem]
  with_reducible repeat' (first | refine br ?_ ?_ <;> intro h e <;> (try simp only [e,go_sem]) <;> clear e | rw [i64w (by omega)] | (first | refine sk ?_ | refine sd ?_) <;> try simp only [go_sem] | fail)
  refine loopN (fun k : Nat => ⟨getL [(1,.pv 1001 0),(2,.pv 1002 0),(3,.pv 1003 0),(4,.int .i64 (k : Int))],getH [(1001,.var 30 [.sl 3 rows,.sl 8 (fs.map Flw.row)]),(1002,.var 30 [.nils,.nils]),(1003,.var 30 [.own 100800 rows.length,.own 1009 k]),(100800,.arr 98 3 rows),(1009,.arr 91 8 ((fs.take k).map Flw.row))]⟩) (fun k => fs.length - k)
    (fun k => k ≤ fs.length) 0 (leQ []) (Nat.zero_le _) ?_
  intro k hk
  simp only [go_sem]
  by_cases h5 : (k : Int) < fs.length
  · have hil : k < fs.length := by omega
    have hg : fs.getD k default = fs[k] := by simp [List.getD,hil]
    have hlen : (fs.take k).length = k := by simp; omega
    have hb := h _ (List.getElem_mem hil)
    have c1 := c111 fs[k].up.inn (fs[k].up.parts.map Part.row) (by simp; omega)
    have c2 := c111 fs[k].down.inn (fs[k].down.parts.map Part.row) (by simp; omega)
    simp only [eq_true h5,go_sem]
    with_reducible repeat' (first | refine br ?_ ?_ <;> intro h e <;> (try simp only [e,go_sem,hg,hlen]) <;> clear e | rw [i64w (by omega)] | (first | refine sk ?_ | refine sd ?_) <;> try simp only [go_sem,hg,hlen] | (first | refine cr (c1 ..) ?_ | refine cr (c2 ..) ?_) <;> try simp only [go_sem,hg,hlen] | fail)
    refine ⟨k + 1,by omega,by omega,leN [(1009,1035)] ?_ ?_ (by simp [getN]) (by simp only [go_sem])⟩
    · simp only [go_sem]; first | done | omega
    · simp only [go_sem]; rw [List.take_add_one,List.getElem?_eq_getElem hil]; simp only [Option.toList_some,List.map_append,List.map_cons,List.map_nil,Flw.row]
  · simp only [eq_false h5,go_sem]
    have : k = fs.length := by omega
    subst this
    rw [List.take_length]
    with_reducible repeat' (first | refine br ?_ ?_ <;> intro h e <;> (try simp only [e,go_sem]) <;> clear e | rw [i64w (by omega)] | (first | refine sk ?_ | refine sd ?_) <;> try simp only [go_sem] | fail)
    refine retN (.agg [.own 0 rows.length,.own 1 fs.length]) [.arr 98 3 rows,.arr 91 8 (fs.map Flw.row)] [(0,100800),(1,1009)] ?_ ⟨rfl,rfl⟩ ?_ (by simp [argH,getN]) (by simp only [go_sem])
    · simp only [go_sem]
    · simp only [go_sem]
def ic23 : IC := sR [oP 4 (.mv (.c (.bool false)))] (.seq (sR [mV 6 0,oP 7 (.len (.t 6)),mV 8 1,oP 9 (.len (.t 8)),bN 10 .neq 7 9] (.cond (.t 10) (sR [oP 4 (.mv (.c (.bool false)))] .ret) .skip)) (.seq (sR [oP 5 (.mv (.c i0))] (.block 0 (.loop (.seq (sR [mV 11 5,mV 12 0,oP 13 (.len (.t 12)),bN 14 .lss 11 13] (.cond (.t 14) .skip (.exit 0))) (.seq (.block 1 (.seq (.drw [0,0,3,7,0,0,48,112,255] [(0,mV 17 0),(1,mV 18 5),(2,oP 19 (.iad 3 (.t 17) (.t 18))),(3,lA 20 3 19),(4,mV 21 1),(5,mV 22 5),(6,oP 23 (.iad 3 (.t 21) (.t 22))),(7,lA 24 3 23),(8,oP 25 (.eqs true [.i,.i,.i] (.t 20) (.t 24)))]) (.cond (.t 25) (sR [oP 4 (.mv (.c (.bool false)))] .ret) .skip))) (.reg [mV 15 5,oP 16 (.bin .add (.t 15) (.c (.int .i64 1))),mV 5 16])))))) (sR [oP 4 (.mv (.c (.bool true)))] .ret)))
theorem dg23 : digF Tryz.prog Tryz.f23 = some (ic23,[(.t 4)]) := by kernel_rfl
theorem en23 : entr Tryz.prog 23 = true := by kernel_rfl
theorem c23 (m : List Pair) (hl : m.length ≤ 2000000) : FnR Tryz.prog G 23 [.sl 3 (m.map Pair.row),.sl 3 (m.map Pair.row)] (.bool true) := by
  refine FnR.mkF Tryz.func23 en23 dg23 Tryz.ntmps23 (by simp) ?_
  simp only [ic23,go_sem]
  with_reducible repeat' (first | refine br ?_ ?_ <;> intro h e <;> (try simp only [e,go_sem]) <;> clear e | rw [i64w (by omega)] | (first | refine sk ?_ | refine sd ?_) <;> try simp only [go_sem] | fail)
  refine loopN (fun k : Nat => ⟨getL [(0,.sl 3 (m.map Pair.row)),(1,.sl 3 (m.map Pair.row)),(5,.int .i64 (k : Int))],getH []⟩) (fun k => m.length - k) (fun k => k ≤ m.length) 0 (leQ []) (Nat.zero_le _) ?_
  intro k hk
  simp only [go_sem]
  by_cases h : (k : Int) < m.length
  · have hil : k < m.length := by omega
    have hg : m.getD k default = m[k] := by simp [List.getD,hil]
    simp only [eq_true h,go_sem]
    with_reducible repeat' (first | refine br ?_ ?_ <;> intro h e <;> (try simp only [e,go_sem,hg,E.ext_iff']) <;> clear e | rw [i64w (by omega)] | (first | refine sk ?_ | refine sd ?_) <;> try simp only [go_sem,hg,E.ext_iff'] | fail)
    exact ⟨k + 1,by omega,by omega,(leQ [])⟩
  · simp only [eq_false h,go_sem]
def ic52 : IC := sR [oP 2 (.box 89 (.t 0)),oP 3 (.box 89 (.t 1)),oP 4 (.mv (.c (.bool false)))] (.seq (sR [fD 6 0 2,lD 7 1 6,fD 8 0 3,lD 9 1 8,bN 10 .neq 7 9,mV 11 10,⟨some 12,some (11,false),.fad 1 (.t 2)⟩,⟨some 13,some (11,false),.ld 1 false (.t 12)⟩,⟨some 14,some (11,false),.len (.t 13)⟩,⟨some 15,some (11,false),.fad 1 (.t 3)⟩,⟨some 16,some (11,false),.ld 1 false (.t 15)⟩,⟨some 17,some (11,false),.len (.t 16)⟩,⟨some 18,some (11,false),.bin .neq (.t 14) (.t 17)⟩,oP 19 (.pick (.t 11) (.c (.bool true)) (.t 18))] (.cond (.t 19) (sR [oP 4 (.mv (.c (.bool false)))] .ret) .skip)) (.seq (sR [oP 5 (.mv (.c i0))] (.block 0 (.loop (.seq (sR [mV 20 5,fD 21 1 2,lD 22 1 21,oP 23 (.len (.t 22)),bN 24 .lss 20 23] (.cond (.t 24) .skip (.exit 0))) (.seq (.block 1 (.seq (.drw [0,1,0,7,15,0,32,0,224,480,1023] [(0,fD 27 1 2),(1,lD 28 1 27),(2,mV 29 5),(3,oP 30 (.iad 2 (.t 28) (.t 29))),(4,lA 31 2 30),(5,fD 32 1 3),(6,lD 33 1 32),(7,mV 34 5),(8,oP 35 (.iad 2 (.t 33) (.t 34))),(9,lA 36 2 35),(10,oP 37 (.eqs true [.i,.s] (.t 31) (.t 36)))]) (.cond (.t 37) (sR [oP 4 (.mv (.c (.bool false)))] .ret) .skip))) (.reg [mV 25 5,oP 26 (.bin .add (.t 25) (.c (.int .i64 1))),mV 5 26])))))) (sR [oP 4 (.mv (.c (.bool true)))] .ret)))
theorem dg52 : digF Tryz.prog Tryz.f52 = some (ic52,[(.t 4)]) := by kernel_rfl
theorem en52 : entr Tryz.prog 52 = true := by kernel_rfl
theorem c52 (s : Strm) (hl : s.parts.length ≤ 2000000) : FnR Tryz.prog G 52 [.agg [.str s.inn,.sl 2 (s.parts.map Part.row)],.agg [.str s.inn,.sl 2 (s.parts.map Part.row)]] (.bool true) := by
  refine FnR.mkF Tryz.func52 en52 dg52 Tryz.ntmps52 (by simp) ?_
  simp only [ic52,go_sem]
  with_reducible repeat' (first | refine br ?_ ?_ <;> intro h e <;> (try simp only [e,go_sem]) <;> clear e | rw [i64w (by omega)] | (first | refine sk ?_ | refine sd ?_) <;> try simp only [go_sem] | fail)
  refine loopN (fun k : Nat => ⟨getL [(2,.pv 1002 0),(3,.pv 1003 0),(5,.int .i64 (k : Int))],getH [(1002,.var 89 [.str s.inn,.sl 2 (s.parts.map Part.row)]),(1003,.var 89 [.str s.inn,.sl 2 (s.parts.map Part.row)])]⟩) (fun k => s.parts.length - k) (fun k => k ≤ s.parts.length) 0 (leQ []) (Nat.zero_le _) ?_
  intro k hk
  simp only [go_sem]
  by_cases h : (k : Int) < s.parts.length
  · have hil : k < s.parts.length := by omega
    have hg : s.parts.getD k default = s.parts[k] := by simp [List.getD,hil]
    simp only [eq_true h,go_sem]
    with_reducible repeat' (first | refine br ?_ ?_ <;> intro h e <;> (try simp only [e,go_sem,hg]) <;> clear e | rw [i64w (by omega)] | (first | refine sk ?_ | refine sd ?_) <;> try simp only [go_sem,hg] | fail)
    exact ⟨k + 1,by omega,by omega,(leQ [])⟩
  · simp only [eq_false h,go_sem]
def ic21 : IC := sR [oP 2 (.box 30 (.t 0)),oP 3 (.box 30 (.t 1)),oP 4 (.mv (.c (.bool false)))] (.seq (sR [fD 8 0 2,lD 9 1 8,fD 10 0 3,lD 11 1 10,oP 12 (.call 23 [.t 9,.t 11]),oP 13 (.un .not (.t 12)),mV 14 13,⟨some 15,some (14,false),.fad 1 (.t 2)⟩,⟨some 16,some (14,false),.ld 1 false (.t 15)⟩,⟨some 17,some (14,false),.len (.t 16)⟩,⟨some 18,some (14,false),.fad 1 (.t 3)⟩,⟨some 19,some (14,false),.ld 1 false (.t 18)⟩,⟨some 20,some (14,false),.len (.t 19)⟩,⟨some 21,some (14,false),.bin .neq (.t 17) (.t 20)⟩,oP 22 (.pick (.t 14) (.c (.bool true)) (.t 21))] (.cond (.t 22) (sR [oP 4 (.mv (.c (.bool false)))] .ret) .skip)) (.seq (sR [oP 5 (.mv (.c i0))] (.block 0 (.loop (.seq (sR [mV 23 5,fD 24 1 2,lD 25 1 24,oP 26 (.len (.t 25)),bN 27 .lss 23 26] (.cond (.t 27) .skip (.exit 0))) (.seq (.block 1 (sR [fD 30 1 2,lD 31 1 30,mV 32 5,oP 33 (.iad 8 (.t 31) (.t 32)),lA 34 8 33,oP 6 (.alloc 91 [i0,i0,i0,i0,s0,.nils,s0,.nils]),nP (.sto 8 (.t 6) (.t 34))] (sR [fD 35 1 3,lD 36 1 35,mV 37 5,oP 38 (.iad 8 (.t 36) (.t 37)),lA 39 8 38,oP 7 (.alloc 91 [i0,i0,i0,i0,s0,.nils,s0,.nils]),nP (.sto 8 (.t 7) (.t 39))] (sR [fD 40 0 6,lA 41 2 40,fD 42 0 7,lA 43 2 42,oP 44 (.eqs true [.i,.i] (.t 41) (.t 43)),mV 45 44,⟨some 46,some (45,false),.fad 2 (.t 6)⟩,⟨some 47,some (45,false),.ld 2 true (.t 46)⟩,⟨some 48,some (45,false),.fad 2 (.t 7)⟩,⟨some 49,some (45,false),.ld 2 true (.t 48)⟩,⟨some 50,some (45,false),.eqs true [.i,.i] (.t 47) (.t 49)⟩,oP 51 (.pick (.t 45) (.c (.bool true)) (.t 50)),mV 52 51,⟨some 53,some (52,false),.fad 4 (.t 6)⟩,⟨some 54,some (52,false),.ld 2 true (.t 53)⟩,⟨some 55,some (52,false),.fad 4 (.t 7)⟩,⟨some 56,some (52,false),.ld 2 true (.t 55)⟩,⟨some 57,some (52,false),.call 52 [.t 54,.t 56]⟩,⟨some 58,some (52,false),.un .not (.t 57)⟩,oP 59 (.pick (.t 52) (.c (.bool true)) (.t 58)),mV 60 59,⟨some 61,some (60,false),.fad 6 (.t 6)⟩,⟨some 62,some (60,false),.ld 2 true (.t 61)⟩,⟨some 63,some (60,false),.fad 6 (.t 7)⟩,⟨some 64,some (60,false),.ld 2 true (.t 63)⟩,⟨some 65,some (60,false),.call 52 [.t 62,.t 64]⟩,⟨some 66,some (60,false),.un .not (.t 65)⟩,oP 67 (.pick (.t 60) (.c (.bool true)) (.t 66))] (.cond (.t 67) (sR [oP 4 (.mv (.c (.bool false)))] .ret) .skip))))) (.reg [mV 28 5,oP 29 (.bin .add (.t 28) (.c (.int .i64 1))),mV 5 29])))))) (sR [oP 4 (.mv (.c (.bool true)))] .ret)))
theorem dg21 : digF Tryz.prog Tryz.f21 = some (ic21,[(.t 4)]) := by kernel_rfl
theorem en21 : entr Tryz.prog 21 = true := by kernel_rfl
theorem c21 (d : Door) (hm : d.map.length ≤ 2000000) (hf : d.flows.length ≤ 2000000) (h : ∀ f ∈ d.flows,f.up.parts.length ≤ 2000000 ∧ f.down.parts.length ≤ 2000000) : FnR Tryz.prog G 21 [.agg [.sl 3 (d.map.map Pair.row),.sl 8 (d.flows.map Flw.row)],.agg [.sl 3 (d.map.map Pair.row),.sl 8 (d.flows.map Flw.row)]] (.bool true) := by
  refine FnR.mkF Tryz.func21 en21 dg21 Tryz.ntmps21 (by simp) ?_
  have f1 := c23 d.map hm
  simp only [ic21,go_sem]
  with_reducible repeat' (first | refine br ?_ ?_ <;> intro h e <;> (try simp only [e,go_sem]) <;> clear e | rw [i64w (by omega)] | (first | refine sk ?_ | refine sd ?_) <;> try simp only [go_sem] | (first | refine cr (f1 ..) ?_) <;> try simp only [go_sem] | fail)
  refine loopN (fun k : Nat => ⟨getL [(2,.pv 1002 0),(3,.pv 1003 0),(5,.int .i64 (k : Int))],getH [(1002,.var 30 [.sl 3 (d.map.map Pair.row),.sl 8 (d.flows.map Flw.row)]),(1003,.var 30 [.sl 3 (d.map.map Pair.row),.sl 8 (d.flows.map Flw.row)])]⟩) (fun k => d.flows.length - k) (fun k => k ≤ d.flows.length) 0 (leQ []) (Nat.zero_le _) ?_
  intro k hk
  simp only [go_sem]
  by_cases hk2 : (k : Int) < d.flows.length
  · have hil : k < d.flows.length := by omega
    have hg : d.flows.getD k default = d.flows[k] := by simp [List.getD,hil]
    have hb := h _ (List.getElem_mem hil)
    have s1 := c52 d.flows[k].up hb.1
    have s2 := c52 d.flows[k].down hb.2
    simp only [eq_true hk2,go_sem]
    with_reducible repeat' (first | refine br ?_ ?_ <;> intro h e <;> (try simp only [e,go_sem,hg,E.ext_iff']) <;> clear e | rw [i64w (by omega)] | (first | refine sk ?_ | refine sd ?_) <;> try simp only [go_sem,hg,E.ext_iff'] | (first | refine cr (s1 ..) ?_ | refine cr (s2 ..) ?_) <;> try simp only [go_sem,hg,E.ext_iff'] | fail)
    all_goals first
      | exact ⟨k + 1,by omega,by omega,(leQ [])⟩
      | skip
  · simp only [eq_false hk2,go_sem]
structure WB (w : M.World) : Prop where
  c : w.convs.length ≤ 2000000
  n : w.nets.length ≤ 2000000
  m : w.door.map.length ≤ 2000000
  f : w.door.flows.length ≤ 2000000
  s : ∀ f ∈ w.door.flows,f.up.parts.length ≤ 2000000 ∧ f.down.parts.length ≤ 2000000
def ic12 : IC := sR [oP 2 (.box 33 (.t 0)),oP 3 (.box 33 (.t 1)),oP 4 (.mv (.c (.bool false)))] (.seq (sR [fD 7 0 2,lD 8 1 7,oP 9 (.len (.t 8)),fD 10 0 3,lD 11 1 10,oP 12 (.len (.t 11)),bN 13 .neq 9 12,mV 14 13,⟨some 15,some (14,false),.fad 3 (.t 2)⟩,⟨some 16,some (14,false),.ld 1 false (.t 15)⟩,⟨some 17,some (14,false),.len (.t 16)⟩,⟨some 18,some (14,false),.fad 3 (.t 3)⟩,⟨some 19,some (14,false),.ld 1 false (.t 18)⟩,⟨some 20,some (14,false),.len (.t 19)⟩,⟨some 21,some (14,false),.bin .neq (.t 17) (.t 20)⟩,oP 22 (.pick (.t 14) (.c (.bool true)) (.t 21)),mV 23 22,⟨some 24,some (23,false),.fad 1 (.t 2)⟩,⟨some 25,some (23,false),.ld 2 true (.t 24)⟩,⟨some 26,some (23,false),.fad 1 (.t 3)⟩,⟨some 27,some (23,false),.ld 2 true (.t 26)⟩,⟨some 28,some (23,false),.call 21 [.t 25,.t 27]⟩,⟨some 29,some (23,false),.un .not (.t 28)⟩,oP 30 (.pick (.t 23) (.c (.bool true)) (.t 29))] (.cond (.t 30) (sR [oP 4 (.mv (.c (.bool false)))] .ret) .skip)) (.seq (sR [oP 5 (.mv (.c i0))] (.block 0 (.loop (.seq (sR [mV 31 5,fD 32 0 2,lD 33 1 32,oP 34 (.len (.t 33)),bN 35 .lss 31 34] (.cond (.t 35) .skip (.exit 0))) (.seq (.block 1 (.seq (.drw [0,1,0,7,15,0,32,0,224,480,1023] [(0,fD 38 0 2),(1,lD 39 1 38),(2,mV 40 5),(3,oP 41 (.iad 10 (.t 39) (.t 40))),(4,lA 42 10 41),(5,fD 43 0 3),(6,lD 44 1 43),(7,mV 45 5),(8,oP 46 (.iad 10 (.t 44) (.t 45))),(9,lA 47 10 46),(10,oP 48 (.eqs true [.i,.i,.i,.i,.s,.s,.i,.i,.s,.s] (.t 42) (.t 47)))]) (.cond (.t 48) (sR [oP 4 (.mv (.c (.bool false)))] .ret) .skip))) (.reg [mV 36 5,oP 37 (.bin .add (.t 36) (.c (.int .i64 1))),mV 5 37])))))) (.seq (sR [oP 6 (.mv (.c i0))] (.block 2 (.loop (.seq (sR [mV 49 6,fD 50 3 2,lD 51 1 50,oP 52 (.len (.t 51)),bN 53 .lss 49 52] (.cond (.t 53) .skip (.exit 2))) (.seq (.block 3 (.seq (.drw [0,1,0,7,15,0,32,0,224,480,1023] [(0,fD 56 3 2),(1,lD 57 1 56),(2,mV 58 6),(3,oP 59 (.iad 7 (.t 57) (.t 58))),(4,lA 60 7 59),(5,fD 61 3 3),(6,lD 62 1 61),(7,mV 63 6),(8,oP 64 (.iad 7 (.t 62) (.t 63))),(9,lA 65 7 64),(10,oP 66 (.eqs true [.i,.i,.i,.i,.i,.i,.s] (.t 60) (.t 65)))]) (.cond (.t 66) (sR [oP 4 (.mv (.c (.bool false)))] .ret) .skip))) (.reg [mV 54 6,oP 55 (.bin .add (.t 54) (.c (.int .i64 1))),mV 6 55])))))) (sR [oP 4 (.mv (.c (.bool true)))] .ret))))
theorem dg12 : digF Tryz.prog Tryz.f12 = some (ic12,[(.t 4)]) := by kernel_rfl
theorem en12 : entr Tryz.prog 12 = true := by kernel_rfl
theorem c12 (w : M.World) (hw : WB w) : FnR Tryz.prog G 12 [.agg [.sl 10 (w.convs.map Conv.row),.sl 3 (w.door.map.map Pair.row),.sl 8 (w.door.flows.map Flw.row),.sl 7 (w.nets.map Pk.row)],.agg [.sl 10 (w.convs.map Conv.row),.sl 3 (w.door.map.map Pair.row),.sl 8 (w.door.flows.map Flw.row),.sl 7 (w.nets.map Pk.row)]] (.bool true) := by
  refine FnR.mkF Tryz.func12 en12 dg12 Tryz.ntmps12 (by simp) ?_
  obtain ⟨h1,h2,h3,h4,h5⟩ := hw
  have f1 := c21 w.door h3 h4 h5
  simp only [ic12,go_sem]
  with_reducible repeat' (first | refine br ?_ ?_ <;> intro h e <;> (try simp only [e,go_sem]) <;> clear e | rw [i64w (by omega)] | (first | refine sk ?_ | refine sd ?_) <;> try simp only [go_sem] | (first | refine cr (f1 ..) ?_) <;> try simp only [go_sem] | fail)
  refine loopN (fun k : Nat => ⟨getL [(2,.pv 1002 0),(3,.pv 1003 0),(5,.int .i64 (k : Int))],getH [(1002,.var 33 [.sl 10 (w.convs.map Conv.row),.sl 3 (w.door.map.map Pair.row),.sl 8 (w.door.flows.map Flw.row),.sl 7 (w.nets.map Pk.row)]),(1003,.var 33 [.sl 10 (w.convs.map Conv.row),.sl 3 (w.door.map.map Pair.row),.sl 8 (w.door.flows.map Flw.row),.sl 7 (w.nets.map Pk.row)])]⟩) (fun k => w.convs.length - k) (fun k => k ≤ w.convs.length) 0 (leQ []) (Nat.zero_le _) ?_
  intro k hk
  simp only [go_sem]
  by_cases hk2 : (k : Int) < w.convs.length
  · have hil : k < w.convs.length := by omega
    have hg : w.convs.getD k default = w.convs[k] := by simp [List.getD,hil]
    simp only [eq_true hk2,go_sem]
    with_reducible repeat' (first | refine br ?_ ?_ <;> intro h e <;> (try simp only [e,go_sem,hg,E.ext_iff']) <;> clear e | rw [i64w (by omega)] | (first | refine sk ?_ | refine sd ?_) <;> try simp only [go_sem,hg,E.ext_iff'] | fail)
    exact ⟨k + 1,by omega,by omega,(leQ [])⟩
  simp only [eq_false hk2,go_sem]
  refine loopN (fun k : Nat => ⟨getL [(2,.pv 1002 0),(3,.pv 1003 0),(6,.int .i64 (k : Int))],getH [(1002,.var 33 [.sl 10 (w.convs.map Conv.row),.sl 3 (w.door.map.map Pair.row),.sl 8 (w.door.flows.map Flw.row),.sl 7 (w.nets.map Pk.row)]),(1003,.var 33 [.sl 10 (w.convs.map Conv.row),.sl 3 (w.door.map.map Pair.row),.sl 8 (w.door.flows.map Flw.row),.sl 7 (w.nets.map Pk.row)])]⟩) (fun k => w.nets.length - k) (fun k => k ≤ w.nets.length) 0 (leQ []) (Nat.zero_le _) ?_
  intro k hk
  simp only [go_sem]
  by_cases hk2 : (k : Int) < w.nets.length
  · have hil : k < w.nets.length := by omega
    have hg : w.nets.getD k default = w.nets[k] := by simp [List.getD,hil]
    simp only [eq_true hk2,go_sem]
    with_reducible repeat' (first | refine br ?_ ?_ <;> intro h e <;> (try simp only [e,go_sem,hg,E.ext_iff']) <;> clear e | rw [i64w (by omega)] | (first | refine sk ?_ | refine sd ?_) <;> try simp only [go_sem,hg,E.ext_iff'] | fail)
    exact ⟨k + 1,by omega,by omega,(leQ [])⟩
  · simp only [eq_false hk2,go_sem]
end Go.Proofs.YtblndjmhjaijjaaGreatDoor.W
namespace Go.Proofs.YtblndjmhjaijjaaGreatDoor.W
open Go Go.RowKit Go.Proofs Go.Proofs.YtblndjmhjaijjaaGreatDoor.VL
theorem m61 (B b : Nat) (bs : List Value) (s : ByteArray) (w : World) (h : Lib.IsBuilder 104 5 B b bs w) (hlen : bs.length + s.size ≤ 140737488355328) (hBw : B ≤ w.heap.size) :
    Calls Tryz.prog 61 #[.pointer (some ⟨b,0,none⟩),.string s] w fun e w' => e = .returned (.tuple #[.int .i64 s.size,.nilIface]) ∧ (Lib.BuilderAt 104 5 B b (.pointer (some ⟨b,0,none⟩)) (bs ++ Lib.strCells s) w' ∧ Below B w w') :=
  Any.Builder_WriteString (ρ := Tryz.lays156_ren) { Tryz.lays156 with } Tryz.Builder_Extra_156 B b bs s w h hlen hBw
theorem builder_stays {T e : TypeId} {B b : Nat} {bs : List Value} {w w' : World} (h : Lib.IsBuilder T e B b bs w) (hb : Below w.heap.size w w') : Lib.IsBuilder T e B b bs w' := by
  have hg : w.grownBy w' none := ⟨hb.os,hb.tape,hb.output,hb.size,fun k hk _ => hb.block k hk⟩
  have key : ∀ p,Lib.BuilderAt T e B b p bs w → Lib.BuilderAt T e B b p bs w' := fun p h => by
    have hlt := h.lt
    obtain ⟨hB,v,h1,h2,h3⟩ := h
    refine ⟨hB,v,(hb.block b hlt).trans h1,h2.kept hg ?_,h3⟩
    cases v.ownBlock with
    | none => exact .inl rfl
    | some k => exact .inr (by simp)
  exact h.imp (key _) (key _)
theorem hid {p : Prop} (h : p) : Hid p := h
set_option maxHeartbeats 2000000
set_option maxRecDepth 100000
theorem m170 (inn : ByteArray) (A : Option Addr) (n cap : Nat) (bk o : Nat) (hA : 0 < n → A = some ⟨bk,o,none⟩) (tx : List (List UInt8)) (w : World) (hn : tx.length = n) (hn2 : n ≤ 1000) (hbk : 0 < n → bk < w.heap.size) (hcap : n ≤ cap)
    (hc : ∀ (i : Nat) x,tx[i]? = some x → ∃ z : Int,w.cell? ⟨bk,o + (i * 2 + 0),none⟩ = some (.int .i64 z) ∧ w.cell? ⟨bk,o + (i * 2 + 1),none⟩ = some (.string ⟨x.toArray⟩)) (hlen : ∀ x,x ∈ tx → x.length ≤ 1000) :
    Calls Tryz.prog 170 #[.agg #[.string inn,.slice A n cap]] w fun e w' => e = .returned (.string ⟨tx.flatten.toArray⟩) ∧ Below w.heap.size w w' := by
  have e61 : ∀ args w,(callFunc 61 args).run Tryz.prog w = .ok (.enter 61 args) w := enters_of Tryz.func61 (by kernel_rfl) rfl
  have e64 : ∀ args w,(callFunc 64 args).run Tryz.prog w = .ok (.enter 64 args) w := enters_of Tryz.func64 (by kernel_rfl) rfl
  have HA := hid hA
  have Hc := hid hc
  have Hl := hid hlen
  have Hn := hid hn
  clear hA hc hlen hn
  go_enter Tryz.func170,Tryz.ntmps170
  go_wp2_with fail
  go_loopw [9] (fun i wr => ∃ k : Nat,k ≤ n ∧ i = .int .i64 k ∧ Hid (Lib.IsBuilder 104 5 w.heap.size (w.heap.size + 1) (Lib.byteCells (tx.take k).flatten) wr) ∧ Hid (Below w.heap.size w wr)) (fun i _ => n - (intOf i).toNat)
  case atStart =>
    refine ⟨0,Nat.zero_le _,rfl, ?_, ?_⟩
    · refine .inl ⟨Nat.le_succ _,.slice none 0 0, ?_,World.ownsRow_nil _ _ _ _,by simp [Value.ownBlock]⟩
      have := heap_alloc_new (w.alloc (Obj.cells #[Value.string inn,Value.slice A n cap] 89)) (Obj.cells #[Value.pointer none,Value.slice none 0 0] 104)
      simpa using this
    · exact ((Below.refl w.heap.size w).alloc (Nat.le_refl _) _).alloc (by simp) _
  case round =>
    obtain ⟨k,hk,rfl,HB,HW⟩ := hrel
    have hBw : w.heap.size ≤ wr.heap.size := HW.out.size
    by_cases hkn : k < n
    · obtain ⟨x,hx⟩ : ∃ x,tx[k]? = some x := ⟨tx[k]'(by have := Hn.out; omega),List.getElem?_eq_getElem _⟩
      obtain rfl := HA.out (by omega)
      obtain ⟨z,hc0,hc1⟩ := Hc.out k x hx
      have hbk' : bk < w.heap.size := hbk (by omega)
      have hd0 : wr.cell? ⟨bk,o + k * 2,none⟩ = some (.int .i64 z) := by
        rw [HW.out.cell (p := ⟨bk,o + k * 2,none⟩) hbk']
        exact hc0
      have hd1 : wr.cell? ⟨bk,o + k * 2 + 1,none⟩ = some (.string ⟨x.toArray⟩) := by
        rw [HW.out.cell (p := ⟨bk,o + k * 2 + 1,none⟩) hbk']
        exact hc1
      have Hx := hid hx
      clear hc0 hc1 hx
      have hxl := Hl.out x (List.mem_of_getElem? Hx.out)
      have hfl : ∀ (l : List (List UInt8)) (m : Nat),(∀ y,y ∈ l → y.length ≤ 1000) → l.length ≤ m → l.flatten.length ≤ m * 1000 := by
        intro l
        induction l with
        | nil => intro m _ _; simp
        | cons a l ih =>
          intro m h1 h2
          obtain ⟨m,rfl⟩ : ∃ q,m = q + 1 := ⟨m - 1,by simp at h2; omega⟩
          have := ih m (fun y hy => h1 y (List.mem_cons_of_mem _ hy)) (by simpa using h2)
          have := h1 a List.mem_cons_self
          simp only [List.flatten_cons,List.length_append]
          omega
      have hl1 := hfl (tx.take k) 1000 (fun y hy => Hl.out y (List.mem_of_mem_take hy)) (by simp; omega)
      have hnext : Lib.byteCells (tx.take k).flatten ++ Lib.strCells ⟨x.toArray⟩ = Lib.byteCells (tx.take (k + 1)).flatten := by
        rw [List.take_add_one,Hx.out]
        simp [Lib.strCells_eq,Lib.byteCells_append]
      have Hn' := hid hnext
      have Hl1 := hid hl1
      have Hxl := hid hxl
      clear hnext hl1 hxl hfl
      go_wp2_with fail
      have hbel : Below wr.heap.size wr (wr.alloc (Obj.cells #[Value.int IntKind.i64 z,Value.string { data := x.toArray }] 163)) := (Below.refl _ _).alloc (Nat.le_refl _) _
      refine (m61 w.heap.size (w.heap.size + 1) _ ⟨x.toArray⟩ _ (builder_stays HB.out hbel) ?hl (Nat.le_trans hBw hbel.size)).mono ?_
      case hl =>
        have h1 := Hl1.out
        have h2 := Hxl.out
        rw [Lib.byteCells_length]
        simp only [ByteArray.size,List.size_toArray]
        omega
      rintro e w3 ⟨rfl,h3,hb3⟩
      rw [Hn'.out] at h3
      have H3 := hid (Or.inr h3 : Lib.IsBuilder 104 5 w.heap.size (w.heap.size + 1) _ w3)
      have Hb3 := hid ((HW.out.trans (hbel.mono hBw)).trans hb3)
      clear h3 hb3 hbel
      go_wp2
      exact ⟨⟨k + 1,by omega,by go_num,H3,Hb3⟩,by simp [intOf]; omega⟩
    · obtain rfl : k = n := by omega
      have hB' := HB.out
      rw [List.take_of_length_le (by rw [Hn.out]; omega)] at hB'
      go_wp2_with fail
      refine (Tryz.Builder_String_any w.heap.size (w.heap.size + 1) _ wr hB' hBw).mono ?_
      rintro e w5 ⟨rfl,hb5⟩
      have Hb5 := hid (HW.out.trans hb5)
      clear hb5 hB'
      go_wp2
      go_ret
      exact ⟨rfl,Hb5.out⟩
theorem e170 : entr Tryz.prog 170 = true := by kernel_rfl
theorem c170 (s : M.Strm) (h : M.StrB s) : FnR Tryz.prog G 170 [.agg [.str s.inn,.sl 2 (s.parts.map M.Part.row)]] (.str (M.sOut s)) where
  en := e170
  ne := ⟨_,_,rfl,rfl⟩
  run := fun W ρ ext us hg hlt hno hng r hargs => by
    obtain ⟨u,rfl,hd⟩ := us_one hargs
    obtain ⟨fs,rfl,hfl,hf⟩ := hd
    have hc : chH [] = fun _ => .fresh := by funext x; simp [chH]
    have fin : ∀ e (W' : World),e = Ending.returned (.string (mkStr (M.sOut s))) → Below W.heap.size W W' → ∃ u res out ρ',e = .returned u ∧ (res = V.str (M.sOut s) ∧ out = []) ∧ RelH ⟨W,blocks ρ (chH []),ext,0,ρ⟩ ρ' (chH out) W' ∧
        Den W' (owns ⟨W,blocks ρ (chH []),ext,0,ρ⟩ ρ' (chH out)) ρ' (chH out) res u := fun e W' he hb => by
      refine ⟨_,_,[],fun _ => default,he,⟨rfl,rfl⟩,⟨hb.os,hb.tape,hb.output,hb.size,fun b hb1 _ => hb.block b hb1,fun c => (by rw [hc]; trivial),fun c hl => (by rw [hc] at hl; cases hl),fun c c' hl => (by rw [hc] at hl; cases hl),fun i hi => absurd hi (Nat.not_lt_zero _)⟩,Imm.str _⟩
    match fs,hfl with
    | [a,b],_ =>
      have ha : a = .string (mkStr s.inn) := inv_str (hf 0 _ _ rfl rfl)
      subst ha
      have hb : Imm W _ (.sl 2 (s.parts.map M.Part.row)) b := hf 1 _ _ rfl rfl
      have hout : (s.parts.map fun p => p.text).flatten = M.sOut s := by simp [M.sOut,List.flatMap]
      have key : ∀ (A : Option Addr) (cap bk o : Nat),b = .slice A s.parts.length cap → s.parts.length ≤ cap → (0 < s.parts.length → A = some ⟨bk,o,none⟩) → (0 < s.parts.length → bk < W.heap.size) →
          (∀ (i : Nat) x,(s.parts.map fun p => p.text)[i]? = some x → ∃ z : Int,W.cell? ⟨bk,o + (i * 2 + 0),none⟩ = some (.int .i64 z) ∧ W.cell? ⟨bk,o + (i * 2 + 1),none⟩ = some (.string ⟨x.toArray⟩)) →
          Calls Tryz.prog 170 #[.agg #[.string (mkStr s.inn),b]] W fun e W' => ∃ u res out ρ',e = .returned u ∧ (res = V.str (M.sOut s) ∧ out = []) ∧ RelH ⟨W,blocks ρ (chH []),ext,0,ρ⟩ ρ' (chH out) W' ∧
            Den W' (owns ⟨W,blocks ρ (chH []),ext,0,ρ⟩ ρ' (chH out)) ρ' (chH out) res u := fun A cap bk o hb hcap hA hbk hcells => by
        subst hb
        refine (m170 (mkStr s.inn) A s.parts.length cap bk o hA (s.parts.map fun p => p.text) W (by simp) (by have := h.2.1; omega) hbk hcap hcells (fun x hx => ?_)).mono fun e W' ⟨he,hb⟩ => fin e W' (by rw [he,hout]; rfl) hb
        obtain ⟨p,hp,rfl⟩ := List.mem_map.1 hx
        have := h.2.2 p hp
        omega
      generalize hR : s.parts.map M.Part.row = R at hb
      have hRl : R.length = s.parts.length := by rw [← hR]; simp
      cases hb with
      | esl _ A cap =>
        have hz : s.parts.length = 0 := by rw [← hRl]; rfl
        refine key A cap 0 0 (by rw [hz]) (by omega) (fun h => by omega) (fun h => by omega) fun i x hx => ?_
        have := (List.getElem?_eq_some_iff.1 hx).1
        simp at this
        omega
      | sl _ _ blk off cap cs h1 h2 h3 h4 h5 h6 h7 =>
        refine key _ cap blk off (by rw [← hRl]) (by omega) (fun _ => rfl) (fun _ => h2) fun i x hx => ?_
        obtain ⟨p,hp,rfl⟩ : ∃ p,s.parts[i]? = some p ∧ p.text = x := by simpa using hx
        have hr : R[i]? = some (M.Part.row p) := by rw [← hR]; simp [hp]
        have a0 := h6 i _ 0 _ hr rfl
        have a1 := h6 i _ 1 _ hr rfl
        have b0 := inv_int (h7 i _ 0 _ hr rfl)
        have b1 := inv_str (h7 i _ 1 _ hr rfl)
        rw [b0] at a0
        rw [b1] at a1
        exact ⟨_,a0,a1⟩
end Go.Proofs.YtblndjmhjaijjaaGreatDoor.W
namespace Go.Proofs.YtblndjmhjaijjaaGreatDoor.W
open Go Go.RowKit Go.Proofs Go.Proofs.YtblndjmhjaijjaaGreatDoor.VL Go.Proofs.YtblndjmhjaijjaaGreatDoor.M
attribute [local congr] optK_congr guardK_congr condK_congr runT_congr runD_congr wpI_congr CallV_congr LoopI_congr pureK_congr effK_congr calK_congr stepV_congr doV_congr exN_congr exB_congr retF_congr retQ_congr gK_congr condW_congr ldK_congr stoK_congr
attribute [local go_sem] argL_cons argL_nil argH_nil argH_cons chH_getH wpI_seq wpI_reg wpI_drw wpI_ret cond_k condW_t condW_f wpI_skip wpI_block wpI_exit wpI_loop exN_n exN_r exN_e exB_n exB_r exB_h exB_m runT_k kT_e runT_nil runD_k kD_e runD_nil step_u step_k gK_t gK_f do_mv do_bino bo_add bo_sub bo_mul bo_subu bo_quo bo_rem bo_xor bo_eql bo_neq bo_lss bo_leq bo_gtr bo_geq bo_cat bo_eqs bo_nes do_pick do_call do_cal calK_f do_box do_alloc do_ldk ldK_s do_stok stoK_s do_fad do_nilc do_not do_neg do_len do_lens do_ext do_eqs do_beq do_isn do_cvi do_sls do_idx do_mn do_mx do_build do_mkf do_s2b do_b2s do_slv do_iad do_bsl do_mks do_app ev_t ev_c app_some app_none
attribute [local go_sem] List.nil_append List.cons_append List.append_nil getL_hit getL_miss getH_nil getH_hit getH_miss nm_eq ne_eq Nat.reduceEqDiff not_false_eq_true Nat.reduceAdd Nat.add_zero Nat.zero_add if_true if_false ite_true ite_false pureK_s effK_s optK_s gdV_t gdV_f gdV_s pick_b ge_iff_le gt_iff_lt cond_true cond_false fresh_k cells_agg cells_int cells_bool cells_str cells_own cells_sl cells_nils ld_pv ld_pa ld_ip ldVar_t ldVar_f ldArr_t ldArr_f ldRow_t ldRow_f ldA_s ld1_s fad_pv fad_pa fad_ip nilc_pv nilc_pa nilc_ip not_b neg_i cvi_i ext_t retF_n retF_r
attribute [local go_sem] resV_k rvs_nil rvs_t rvs_c fstO_s consO_s resK_s resL_1 resL_2 resL_3 resL_4  Option.some.injEq List.map_cons List.map_nil List.all_cons List.all_nil Bool.and_true Bool.and_self Bool.not_true Bool.not_false Option.map_some Option.map_none sls_s slsG_s loV_n loV_i hiV_n hiV_i idx_s mn_i mx_i s2b_s b2s_s bytO_s bytes_nil bytes_cons conB_s slv_sl slv_own slv_nils slvG_s slvN_s slvO_s iad_sl iadG_map take_map drop_map List.length_map iad_own iad_view iadO_a iadW_a mks_i rowO_nils rowO_sl rowO_own rowA_a eq_self appG_nils appG_own appO_a guardP_T mapA_s bld_nil mkf_nil bldF_e fill_nil fill_cons mkf_e lens_s len_nils len_sl len_own len_view isn_nile isn_erre List.getElem?_cons_zero List.getElem?_cons_succ List.length_cons List.length_nil decide_true decide_false Int.toNat_natCast Int.cast_ofNat_Int Int.reduceLT Int.reduceLE Int.reduceEq Int.reduceAdd Int.reduceSub Int.reduceMul Int.reduceNeg Int.reduceToNat List.getD_cons_zero List.getD_cons_succ not_true_eq_false not_false_eq_true Bool.false_eq_true Bool.true_eq_false reduceCtorEq
attribute [local go_sem] E.row Pc.row Pair.row Part.row Strm.row Flw.row Pk.row Door.row Conv.row World.row Ev.row rdV E.eta Pc.eta Pair.eta Part.eta Strm.eta Pk.eta Flw.eta Conv.eta Door.eta World.eta Ev.eta
attribute [local go_sem] sub_ok st_pv st_pa stVar_v stArr_a Nat.le_refl List.drop_zero List.drop_succ_cons List.take_succ_cons List.take_zero setR Nat.reduceLeDiff
attribute [local go_sem] wk_bot wk2_bot wk1_bot wk_undef wk_tup_e wk2_agg_e wk_agg_e wk1_fn_e wk2_fn_e wk_fn_e wkl_nil wkl_cons wkh_var_e wkh_arr_e wkh_fresh_e wkh_dead_v wkh_dead_a wkh_dead_d wk0_undef wk0_int wk0_bool wk0_str wk0_nils wk0_nils_sl wk0_nilp wk0_nile wk0_erre wk0_sl wk0_iptr wk0_own wk0_view wk0_pv wk0_pa fzA_a fzW_a fzP_v wk0_own_sl wk0_view_sl wk0_pv_iptr WkS_nil WkS_cons WkN_nil WkN_cons nonB_nil nonB_cons getN_nil getN_hit getN_miss pinOk_0 pinOk_s and_true true_and and_self
attribute [local go_sem] bot_int one_int unt_int clo_int bot_bool one_bool unt_bool clo_bool bot_str one_str unt_str clo_str bot_nils one_nils unt_nils clo_nils bot_nilp one_nilp unt_nilp clo_nilp bot_nile one_nile unt_nile clo_nile bot_erre one_erre unt_erre clo_erre bot_raw one_raw unt_raw clo_raw bot_sl one_sl unt_sl clo_sl bot_own one_own unt_own clo_own bot_view one_view unt_view clo_view bot_pv one_pv unt_pv clo_pv bot_pa one_pa unt_pa clo_pa bot_iptr one_iptr unt_iptr clo_iptr unt_agg unt_fn one_fn
attribute [local go_sem] rn_tup rn_agg rn2_agg rn_fn rn2_fn rnfn1 rn_bot rn2_bot rn1_bot rn0_int rn0_bool rn0_str rn0_nils rn0_nilp rn0_nile rn0_erre rn0_sl rn0_iptr rn0_own rn0_view rn0_pv rn0_pa hrn_var hrn_arr hrn_dead outU_nil outU_cons deads_nil deads_cons bk_ge bk_lt nsF_0 nsF_s chH_0 chH_s chH_n newN_e andB_s eqR_nil eqR_i eqR_b eqR_s mapX_f mapX_t eqs_a beq_f beq_t live_arr live_var nsl_nil nsl_cons Nat.reduceMul Nat.reduceLT Nat.zero_le Nat.not_lt_zero
attribute [local go_sem] mV lD lA fD bN eX oP nP sR i0 s0
structure PutOk (m : List Pair) (s : Strm) (n : Int) (t : B) : Prop where
  m : mapOk m = true
  s : strmOk s = true
  n : 0 ≤ n ∧ n ≤ 999
  t : t.length ≤ 40
def ic172 : IC := sR [oP 5 (.box 89 (.t 0)),oP 10 (.mv (.c .nils)),oP 11 (.alloc 89 [s0,.nils]),oP 12 (.mv (.c (.bool false)))] (sR [fD 24 0 5,lD 25 1 24,mV 26 2,mV 27 3,oP 28 (.call 192 [.t 25,.t 26,.t 27]),mV 23 28,eX 29 23 0,eX 30 23 1,mV 13 29,mV 14 30] (.seq (sR [mV 31 14,oP 32 (.un .not (.t 31))] (.cond (.t 32) (.seq (.drw [0,0,1,7,15] [(0,mV 33 1),(1,lA 34 2 5),(2,mV 10 33),(3,nP (.sto 2 (.t 11) (.t 34))),(4,oP 12 (.mv (.c (.bool false))))]) .ret) .skip)) (.seq (.drw [0,1,0,4,12,31,63] [(0,mV 35 13),(1,oP 36 (.call 91 [.t 35])),(2,fD 37 1 5),(3,lD 38 1 37),(4,oP 39 (.len (.t 38))),(5,oP 40 (.slv 4 (.t 36) (some (.t 39)) none)),(6,mV 15 40)]) (sR [oP 16 (.mv (.c i0))] (.seq (sR [fD 41 1 5,lD 42 1 41,oP 43 (.len (.t 42)),oP 44 (.mv (.c i0))] (.block 0 (.loop (sR [bN 45 .lss 44 43] (.seq (.cond (.t 45) .skip (.exit 0)) (.seq (.block 1 (sR [oP 46 (.iad 2 (.t 42) (.t 44)),lA 47 2 46,oP 18 (.alloc 163 [i0,s0]),nP (.sto 2 (.t 18) (.t 47))] (.reg [mV 48 16,fD 49 0 18,lD 50 1 49,bN 51 .add 48 50,mV 16 51]))) (.reg [oP 52 (.bin .add (.t 44) (.c (.int .i64 1))),mV 44 52]))))))) (sR [mV 54 1,mV 55 15,mV 56 13,mV 57 16,oP 58 (.sls (.t 56) (some (.t 57)) none),mV 59 4,oP 60 (.call 204 [.t 54,.t 55,.t 58,.t 59]),mV 53 60,eX 61 53 0,eX 62 53 1,mV 19 61,mV 20 62] (sR [mV 63 13,fD 64 1 5,lD 65 1 64,oP 66 (.call 203 [.t 65]),oP 67 (.build [s0,.nils] [(0,(1,.t 63)),(1,(1,.t 66))]),nP (.sto 2 (.t 5) (.t 67))] (.seq (sR [mV 68 15,oP 69 (.len (.t 68)),oP 70 (.mv (.c i0))] (.block 2 (.loop (sR [bN 71 .lss 70 69] (.seq (.cond (.t 71) .skip (.exit 2)) (.seq (.block 3 (sR [mV 72 70,oP 73 (.iad 4 (.t 68) (.t 70)),lA 74 4 73,oP 22 (.alloc 75 [i0,.bool false,i0,i0]),mV 21 72,nP (.sto 4 (.t 22) (.t 74))] (.drw [0,1,0,4,0,0,48,112,252,508,1023,2047,4095] [(0,fD 75 1 5),(1,lD 76 1 75),(2,fD 77 0 22),(3,lD 78 1 77),(4,mV 79 20),(5,mV 80 21),(6,oP 81 (.iad 1 (.t 79) (.t 80))),(7,lD 82 1 81),(8,oP 83 (.build [i0,s0] [(0,(1,.t 78)),(1,(1,.t 82))])),(9,oP 84 (.bsl 163 2 [.t 83])),(10,oP 85 (.app 163 2 (.t 76) (.t 84))),(11,fD 86 1 5),(12,nP (.sto 1 (.t 86) (.t 85)))]))) (.reg [oP 87 (.bin .add (.t 70) (.c (.int .i64 1))),mV 70 87]))))))) (.seq (.drw [0,0,1,7,15] [(0,mV 88 19),(1,lA 89 2 5),(2,mV 10 88),(3,nP (.sto 2 (.t 11) (.t 89))),(4,oP 12 (.mv (.c (.bool true))))]) .ret)))))))))
theorem dg172 : digF Tryz.prog Tryz.f172 = some (ic172,[(.t 10),(.cell 11 2 true),(.t 12)]) := by kernel_rfl
theorem en172 : entr Tryz.prog 172 = true := by kernel_rfl
theorem c172 (m : List Pair) (s : Strm) (n : Int) (t : B) (out : Bool) (h : PutOk m s n t) : FnR Tryz.prog G 172 [.agg [.str s.inn,.sl 2 (s.parts.map Part.row)],.sl 3 (m.map Pair.row),.int .i64 n,.str t,.bool out]
    (.tup [.sl 3 ((put m s n t out).1.map Pair.row),.agg [.str (put m s n t out).2.1.inn,.sl 2 ((put m s n t out).2.1.parts.map Part.row)],.bool (put m s n t out).2.2]) := by
  refine FnR.mkF Tryz.func172 en172 dg172 Tryz.ntmps172 (by simp) ?_
  obtain ⟨hm,hs,hn,ht⟩ := h
  obtain ⟨hp,hml⟩ := mapOk_ports hm
  obtain ⟨s1,s2,s3⟩ := strmOk_B hs
  simp only [ic172,go_sem]
  refine callR (c192 s.inn n t (by omega) (by omega) (by omega)) rfl rfl ?_
  simp only [go_sem]
  cases hb : (behind s.inn n t).2 <;> simp only [go_sem]
  · with_reducible repeat' (first | rw [i64w (by omega)]; try simp only [go_sem] | refine br ?_ ?_ <;> intro h e <;> (try simp only [e,go_sem]) <;> clear e | (first | refine sk ?_ | refine sd ?_) <;> try simp only [go_sem] | fail)
    simp [put,hb]
  obtain ⟨x,hx,hx40⟩ := behind_app hb
  obtain ⟨f1,f2,f3,f4⟩ := put_fits hs x
  have hpl := pieces_len (behind s.inn n t).1
  have hput : put m s n t out = ((turned m ((pieces (behind s.inn n t).1).drop s.parts.length) ((behind s.inn n t).1.drop (doneP s.parts)) out).1,
      ⟨(behind s.inn n t).1,s.parts ++ mkParts ((pieces (behind s.inn n t).1).drop s.parts.length) (turned m ((pieces (behind s.inn n t).1).drop s.parts.length) ((behind s.inn n t).1.drop (doneP s.parts)) out).2⟩,true) := by
    simp [put,hb]
  rw [hput]
  rw [← hx] at f1 f2 f3 f4
  generalize (behind s.inn n t).1 = inn at *
  have hil : inn.length ≤ 80 := by rw [hx]; simp; omega
  with_reducible repeat' (first | rw [i64w (by omega)]; try simp only [go_sem] | refine br ?_ ?_ <;> intro h e <;> (try simp only [e,go_sem]) <;> clear e | (first | refine sk ?_ | refine sd ?_) <;> try simp only [go_sem] | (first | refine cr (c91 ..) ?_) <;> try simp only [go_sem] | fail)
  refine loopN (fun i : Nat => ⟨getL [(1,.sl 3 (m.map Pair.row)),(4,.bool out),(5,.pv 1005 0),(11,.pv 1011 0),(13,.str inn),(15,.sl 4 (((pieces inn).drop s.parts.length).map Pc.row)),(16,.int .i64 (doneP (s.parts.take i))),(42,.sl 2 (s.parts.map Part.row)),(43,.int .i64 s.parts.length),(44,.int .i64 (i : Int))],
    getH [(1005,.var 89 [.str s.inn,.sl 2 (s.parts.map Part.row)]),(1011,.var 89 [.str [],.nils])]⟩) (fun i => s.parts.length - i) (fun i => i ≤ s.parts.length) 0 ?_ (Nat.zero_le _) ?_
  · refine leN [] ?_ (by simp only [go_sem]) (by simp [getN]) (by simp only [go_sem])
    simp only [go_sem]
    rw [List.take_length]; exact ⟨rfl,rfl⟩
  intro i hi
  simp only [go_sem]
  have hdl := doneL_le (l := s.parts) (fun p hp => (s3 p hp).1.2) i
  by_cases h : (i : Int) < s.parts.length
  · have hil : i < s.parts.length := by omega
    have hst := doneL_step hil
    have h3' := (s3 _ (List.getElem_mem hil)).1
    have hg : s.parts.getD i default = s.parts[i] := by simp [List.getD,hil]
    simp only [eq_true h,go_sem]
    refine effG (by omega) ?_
    simp only [hg,go_sem]
    with_reducible repeat' (first | rw [i64w (by omega)]; try simp only [go_sem] | refine br ?_ ?_ <;> intro h e <;> (try simp only [e,go_sem]) <;> clear e | (first | refine sk ?_ | refine sd ?_) <;> try simp only [go_sem] | fail)
    refine ⟨i + 1,by omega,by omega,leN [] (by simp only [go_sem,hst]; omega) (by simp only [go_sem]) (by simp [getN]) (by simp only [go_sem])⟩
  · simp only [eq_false h,go_sem]
    have : i = s.parts.length := by omega
    subst this
    rw [List.take_length] at *
    with_reducible repeat' (first | rw [i64w (by omega)]; try simp only [go_sem] | refine br ?_ ?_ <;> intro h e <;> (try simp only [e,go_sem]) <;> clear e | (first | refine sk ?_ | refine sd ?_) <;> try simp only [go_sem] | fail)
    rw [List.take_length]
    refine callR (c204 m _ _ out hp (by omega) (by simp; omega) (by simp; omega) f4) rfl rfl ?_
    simp only [go_sem]
    refine callO (c203 (s.parts.map Part.row) (by simp; omega)) [] 66 1 (by simp only [go_sem]; first | done | simp) (by simp) (by rintro _ _ ⟨rfl,rfl⟩; simp) (by intro i hi; obtain rfl : i = 0 := (by omega); simp only [go_sem]) ?_
    rintro _ _ ⟨rfl,rfl⟩
    simp only [go_sem]
    have htl := turned_len ((pieces inn).drop s.parts.length) m (inn.drop (doneP s.parts)) out
    generalize turned m ((pieces inn).drop s.parts.length) (inn.drop (doneP s.parts)) out = r at *
    have hll : ((pieces inn).drop s.parts.length).length ≤ 80 := by simp; omega
    generalize (pieces inn).drop s.parts.length = l at *
    refine loopN (fun i : Nat => ⟨getL [(5,.pv 1005 0),(11,.pv 1011 0),(19,.sl 3 (r.1.map Pair.row)),(20,.sl 1 (r.2.map fun x => [.str x])),(68,.sl 4 (l.map Pc.row)),(69,.int .i64 l.length),(70,.int .i64 (i : Int))],
      getH [(1005,.var 89 [.str inn,.own 106600 (s.parts.length + i)]),(1011,.var 89 [.str [],.nils]),(106600,.arr 163 2 ((s.parts ++ mkParts (l.take i) (r.2.take i)).map Part.row))]⟩) (fun i => l.length - i) (fun i => i ≤ l.length) 0 ?_ (Nat.zero_le _) ?_
    · refine leN [] (by simp only [go_sem]; first | done | rfl) ?_ (by simp [getN]) (by simp only [go_sem])
      simp only [go_sem]; simp [mkParts]
    intro i hi
    simp only [go_sem]
    by_cases h2 : (i : Int) < l.length
    · have hil2 : i < l.length := by omega
      have hst := mkParts_step l r.2 i htl hil2
      have hml : (mkParts (l.take i) (r.2.take i)).length = i := by
        rw [mkParts_len (by simp; omega)]; simp; omega
      have hml2 : (s.parts ++ mkParts (l.take i) (r.2.take i)).length = s.parts.length + i := by simp [hml]
      simp only [eq_true h2,go_sem]
      refine effG (by omega) ?_
      simp only [go_sem]
      with_reducible repeat' (first | rw [i64w (by omega)]; try simp only [go_sem] | refine br ?_ ?_ <;> intro h e <;> (try simp only [e,go_sem]) <;> clear e | (first | refine sk ?_ | refine sd ?_) <;> try simp only [go_sem] | fail)
      refine ⟨i + 1,by omega,by omega,leN [(106600,1085)] ?_ ?_ (by simp [getN]) (by simp only [go_sem])⟩
      · simp only [go_sem]; omega
      · simp only [go_sem,hst]; simp [Part.row]; omega
    · simp only [eq_false h2,go_sem]
      have : i = l.length := by omega
      subst this
      rw [List.take_length,← htl,List.take_length]
      with_reducible repeat' (first | rw [i64w (by omega)]; try simp only [go_sem] | refine br ?_ ?_ <;> intro h e <;> (try simp only [e,go_sem]) <;> clear e | (first | refine sk ?_ | refine sd ?_) <;> try simp only [go_sem] | fail)
      first | exact ⟨rfl,by rw [List.length_append,mkParts_len htl,htl]⟩ | rw [List.length_append,mkParts_len htl,htl]
end Go.Proofs.YtblndjmhjaijjaaGreatDoor.W
namespace Go.Proofs.YtblndjmhjaijjaaGreatDoor.M
theorem mapOk_iff {m : List Pair} : mapOk m = true ↔ m.length ≤ 8 ∧ ∀ (i : Nat) p,m[i]? = some p → p.port = 10 + (i : Int) ∧ p.ins.inside = true ∧ (m.take i).any (fun q => decide (q.ins = p.ins)) = false := by
  simp only [mapOk,Bool.and_eq_true,List.all_eq_true,List.mem_range,decide_eq_true_eq]
  constructor
  · rintro ⟨h1,h2⟩
    refine ⟨h2,fun i p hp => ?_⟩
    have hi : i < m.length := (List.getElem?_eq_some_iff.1 hp).1
    have := h1 i hi
    simp only [okPair,hp,Bool.and_eq_true,decide_eq_true_eq,Bool.not_eq_true'] at this
    exact ⟨this.1.1,this.1.2,this.2⟩
  · rintro ⟨h1,h2⟩
    refine ⟨fun i hi => ?_,h1⟩
    obtain ⟨a,b,c⟩ := h2 i m[i] (List.getElem?_eq_getElem hi)
    simp only [okPair,List.getElem?_eq_getElem hi,a,b,c]
    simp
theorem mOut_ok {m : List Pair} {e : E} (h : mapOk m = true) (he : e.inside = true) : mapOk (mOut m e).1 = true := by
  unfold mOut
  split
  · exact h
  · rename_i hf
    split
    · exact h
    · rename_i hl
      rw [List.find?_eq_none] at hf
      obtain ⟨h1,h2⟩ := mapOk_iff.1 h
      refine mapOk_iff.2 ⟨by simp; omega,fun i p hp => ?_⟩
      by_cases hi : i < m.length
      · rw [List.getElem?_append_left hi] at hp
        obtain ⟨a,b,c⟩ := h2 i p hp
        refine ⟨a,b, ?_⟩
        rw [List.take_append_of_le_length (by omega)]
        exact c
      · have hil := (List.getElem?_eq_some_iff.1 hp).1
        simp only [List.length_append,List.length_cons,List.length_nil] at hil
        obtain rfl : i = m.length := by omega
        rw [List.getElem?_append_right (Nat.le_refl _)] at hp
        simp only [Nat.sub_self,List.getElem?_cons_zero,Option.some.injEq] at hp
        subst hp
        refine ⟨rfl,he, ?_⟩
        rw [List.take_left',List.any_eq_false]
        · exact hf
        · rfl
theorem mOut_door {m : List Pair} {e : E} (h : mapOk m = true) (hok : (mOut m e).2.2 = true) : (⟨9,(mOut m e).2.1⟩ : E).door = true := by
  rw [E.door_iff]
  unfold mOut at hok ⊢
  obtain ⟨h1,h2⟩ := mapOk_iff.1 h
  split
  · rename_i p hf
    have := List.mem_of_find?_eq_some hf
    obtain ⟨i,hi,rfl⟩ := List.mem_iff_getElem.1 this
    obtain ⟨a,_,_⟩ := h2 i _ (List.getElem?_eq_getElem hi)
    refine ⟨rfl, ?_⟩
    simp only [a]; omega
  · split
    · rename_i hf hl
      simp only [hf,if_pos hl] at hok
      cases hok
    · refine ⟨rfl, ?_⟩
      simp only; omega
theorem insideOf_ok {m : List Pair} {n : Int} {e : E} (h : mapOk m = true) (hi : insideOf m n = some e) : e.inside = true := by
  unfold insideOf at hi
  obtain ⟨p,hp,rfl⟩ := Option.map_eq_some_iff.1 hi
  have := List.mem_of_find?_eq_some hp
  obtain ⟨i,hil,rfl⟩ := List.mem_iff_getElem.1 this
  exact (mapOk_at h hil).2
theorem name_ok (e : E) : (name e).all okB = true := by
  simp only [name,List.all_cons,List.all_append,text_ok,List.all_nil]; decide
theorem inside_any {e : E} (h : e.inside = true) : e.any = true := by simp [E.any,h]
theorem door_any {e : E} (h : e.door = true) : e.any = true := by simp [E.any,h]
theorem turn_mapOk {m : List Pair} (h : mapOk m = true) (p : Pc) (s : B) (out : Bool) : mapOk (turn m p s out).1 = true := by
  cases out
  · exact h
  · simp only [turn,cond_true,pieceOut]
    split
    · rename_i hc
      rw [Bool.and_eq_true] at hc
      have := mOut_ok h hc.2
      rcases hmo : mOut m p.e with ⟨x,port,ok⟩
      rw [hmo] at this
      cases ok
      · exact h
      · exact this
    · exact h
theorem turn_txt {m : List Pair} (h : mapOk m = true) (p : Pc) {s : B} (out : Bool) (hs : 1 ≤ s.length ∧ s.length ≤ 6) (hok : s.all okB = true) :
    (1 ≤ (turn m p s out).2.length ∧ (turn m p s out).2.length ≤ 6) ∧ (turn m p s out).2.all okB = true := by
  cases out
  · simp only [turn,cond_false,pieceIn]
    split
    · split
      · rename_i e he
        have := name_len (inside_any (insideOf_ok h he))
        refine ⟨?_,name_ok e⟩
        have hl := name_le e
        split at this <;> omega
      · exact ⟨hs,hok⟩
    · exact ⟨hs,hok⟩
  · simp only [turn,cond_true,pieceOut]
    split
    · have hd := mOut_door (e := p.e) h
      rcases hmo : mOut m p.e with ⟨x,port,ok⟩
      rw [hmo] at hd
      cases ok
      · exact ⟨hs,hok⟩
      · have := name_len (door_any (hd rfl))
        have hl := name_le ⟨9,port⟩
        refine ⟨?_,name_ok _⟩
        simp only at this ⊢
        split at this <;> omega
    · exact ⟨hs,hok⟩
theorem all_take {s : B} {n : Nat} (h : s.all okB = true) : (s.take n).all okB = true := by
  rw [List.all_eq_true] at h ⊢; exact fun b hb => h b (List.mem_of_mem_take hb)
theorem all_drop {s : B} {n : Nat} (h : s.all okB = true) : (s.drop n).all okB = true := by
  rw [List.all_eq_true] at h ⊢; exact fun b hb => h b (List.mem_of_mem_drop hb)
theorem turned_mapOk : ∀ {l : List Pc} {m : List Pair} {s : B} {out : Bool},mapOk m = true → mapOk (turned m l s out).1 = true
  | [],m,s,out,h => h
  | p :: ps,m,s,out,h => by
    simp only [turned]; exact turned_mapOk (turn_mapOk h _ _ _)
theorem turned_txt : ∀ {l : List Pc} {m : List Pair} {s : B} {out : Bool},mapOk m = true → fits l s → (∀ q ∈ l,1 ≤ q.size ∧ q.size ≤ 6) → s.all okB = true →
    ∀ b ∈ (turned m l s out).2,(1 ≤ b.length ∧ b.length ≤ 6) ∧ b.all okB = true
  | [],m,s,out,_,_,_,_ => by simp [turned]
  | p :: ps,m,s,out,h,hf,hq,hs => by
    obtain ⟨f1,f2⟩ := hf
    have hp := hq p (List.mem_cons_self ..)
    simp only [turned]
    intro b hb
    rcases List.mem_cons.1 hb with rfl | hb
    · exact turn_txt h p out (by rw [List.length_take]; omega) (all_take hs)
    · exact turned_txt (turn_mapOk h _ _ _) f2 (fun q hq' => hq q (List.mem_cons_of_mem _ hq')) (all_drop hs) b hb
theorem okParts_mk : ∀ {l : List Pc} {ts : List B},ts.length = l.length → (∀ b ∈ ts,(1 ≤ b.length ∧ b.length ≤ 6) ∧ b.all okB = true) → okParts (mkParts l ts) l = true
  | [],[],_,_ => rfl
  | p :: ps,b :: bs,hl,h => by
    have hb := h b (List.mem_cons_self ..)
    simp only [mkParts,okParts,Bool.and_eq_true]
    refine ⟨?_,okParts_mk (by simpa using hl) fun x hx => h x (List.mem_cons_of_mem _ hx)⟩
    rw [okPart_iff]
    refine ⟨rfl,hb.1, ?_⟩
    simp only [txOk,Bool.and_eq_true,decide_eq_true_eq]
    exact ⟨hb.2,by omega⟩
  | [],_ :: _,hl,_ => by simp at hl
  | _ :: _,[],hl,_ => by simp at hl
theorem okParts_app : ∀ {a : List Part} {c : List Pc} {b : List Part} {d : List Pc},okParts a c = true → okParts b d = true → okParts (a ++ b) (c ++ d) = true
  | [],[],b,d,_,h => h
  | x :: xs,y :: ys,b,d,h1,h2 => by
    simp only [okParts,Bool.and_eq_true] at h1
    simp only [List.cons_append,okParts,Bool.and_eq_true]
    exact ⟨h1.1,okParts_app h1.2 h2⟩
  | [],_ :: _,b,d,h,_ => by simp [okParts] at h
  | _ :: _,[],b,d,h,_ => by simp [okParts] at h
theorem behind_tx {c : B} {n : Int} {t : B} (hc : txOk c = true) (ht : txOk t = true) (hn : 0 ≤ n) (h : (behind c n t).2 = true) : txOk (behind c n t).1 = true := by
  simp only [txOk,Bool.and_eq_true,decide_eq_true_eq] at hc ht ⊢
  unfold behind at h ⊢
  split
  · exact hc
  · rename_i h1
    simp only [Bool.or_eq_true,decide_eq_true_eq,not_or,Int.not_lt,gt_iff_lt] at h1
    split
    · exact hc
    · refine ⟨?_, ?_⟩
      · simp only [List.all_append,hc.1,all_drop ht.1,Bool.and_self]
      · simp only [List.length_append,List.length_drop]; omega
theorem put_ok {m : List Pair} {s : Strm} {n : Int} {t : B} {out : Bool} (hm : mapOk m = true) (hs : strmOk s = true) (ht : txOk t = true) (hn : 0 ≤ n) :
    mapOk (put m s n t out).1 = true ∧ strmOk (put m s n t out).2.1 = true := by
  unfold put
  split
  · rename_i hb
    refine ⟨turned_mapOk hm, ?_⟩
    have hs0 : txOk s.inn = true ∧ okParts s.parts (pieces s.inn) = true := by simpa [strmOk] using hs
    have htx := behind_tx hs0.1 ht hn hb
    obtain ⟨x,hx,_⟩ := behind_app hb
    obtain ⟨f1,f2,f3,f4⟩ := put_fits hs x
    rw [← hx] at f1 f2 f3 f4
    simp only [strmOk,htx,Bool.true_and]
    have hq : ∀ q ∈ (pieces (behind s.inn n t).1).drop s.parts.length,1 ≤ q.size ∧ q.size ≤ 6 := fun q hq => pieces_small _ q (List.mem_of_mem_drop hq)
    have hpc : pieces (behind s.inn n t).1 = pieces s.inn ++ (pieces (behind s.inn n t).1).drop s.parts.length := by
      have h1 := pieces_app s.inn x
      rw [← hx] at h1
      rw [f2,h1,hx]
    conv => lhs; arg 2; rw [hpc]
    refine okParts_app hs0.2 (okParts_mk (turned_len ..) ?_)
    refine turned_txt hm f4 hq (all_drop ?_)
    simp only [txOk,Bool.and_eq_true] at htx
    exact htx.1
  · exact ⟨hm,hs⟩
end Go.Proofs.YtblndjmhjaijjaaGreatDoor.M
