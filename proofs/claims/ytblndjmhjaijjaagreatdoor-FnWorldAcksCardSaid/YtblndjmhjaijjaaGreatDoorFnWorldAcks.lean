/- FnWorldAcks: no ack tells more than came, in a drawn play. Conditions: those of the row alone. -/
import Derived.Test.YtblndjmhjaijjaaGreatDoorX06
import Derived.Test.YtblndjmhjaijjaaGreatDoorX05
import Derived.Test.YtblndjmhjaijjaaGreatDoorCards
import Derived.Test.YtblndjmhjaijjaaGreatDoorTie
set_option linter.all false
namespace Go.Proofs.YtblndjmhjaijjaaGreatDoor.W
open Go Go.RowKit Go.Proofs Go.Proofs.YtblndjmhjaijjaaGreatDoor.VL Go.Proofs.YtblndjmhjaijjaaGreatDoor.M
attribute [local congr] optK_congr guardK_congr condK_congr runT_congr runD_congr wpI_congr CallV_congr LoopI_congr pureK_congr effK_congr calK_congr stepV_congr doV_congr exN_congr exB_congr retF_congr retQ_congr gK_congr condW_congr ldK_congr stoK_congr
attribute [local go_sem] argL_cons argL_nil argH_nil argH_cons chH_getH wpI_seq wpI_reg wpI_drw wpI_ret cond_k condW_t condW_f wpI_skip wpI_block wpI_exit wpI_loop exN_n exN_r exN_e exB_n exB_r exB_h exB_m runT_k kT_e runT_nil runD_k kD_e runD_nil step_u step_k gK_t gK_f do_mv do_bino bo_add bo_sub bo_mul bo_subu bo_quo bo_rem bo_xor bo_eql bo_neq bo_lss bo_leq bo_gtr bo_geq bo_cat bo_eqs bo_nes do_pick do_call do_cal calK_f do_box do_alloc do_ldk ldK_s do_stok stoK_s do_fad do_nilc do_not do_neg do_len do_lens do_ext do_eqs do_beq do_isn do_cvi do_sls do_idx do_mn do_mx do_build do_mkf do_s2b do_b2s do_slv do_iad do_bsl do_mks do_app ev_t ev_c app_some app_none
attribute [local go_sem] List.nil_append List.cons_append List.append_nil getL_hit getL_miss getH_nil getH_hit getH_miss nm_eq ne_eq Nat.reduceEqDiff not_false_eq_true Nat.reduceAdd Nat.add_zero Nat.zero_add if_true if_false ite_true ite_false pureK_s effK_s optK_s gdV_t gdV_f gdV_s pick_b ge_iff_le gt_iff_lt cond_true cond_false fresh_k cells_agg cells_int cells_bool cells_str cells_own cells_sl cells_nils ld_pv ld_pa ld_ip ldVar_t ldVar_f ldArr_t ldArr_f ldRow_t ldRow_f ldA_s ld1_s fad_pv fad_pa fad_ip nilc_pv nilc_pa nilc_ip not_b neg_i cvi_i ext_t retF_n retF_r
attribute [local go_sem] resV_k rvs_nil rvs_t rvs_c fstO_s consO_s resK_s resL_1 resL_2 resL_3 resL_4  Option.some.injEq List.map_cons List.map_nil List.all_cons List.all_nil Bool.and_true Bool.and_self Bool.not_true Bool.not_false Option.map_some Option.map_none sls_s slsG_s loV_n loV_i hiV_n hiV_i idx_s mn_i mx_i s2b_s b2s_s bytO_s bytes_nil bytes_cons conB_s slv_sl slv_own slv_nils slvG_s slvN_s slvO_s iad_sl iadG_map take_map drop_map List.length_map iad_own iad_view iadO_a iadW_a mks_i rowO_nils rowO_sl rowO_own rowA_a eq_self appG_nils appG_own appO_a guardP_T mapA_s bld_nil mkf_nil bldF_e fill_nil fill_cons mkf_e lens_s len_nils len_sl len_own len_view isn_nile isn_erre List.getElem?_cons_zero List.getElem?_cons_succ List.length_cons List.length_nil decide_true decide_false Int.toNat_natCast Int.cast_ofNat_Int Int.reduceLT Int.reduceLE Int.reduceEq Int.reduceAdd Int.reduceSub Int.reduceMul Int.reduceNeg Int.reduceToNat List.getD_cons_zero List.getD_cons_succ not_true_eq_false not_false_eq_true Bool.false_eq_true Bool.true_eq_false reduceCtorEq
attribute [local go_sem] E.row Pc.row Pair.row Part.row Strm.row Flw.row Pk.row Door.row Conv.row World.row Ev.row rdV E.eta Pc.eta Pair.eta Part.eta Strm.eta Pk.eta Flw.eta Conv.eta Door.eta World.eta Ev.eta
attribute [local go_sem] sub_ok st_pv st_pa stVar_v stArr_a Nat.le_refl List.drop_zero List.drop_succ_cons List.take_succ_cons List.take_zero setR Nat.reduceLeDiff
attribute [local go_sem] wk_bot wk2_bot wk1_bot wk_undef wk_tup_e wk2_agg_e wk_agg_e wk1_fn_e wk2_fn_e wk_fn_e wkl_nil wkl_cons wkh_var_e wkh_arr_e wkh_fresh_e wkh_dead_v wkh_dead_a wkh_dead_d wk0_undef wk0_int wk0_bool wk0_str wk0_nils wk0_nils_sl wk0_nilp wk0_nile wk0_erre wk0_sl wk0_iptr wk0_own wk0_view wk0_pv wk0_pa fzA_a fzW_a fzP_v wk0_own_sl wk0_view_sl wk0_pv_iptr WkS_nil WkS_cons WkN_nil WkN_cons nonB_nil nonB_cons getN_nil getN_hit getN_miss pinOk_0 pinOk_s and_true true_and and_self
attribute [local go_sem] bot_int one_int unt_int clo_int bot_bool one_bool unt_bool clo_bool bot_str one_str unt_str clo_str bot_nils one_nils unt_nils clo_nils bot_nilp one_nilp unt_nilp clo_nilp bot_nile one_nile unt_nile clo_nile bot_erre one_erre unt_erre clo_erre bot_raw one_raw unt_raw clo_raw bot_sl one_sl unt_sl clo_sl bot_own one_own unt_own clo_own bot_view one_view unt_view clo_view bot_pv one_pv unt_pv clo_pv bot_pa one_pa unt_pa clo_pa bot_iptr one_iptr unt_iptr clo_iptr unt_agg unt_fn one_fn
attribute [local go_sem] rn_tup rn_agg rn2_agg rn_fn rn2_fn rnfn1 rn_bot rn2_bot rn1_bot rn0_int rn0_bool rn0_str rn0_nils rn0_nilp rn0_nile rn0_erre rn0_sl rn0_iptr rn0_own rn0_view rn0_pv rn0_pa hrn_var hrn_arr hrn_dead outU_nil outU_cons deads_nil deads_cons bk_ge bk_lt nsF_0 nsF_s chH_0 chH_s chH_n newN_e andB_s eqR_nil eqR_i eqR_b eqR_s mapX_f mapX_t eqs_a beq_f beq_t live_arr live_var nsl_nil nsl_cons Nat.reduceMul Nat.reduceLT Nat.zero_le Nat.not_lt_zero
attribute [local go_sem] mV lD lA fD bN eX oP nP sR i0 s0
def ic3 : IC := sR [oP 2 (.mv (.c (.bool false)))] (.seq (sR [mV 13 0, oP 14 (.len (.t 13)), oP 15 (.bin .gtr (.t 14) (.c (.int .i64 1048576)))] (.cond (.t 15) (sR [oP 2 (.mv (.c (.bool true)))] .ret) .skip)) (sR [mV 17 0, oP 18 (.call 9 [.t 17]), mV 16 18, eX 19 16 0, eX 20 16 1, mV 3 19, mV 4 20] (sR [mV 22 3, mV 23 4, oP 24 (.call 10 [.t 22, .t 23]), mV 21 24, eX 25 21 0, eX 26 21 1, oP 5 (.alloc 33 [.nils, .nils, .nils, .nils]), nP (.sto 4 (.t 5) (.t 25)), mV 6 26] (sR [mV 28 3, mV 29 4, oP 30 (.call 11 [.t 28, .t 29]), mV 27 30, eX 31 27 0, eX 32 27 1, oP 7 (.alloc 33 [.nils, .nils, .nils, .nils]), nP (.sto 4 (.t 7) (.t 31)), mV 8 32] (.seq (sR [mV 33 6, mV 34 8, oP 35 (.beq true (.t 33) (.t 34)), mV 36 35, ⟨some 37, some (36, false), .ld 4 true (.t 5)⟩, ⟨some 38, some (36, false), .ld 4 true (.t 7)⟩, ⟨some 39, some (36, false), .call 12 [.t 37, .t 38]⟩, ⟨some 40, some (36, false), .un .not (.t 39)⟩, oP 41 (.pick (.t 36) (.c (.bool true)) (.t 40)), mV 42 41, ⟨some 43, some (42, false), .mv (.t 6)⟩, ⟨some 44, some (42, false), .un .not (.t 43)⟩, oP 45 (.pick (.t 42) (.c (.bool true)) (.t 44))] (.cond (.t 45) (sR [mV 46 6, mV 47 8, oP 48 (.beq false (.t 46) (.t 47)), mV 49 48, ⟨some 50, some (49, true), .ld 4 true (.t 5)⟩, ⟨some 51, some (49, true), .ld 4 true (.t 7)⟩, ⟨some 52, some (49, true), .call 12 [.t 50, .t 51]⟩, oP 53 (.pick (.t 49) (.t 52) (.c (.bool false))), mV 2 53] .ret) .skip)) (.seq (sR [oP 9 (.mv (.c i0))] (.block 0 (.loop (.seq (sR [mV 54 9, fD 55 3 5, lD 56 1 55, oP 57 (.len (.t 56)), bN 58 .lss 54 57] (.cond (.t 58) .skip (.exit 0))) (.seq (.block 1 (sR [fD 61 3 5, lD 62 1 61, mV 63 9, oP 64 (.iad 7 (.t 62) (.t 63)), lA 65 7 64, oP 10 (.alloc 40 [i0, i0, i0, i0, i0, i0, s0]), nP (.sto 7 (.t 10) (.t 65))] (sR [oP 11 (.mv (.c i0))] (.block 2 (.loop (.seq (sR [mV 66 11, fD 67 0 5, lD 68 1 67, oP 69 (.len (.t 68)), bN 70 .lss 66 69] (.cond (.t 70) .skip (.exit 2))) (.seq (.block 3 (sR [fD 73 0 5, lD 74 1 73, mV 75 11, oP 76 (.iad 10 (.t 74) (.t 75)), lA 77 10 76, oP 12 (.alloc 42 [i0, i0, i0, i0, s0, s0, i0, i0, s0, s0]), nP (.sto 10 (.t 12) (.t 77))] (sR [fD 78 0 10, lD 79 1 78, oP 80 (.bin .eql (.t 79) (.c (.int .i64 2))), mV 81 80, ⟨some 82, some (81, true), .fad 1 (.t 10)⟩, ⟨some 83, some (81, true), .ld 2 true (.t 82)⟩, ⟨some 84, some (81, true), .fad 2 (.t 12)⟩, ⟨some 85, some (81, true), .ld 2 true (.t 84)⟩, ⟨some 86, some (81, true), .eqs false [.i, .i] (.t 83) (.t 85)⟩, oP 87 (.pick (.t 81) (.t 86) (.c (.bool false))), mV 88 87, ⟨some 89, some (88, true), .fad 3 (.t 10)⟩, ⟨some 90, some (88, true), .ld 2 true (.t 89)⟩, ⟨some 91, some (88, true), .call 13 [.t 90]⟩, oP 92 (.pick (.t 88) (.t 91) (.c (.bool false))), mV 93 92, ⟨some 94, some (93, true), .fad 5 (.t 10)⟩, ⟨some 95, some (93, true), .ld 1 false (.t 94)⟩, ⟨some 96, some (93, true), .fad 8 (.t 12)⟩, ⟨some 97, some (93, true), .ld 1 false (.t 96)⟩, ⟨some 98, some (93, true), .lens (.t 97)⟩, ⟨some 99, some (93, true), .bin .gtr (.t 95) (.t 98)⟩, oP 100 (.pick (.t 93) (.t 99) (.c (.bool false))), mV 101 100, ⟨some 102, some (101, false), .fad 0 (.t 10)⟩, ⟨some 103, some (101, false), .ld 1 false (.t 102)⟩, ⟨some 104, some (101, false), .bin .eql (.t 103) (.c (.int .i64 2))⟩, ⟨some 105, some (101, false), .mv (.t 104)⟩, ⟨some 106, some (105, true), .fad 1 (.t 10)⟩, ⟨some 107, some (105, true), .ld 2 true (.t 106)⟩, ⟨some 108, some (105, true), .fad 0 (.t 12)⟩, ⟨some 109, some (105, true), .ld 2 true (.t 108)⟩, ⟨some 110, some (105, true), .eqs false [.i, .i] (.t 107) (.t 109)⟩, ⟨some 111, some (101, false), .pick (.t 105) (.t 110) (.c (.bool false))⟩, ⟨some 112, some (101, false), .mv (.t 111)⟩, ⟨some 113, some (112, true), .fad 3 (.t 10)⟩, ⟨some 114, some (112, true), .ld 2 true (.t 113)⟩, ⟨some 115, some (112, true), .fad 2 (.t 12)⟩, ⟨some 116, some (112, true), .ld 2 true (.t 115)⟩, ⟨some 117, some (112, true), .eqs false [.i, .i] (.t 114) (.t 116)⟩, ⟨some 118, some (101, false), .pick (.t 112) (.t 117) (.c (.bool false))⟩, ⟨some 119, some (101, false), .mv (.t 118)⟩, ⟨some 120, some (119, true), .fad 5 (.t 10)⟩, ⟨some 121, some (119, true), .ld 1 false (.t 120)⟩, ⟨some 122, some (119, true), .fad 9 (.t 12)⟩, ⟨some 123, some (119, true), .ld 1 false (.t 122)⟩, ⟨some 124, some (119, true), .lens (.t 123)⟩, ⟨some 125, some (119, true), .bin .gtr (.t 121) (.t 124)⟩, ⟨some 126, some (101, false), .pick (.t 119) (.t 125) (.c (.bool false))⟩, oP 127 (.pick (.t 101) (.c (.bool true)) (.t 126))] (.cond (.t 127) (sR [oP 2 (.mv (.c (.bool false)))] .ret) .skip)))) (.reg [mV 71 11, oP 72 (.bin .add (.t 71) (.c (.int .i64 1))), mV 11 72])))))))) (.reg [mV 59 9, oP 60 (.bin .add (.t 59) (.c (.int .i64 1))), mV 9 60])))))) (sR [oP 2 (.mv (.c (.bool true)))] .ret)))))))
theorem dg3 : digF Tryz.prog Tryz.f3 = some (ic3, [(.t 2)]) := by kernel_rfl
theorem en3 : entr Tryz.prog 3 = true := by kernel_rfl
theorem c3 (code : B) : FnR Tryz.prog G 3 [.sl 1 (code.map byR)] (.bool true) := by
  refine FnR.mkF Tryz.func3 en3 dg3 Tryz.ntmps3 (by simp) ?_
  simp only [ic3, go_sem]
  by_cases hc : (1048576 : Int) < code.length
  · simp only [eq_true hc, go_sem]
  simp only [eq_false hc, go_sem]
  refine callO (c9 code (by omega)) [] 18 0 (by simp only [go_sem]; first | done | simp) (by simp) (by rintro _ _ ⟨_, _, _, _, _, rfl⟩; simp) (by intro i hi; omega) ?_
  rintro _ _ ⟨cs, es, ⟨⟨hc1, hc2⟩, hcB⟩, ⟨he1, heB⟩, rfl, rfl⟩
  simp only [go_sem]
  have fi := c10 cs es (by omega) (fun c h => by have := hcB c h; omega) (by omega) (fun e h => by have := heB e h; omega)
  with_reducible repeat' (first | refine br ?_ ?_ <;> intro h e <;> (try simp only [e, go_sem]) <;> clear e | rw [i64w (by omega)] | (first | refine sk ?_ | refine sd ?_) <;> try simp only [go_sem] | (first | refine cr (fi ..) ?_) <;> try simp only [go_sem] | fail)
  refine callO (c11 cs es (by omega) (fun c h => by have := hcB c h; omega) (by omega) (fun e h => by have := heB e h; omega)) [] 30 4 (by simp only [go_sem]; first | done | simp) (by simp) (by rintro _ _ (⟨w, _, rfl, rfl⟩ | ⟨_, rfl, rfl⟩) <;> simp) (by intro i hi; rcases (show i = 0 ∨ i = 1 ∨ i = 2 ∨ i = 3 by omega) with rfl | rfl | rfl | rfl <;> simp only [go_sem]) ?_
  rintro _ _ (⟨w, hw, rfl, rfl⟩ | ⟨hw, rfl, rfl⟩)
  · rw [hw]
    have hwi := play_wi hw
    have law := law_acks hw
    have hcl := hwi.cl
    have hnl := hwi.nl
    simp only [go_sem, Option.isSome_some, Option.getD_some, btt]
    with_reducible repeat' (first | refine br ?_ ?_ <;> intro h e <;> (try simp only [e, go_sem, btt]) <;> clear e | rw [i64w (by omega)] | (first | refine sk ?_ | refine sd ?_) <;> try simp only [go_sem, btt] | fail)
    refine callF (c12 w (wi_wb hwi)) [103000, 103001, 103002, 103003] false (by simp only [go_sem]; first | done | simp [E.row, Pc.row, Pair.row, Part.row, Flw.row, Pk.row, Conv.row]) (by simp only [List.mem_cons, List.not_mem_nil, or_false]; rintro c (rfl | rfl | rfl | rfl) <;> simp only [go_sem]) rfl (.inr rfl) ?_
    simp only [go_sem]
    with_reducible repeat' (first | refine br ?_ ?_ <;> intro h e <;> (try simp only [e, go_sem]) <;> clear e | rw [i64w (by omega)] | (first | refine sk ?_ | refine sd ?_) <;> try simp only [go_sem] | fail)
    refine loopN (fun i : Nat => ⟨getL [(5, .pv 1005 0), (9, .int .i64 (i : Int))], getH [(1005, .var 33 [.sl 10 (w.convs.map Conv.row), .sl 3 (w.door.map.map Pair.row), .sl 8 (w.door.flows.map Flw.row), .sl 7 (w.nets.map Pk.row)])]⟩) (fun i => w.nets.length - i) (fun i => i ≤ w.nets.length) 0 (leQ []) (Nat.zero_le _) ?_
    intro i hi
    simp only [go_sem]
    by_cases h : (i : Int) < w.nets.length
    · have hil : i < w.nets.length := by omega
      have hg : w.nets.getD i default = w.nets[i] := by simp [List.getD, hil]
      have law := law _ (List.getElem_mem hil)
      simp only [eq_true h, go_sem]
      generalize w.nets[i] = p at *
      with_reducible repeat' (first | refine br ?_ ?_ <;> intro h e <;> (try simp only [e, go_sem, hg]) <;> clear e | rw [i64w (by omega)] | (first | refine sk ?_ | refine sd ?_) <;> try simp only [go_sem, hg] | fail)
      refine loopN (fun k : Nat => ⟨getL [(5, .pv 1005 0), (9, .int .i64 (i : Int)), (10, .pv 1010 0), (11, .int .i64 (k : Int))], getH [(1005, .var 33 [.sl 10 (w.convs.map Conv.row), .sl 3 (w.door.map.map Pair.row), .sl 8 (w.door.flows.map Flw.row), .sl 7 (w.nets.map Pk.row)]), (1010, .var 40 [.int .i64 p.kind, .int .i64 p.frm.a, .int .i64 p.frm.p, .int .i64 p.to.a, .int .i64 p.to.p, .int .i64 p.at_, .str p.text])]⟩) (fun k => w.convs.length - k) (fun k => k ≤ w.convs.length) 0 (leQ []) (Nat.zero_le _) ?_
      intro k hk
      simp only [go_sem]
      by_cases h2 : (k : Int) < w.convs.length
      · have hkl : k < w.convs.length := by omega
        have hgk : w.convs.getD k default = w.convs[k] := by simp [List.getD, hkl]
        have law := law _ (List.getElem_mem hkl)
        simp only [eq_true h2, go_sem]
        generalize w.convs[k] = c at *
        with_reducible repeat' (first | refine br ?_ ?_ <;> intro h e <;> (try simp only [e, go_sem, hgk, E.ext_iff']) <;> clear e | rw [i64w (by omega)] | (first | refine sk ?_ | refine sd ?_) <;> try simp only [go_sem, hgk, E.ext_iff'] | (first | refine cr (c13 ..) ?_) <;> try simp only [go_sem, hgk, E.ext_iff'] | fail)
        all_goals first
          | exact ⟨k + 1, by omega, by omega, (leQ [])⟩
          | exact absurd (Or.inl ⟨by assumption, by assumption, by assumption, by omega⟩) law
          | exact absurd (Or.inr ⟨by assumption, by assumption, by assumption, by omega⟩) law
          | skip
      · simp only [eq_false h2, go_sem]
        with_reducible repeat' (first | refine br ?_ ?_ <;> intro h e <;> (try simp only [e, go_sem]) <;> clear e | rw [i64w (by omega)] | (first | refine sk ?_ | refine sd ?_) <;> try simp only [go_sem] | fail)
        exact ⟨i + 1, by omega, by omega, (leQ [])⟩
    · simp only [eq_false h, go_sem]
  · rw [hw]
    simp only [go_sem, Option.isSome_none, Option.getD_none, zero_e, List.map_nil, bff]
    with_reducible repeat' (first | refine br ?_ ?_ <;> intro h e <;> (try simp only [e, go_sem, bff]) <;> clear e | rw [i64w (by omega)] | (first | refine sk ?_ | refine sd ?_) <;> try simp only [go_sem, bff] | fail)
    refine callF (c12 .zero zeroWB) [] true (by simp only [go_sem, zero_e, List.map_nil]; first | done | simp) (by simp) rfl (.inl rfl) ?_
    simp only [go_sem, bff]
    with_reducible repeat' (first | refine br ?_ ?_ <;> intro h e <;> (try simp only [e, go_sem, bff]) <;> clear e | rw [i64w (by omega)] | (first | refine sk ?_ | refine sd ?_) <;> try simp only [go_sem, bff] | fail)
    all_goals first
      | (refine callF (c12 .zero zeroWB) [] true (by simp only [go_sem, zero_e, List.map_nil]; first | done | simp) (by simp) rfl (.inl rfl) ?_
         simp only [go_sem, bff]; done)
      | skip
end Go.Proofs.YtblndjmhjaijjaaGreatDoor.W
namespace Go.Proofs.YtblndjmhjaijjaaGreatDoor.fnWorldAcks
open Go Go.ChangeShapes Go.WideShapes Go.ChangeAt Go.RowKit Go.Proofs.YtblndjmhjaijjaaGreatDoor.W
theorem walk (v0 : Value) (W : World) (hs : W.ShapedOpen Tryz.prog) (hL : laidMetH Tryz.prog Rows.fnWorldAcksRow.laid W) (hv0 : ∃ code : M.B, VL.Den W noO noρ noH (.sl 1 (code.map M.byR)) v0) :
    Calls Tryz.prog 3 #[v0] W fun e W' => e = .returned (.bool true) ∧ Below W.heap.size W W' := by
  obtain ⟨code, hdv0⟩ := hv0
  have := Go.Proofs.YtblndjmhjaijjaaGreatDoor.W.FnR.calls (c3 code) (us := [v0]) (gOk rfl hL hs) ⟨rfl, fun j a b ha hb => by
    match j, ha, hb with
    | 0, ha, hb => cases ha; cases hb; exact hdv0
    | j + 1, ha, hb => simp at ha⟩
  exact this
set_option maxRecDepth 100000 in
theorem contract (H : Type) (enc : TypeId × Value → H) (W : World) (base : Nat) (args : Array Value) (ds gs : List (DataW H)) (before : List MemPlace)
    (hval : ∀ (j : Nat) t v, Tryz.f3.params[j]? = some t → args[j]? = some v → Value.okWide Tryz.prog W .any base t v)
    (hW : DataW.Whole enc Tryz.prog Tryz.f3.params.toList Rows.fnWorldAcksSpec.vars false W args.toList ds gs before) (hL : laidMetH Tryz.prog Rows.fnWorldAcksRow.laid W) (hs : W.ShapedOpen Tryz.prog) :
    Calls Tryz.prog 3 args W fun e W' => ∃ v, e = .returned v ∧ Rows.fnWorldAcksSpec.post enc Tryz.prog Tryz.f3 false true false false W args v W' := by
  have hW' := hW
  obtain ⟨p, q, hA0, hV, rfl, hfz, hnd⟩ := hW
  have hA : DataW.TrodAll enc Tryz.prog W 0 (fun _ => true) true Tryz.f3.params.toList args.toList ds p := hA0
  rw [Tryz.params3] at hA hval
  obtain ⟨v0, r0s, d0, d0s, p0, q0, hargs0, rfl, rfl, h0, r0⟩ := trodAll_cons hA
  obtain ⟨e1, e2, e3⟩ := trodAll_nil r0
  subst e1 e2 e3
  obtain rfl : args = #[v0] := by cases args; simp_all
  obtain ⟨rfl, rfl⟩ := trodVars_none hV
  obtain ⟨a0, len0, cap0, hv0⟩ := okWide_slice Tryz.underlying22 (hval 0 22 v0 rfl rfl)
  have k0 := h0
  have lt0 : ∀ x ∈ p0, x.block < W.heap.size := by obtain ⟨m, hm⟩ := k0; exact DataW.trod_lt m _ _ _ hm
  have hc0 := open_code h0 ⟨a0, len0, cap0, hv0⟩
  clear hA0
  refine (walk v0 W hs hL hc0).mono fun e W' ⟨he, bel⟩ => ?_
  subst he
  exact ⟨_, rfl, _, _, _, [], _, [], hW', trodAll_mk1 (shut_bool Tryz.underlying4 _), (trodAll_cons_mk (Below.trod laidOut (by kernel_rfl) (of_decide_eq_true (by kernel_rfl)) k0 bel lt0) trodAll_mk0), rfl, bel.frame _, fun h => by cases h⟩
theorem door_met (os : Os) (args : Array Value) : laidMetH Tryz.prog Rows.fnWorldAcksRow.laid ((World.doorLaid Tryz.prog 400 os).forCall (fun _ _ => 0) ⟨#[], args, []⟩).memory :=
  laidMetH_of_parts3 (fuel := 8) (laidMet_of_run' 8 (by kernel_rfl) (by kernel_rfl)) (by kernel_rfl) (by kernel_rfl)
theorem reads (os : Os) {H : Type} (enc : TypeId × Value → H) : ∃ places, DataW.whole enc Tryz.prog ((World.doorLaid Tryz.prog 400 os).forCall (fun _ _ => 0) ⟨#[], #[.slice none 0 0], []⟩).memory Tryz.f3.params.toList Rows.fnWorldAcksSpec.vars false #[Value.slice none 0 0].toList 8 = some ([.nil], [], places) :=
  ⟨[], by kernel_rfl⟩
set_option maxRecDepth 100000 in
theorem lifted (os : Os) (started : os.Started) (H : Type) (enc : TypeId × Value → H) (F : Stop.Interp) :
    ReturnsInHanded {} Tryz.checked os 3 .any ((OpenSpec.ofChange Rows.fnWorldAcksSpec).preRow enc Tryz.prog Tryz.f3 Rows.fnWorldAcksRow.domain false Rows.fnWorldAcksRow.laid) (((OpenSpec.ofChange Rows.fnWorldAcksSpec).at F).post enc Tryz.prog Tryz.f3 false true false false) := by
  obtain ⟨places, hx⟩ := reads os enc
  refine returnsInHanded_of_row (C := Tryz.checked) (s := OpenSpec.ofChange Rows.fnWorldAcksSpec) own started (by kernel_rfl) Tryz.func3
    (witness_row_atRef (enc := enc) (C := Tryz.checked) false (World.doorLaid Tryz.prog 400 os) #[.slice none 0 0] rfl (by kernel_rfl) (by kernel_rfl) (by kernel_rfl)
      (OpenSpec.preRow_of_cond 8 hx (by kernel_rfl) (fun k hk => by cases hk) (by kernel_rfl) (door_met os _))) ?_
  intro W base args ds gs before hval hW _ _ _ hL hs _
  exact contract H enc W base args ds gs before hval hW hL hs
theorem said : Rows.FnWorldAcksSaid :=
  OpenClaim.holds_of_cond 3 Tryz.f3 rfl rfl rfl rfl rfl rfl rfl ⟨rfl, rfl, rfl, rfl, rfl⟩ rfl rfl rfl rfl rfl (by kernel_rfl) Tryz.func3 (by kernel_rfl)
    (of_decide_eq_true (by kernel_rfl)) (by unfold Func.isWrapper; first | (rw [if_pos (by decide +kernel)]; kernel_rfl) | (rw [if_neg (by decide +kernel)]; exact ⟨rfl, rfl⟩))
    (fun os started H enc _ F => by rw [OpenClaim.pre_eq_preRow]; exact lifted os started H enc F)
theorem plain (f : FuncId) (fn : Func) (hf : Tryz.pinned.checked.prog.funcNamed "loop.example/ostiary/laws.FnWorldAcks" = some f) (hfn : Tryz.pinned.checked.prog.funcs[f]? = some fn) :
    true = Tryz.pinned.checked.prog.looks [] ∧ ∀ (j : Nat) t, fn.params[j]? = some t → Tryz.pinned.checked.prog.wantsStandIn t = false := by
  obtain rfl : f = 3 := Option.some.inj ((show Tryz.prog.funcNamed "loop.example/ostiary/laws.FnWorldAcks" = some 3 by kernel_rfl).symm.trans hf) |>.symm
  obtain rfl : fn = Tryz.f3 := (Option.some.inj (Tryz.func3.symm.trans hfn)).symm
  refine ⟨by kernel_rfl, fun j t ht => ?_⟩
  rw [Tryz.params3] at ht
  obtain rfl : t = 22 := by simpa using Array.mem_of_getElem? ht
  exact (show Tryz.prog.wantsStandIn 22 = false by kernel_rfl)
theorem card : Rows.FnWorldAcksCardSaid :=
  Claim7.holds_tied_plain_at .later [] _ _ _ _ said (fun _ h => by cases h) (by kernel_rfl) (fun _ h => by cases h) fnWorldAcks_row_tie rfl ⟨rfl, rfl⟩ (by kernel_rfl) rfl plain (by kernel_rfl)
end Go.Proofs.YtblndjmhjaijjaaGreatDoor.fnWorldAcks
