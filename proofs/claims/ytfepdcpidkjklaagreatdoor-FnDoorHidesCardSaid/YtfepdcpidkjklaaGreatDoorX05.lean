/- Part 5 of the proof: the walk over values, the plain model, contracts of the functions of the program. -/
import Derived.Test.YtfepdcpidkjklaaGreatDoorX04
import Derived.Test.YtfepdcpidkjklaaGreatDoorX03
import Derived.Test.YtfepdcpidkjklaaGreatDoorX02
set_option linter.all false
namespace Go.Proofs.YtfepdcpidkjklaaGreatDoor.W
open Go Go.RowKit Go.Proofs Go.Proofs.YtfepdcpidkjklaaGreatDoor.VL Go.Proofs.YtfepdcpidkjklaaGreatDoor.M
attribute [local congr] optK_congr guardK_congr condK_congr runT_congr runD_congr wpI_congr CallV_congr LoopI_congr pureK_congr effK_congr calK_congr stepV_congr doV_congr exN_congr exB_congr retF_congr retQ_congr gK_congr condW_congr ldK_congr stoK_congr
attribute [local go_sem] argL_cons argL_nil argH_nil argH_cons chH_getH wpI_seq wpI_reg wpI_drw wpI_ret cond_k condW_t condW_f wpI_skip wpI_block wpI_exit wpI_loop exN_n exN_r exN_e exB_n exB_r exB_h exB_m runT_k kT_e runT_nil runD_k kD_e runD_nil step_u step_k gK_t gK_f do_mv do_bino bo_add bo_sub bo_mul bo_subu bo_quo bo_rem bo_xor bo_eql bo_neq bo_lss bo_leq bo_gtr bo_geq bo_cat bo_eqs bo_nes do_pick do_call do_cal calK_f do_box do_alloc do_ldk ldK_s do_stok stoK_s do_fad do_nilc do_not do_neg do_len do_lens do_ext do_eqs do_beq do_isn do_cvi do_sls do_idx do_mn do_mx do_build do_mkf do_s2b do_b2s do_slv do_iad do_bsl do_mks do_app ev_t ev_c app_some app_none
attribute [local go_sem] List.nil_append List.cons_append List.append_nil getL_hit getL_miss getH_nil getH_hit getH_miss nm_eq ne_eq Nat.reduceEqDiff not_false_eq_true Nat.reduceAdd Nat.add_zero Nat.zero_add if_true if_false ite_true ite_false pureK_s effK_s optK_s gdV_t gdV_f gdV_s pick_b ge_iff_le gt_iff_lt cond_true cond_false fresh_k cells_agg cells_int cells_bool cells_str cells_own cells_sl cells_nils ld_pv ld_pa ld_ip ldVar_t ldVar_f ldArr_t ldArr_f ldRow_t ldRow_f ldA_s ld1_s fad_pv fad_pa fad_ip nilc_pv nilc_pa nilc_ip not_b neg_i cvi_i ext_t retF_n retF_r
attribute [local go_sem] resV_k rvs_nil rvs_t rvs_c fstO_s consO_s resK_s resL_1 resL_2 resL_3 resL_4  Option.some.injEq List.map_cons List.map_nil List.all_cons List.all_nil Bool.and_true Bool.and_self Bool.not_true Bool.not_false Option.map_some Option.map_none sls_s slsG_s loV_n loV_i hiV_n hiV_i idx_s mn_i mx_i s2b_s b2s_s bytO_s bytes_nil bytes_cons conB_s slv_sl slv_own slv_nils slvG_s slvN_s slvO_s iad_sl iadG_map take_map drop_map List.length_map iad_own iad_view iadO_a iadW_a mks_i rowO_nils rowO_sl rowO_own rowA_a eq_self appG_nils appG_own appO_a guardP_T mapA_s bld_nil mkf_nil bldF_e fill_nil fill_cons mkf_e lens_s len_nils len_sl len_own len_view isn_nile isn_erre List.getElem?_cons_zero List.getElem?_cons_succ List.length_cons List.length_nil decide_true decide_false Int.toNat_natCast Int.cast_ofNat_Int Int.reduceLT Int.reduceLE Int.reduceEq Int.reduceAdd Int.reduceSub Int.reduceMul Int.reduceNeg Int.reduceToNat List.getD_cons_zero List.getD_cons_succ not_true_eq_false not_false_eq_true Bool.false_eq_true Bool.true_eq_false reduceCtorEq
attribute [local go_sem] E.row Pc.row Pair.row Part.row Strm.row Flw.row Pk.row Door.row Conv.row World.row Ev.row rdV E.eta Pc.eta Pair.eta Part.eta Strm.eta Pk.eta Flw.eta Conv.eta Door.eta World.eta Ev.eta
attribute [local go_sem] sub_ok st_pv st_pa stVar_v stArr_a Nat.le_refl List.drop_zero List.drop_succ_cons List.take_succ_cons List.take_zero setR Nat.reduceLeDiff
attribute [local go_sem] wk_bot wk2_bot wk1_bot wk_undef wk_tup_e wk2_agg_e wk_agg_e wk1_fn_e wk2_fn_e wk_fn_e wkl_nil wkl_cons wkh_var_e wkh_arr_e wkh_fresh_e wkh_dead_v wkh_dead_a wkh_dead_d wk0_undef wk0_int wk0_bool wk0_str wk0_nils wk0_nils_sl wk0_nilp wk0_nile wk0_erre wk0_sl wk0_iptr wk0_own wk0_view wk0_pv wk0_pa fzA_a fzW_a fzP_v wk0_own_sl wk0_view_sl wk0_pv_iptr WkS_nil WkS_cons WkN_nil WkN_cons nonB_nil nonB_cons getN_nil getN_hit getN_miss pinOk_0 pinOk_s and_true true_and and_self
attribute [local go_sem] bot_int one_int unt_int clo_int bot_bool one_bool unt_bool clo_bool bot_str one_str unt_str clo_str bot_nils one_nils unt_nils clo_nils bot_nilp one_nilp unt_nilp clo_nilp bot_nile one_nile unt_nile clo_nile bot_erre one_erre unt_erre clo_erre bot_raw one_raw unt_raw clo_raw bot_sl one_sl unt_sl clo_sl bot_own one_own unt_own clo_own bot_view one_view unt_view clo_view bot_pv one_pv unt_pv clo_pv bot_pa one_pa unt_pa clo_pa bot_iptr one_iptr unt_iptr clo_iptr unt_agg unt_fn one_fn
attribute [local go_sem] rn_tup rn_agg rn2_agg rn_fn rn2_fn rnfn1 rn_bot rn2_bot rn1_bot rn0_int rn0_bool rn0_str rn0_nils rn0_nilp rn0_nile rn0_erre rn0_sl rn0_iptr rn0_own rn0_view rn0_pv rn0_pa hrn_var hrn_arr hrn_dead outU_nil outU_cons deads_nil deads_cons bk_ge bk_lt nsF_0 nsF_s chH_0 chH_s chH_n newN_e andB_s eqR_nil eqR_i eqR_b eqR_s mapX_f mapX_t eqs_a beq_f beq_t live_arr live_var nsl_nil nsl_cons Nat.reduceMul Nat.reduceLT Nat.zero_le Nat.not_lt_zero
attribute [local go_sem] mV lD lA fD bN eX oP nP sR i0 s0
def bits6:List B:=[[97],[98,99],[64],[120,49],[64,49,58,122],[59]]
theorem bits6_le:∀ x∈bits6,x.length≤4:=by decide
def ic135:IC:=sR [oP 4 (.mv (.c s0))] (sR [oP 5 (.mv (.c s0))] (.seq (sR [mV 8 0,oP 9 (.call 77 [.t 8,.c (.int .i64 5)]),oP 10 (.bin .add (.c (.int .i64 1)) (.t 9)),mV 6 10] (.block 0 (.loop (.seq (sR [mV 11 6,oP 12 (.bin .gtr (.t 11) (.c i0))] (.cond (.t 12) .skip (.exit 0))) (.seq (.block 1 (sR [mV 15 0,oP 16 (.bsl 9 1 [.c (.str [97]),.c (.str [98,99]),.c (.str [64]),.c (.str [120,49]),.c (.str [64,49,58,122]),.c (.str [59])]),oP 17 (.call 117 [.t 15,.t 16]),mV 7 17] (.seq (sR [mV 18 0,oP 19 (.call 77 [.t 18,.c (.int .i64 5)])] (.block 2 (.seq (sR [oP 21 (.bin .eql (.t 19) (.c i0)),mV 20 21] (.cond (.t 20) .skip (.reg [oP 22 (.bin .eql (.t 19) (.c (.int .i64 1))),mV 20 22]))) (.cond (.t 20) (.reg [mV 23 0,oP 24 (.call 77 [.t 23,.c (.int .i64 3)]),oP 25 (.bin .add (.c (.int .i64 1)) (.t 24)),mV 26 0,oP 27 (.call 77 [.t 26,.c (.int .i64 4)]),oP 28 (.bin .add (.c (.int .i64 1)) (.t 27)),oP 29 (.build [i0,i0] [(0,(1,.t 25)),(1,(1,.t 28))]),oP 30 (.call 134 [.t 29]),oP 31 (.bin .add (.c (.str [64])) (.t 30)),oP 32 (.bin .add (.t 31) (.c (.str [59]))),mV 7 32]) (sR [oP 34 (.bin .eql (.t 19) (.c (.int .i64 2))),mV 33 34] (.cond (.t 33) (.reg [mV 35 0,oP 36 (.call 77 [.t 35,.c (.int .i64 3)]),oP 37 (.bin .add (.c (.int .i64 4)) (.t 36)),mV 38 0,oP 39 (.call 77 [.t 38,.c (.int .i64 4)]),oP 40 (.bin .add (.c (.int .i64 1)) (.t 39)),oP 41 (.build [i0,i0] [(0,(1,.t 37)),(1,(1,.t 40))]),oP 42 (.call 134 [.t 41]),oP 43 (.bin .add (.c (.str [64])) (.t 42)),oP 44 (.bin .add (.t 43) (.c (.str [59]))),mV 7 44]) (sR [oP 46 (.bin .eql (.t 19) (.c (.int .i64 3))),mV 45 46] (.cond (.t 45) (sR [mV 47 1] (.cond (.t 47) (.reg [mV 48 0,oP 49 (.call 77 [.t 48,.c (.int .i64 4)]),oP 50 (.bin .add (.c (.int .i64 10)) (.t 49)),oP 51 (.build [i0,i0] [(0,(1,.c (.int .i64 9))),(1,(1,.t 50))]),oP 52 (.call 134 [.t 51]),oP 53 (.bin .add (.c (.str [64])) (.t 52)),oP 54 (.bin .add (.t 53) (.c (.str [59]))),mV 7 54]) .skip)) .skip)))))))) (sR [mV 55 5,oP 56 (.lens (.t 55)),mV 57 7,oP 58 (.lens (.t 57)),bN 59 .add 56 58,oP 60 (.bin .lss (.t 59) (.c (.int .i64 24)))] (.cond (.t 60) (.reg [mV 61 5,mV 62 7,bN 63 .add 61 62,mV 5 63]) .skip))))) (.reg [mV 13 6,oP 14 (.bin .sub (.t 13) (.c (.int .i64 1))),mV 6 14])))))) (.seq (sR [mV 64 5,oP 65 (.call 142 [.t 64]),oP 66 (.bin .gtr (.t 65) (.c i0))] (.cond (.t 66) (.reg [mV 67 5,oP 68 (.bin .add (.t 67) (.c (.str [122]))),mV 5 68]) .skip)) (sR [mV 69 5,mV 4 69] .ret))))
theorem dg135:Dg Tryz.prog 135 Tryz.f135 ic135 [(.t 4)]:=⟨Tryz.func135,by kernel_rfl,by kernel_rfl⟩
theorem c135 (code:B) (p:Int) (d:Bool) (hc:code.length≤2000) (hp:0≤p∧p≤600000000):FnP Tryz.prog G 135 1 [rdH code p] [.pv 0 0,.bool d] (rdQ code p 21 (strQ 24)):=by
  refine mP dg135 Tryz.ntmps135 ⟨_,_,p,by omega,by omega,rfl,[],by simp,rfl⟩ ?_
  simp only [ic135,go_sem,rdH]
  refine pkN code p 5 9 hc fun k k1 k2=>?_
  simp only [go_sem,rdH]
  have k2:=k2 (by omega)
  with_reducible repeat' (first|rw [i64w (by omega)];try simp only [go_sem]|refine br ?_ ?_<;>intro h e<;>(try simp only [e,go_sem])<;>clear e|refine sd ?_<;>try simp only [go_sem]|fail)
  refine loopN (fun a:B × Int × Int=>⟨getL [(0,.pv 0 0),(1,.bool d),(5,.str a.1),(6,.int .i64 a.2.1)],getH [(0,.var 99 [.sl 1 (code.map byR),.int .i64 a.2.2])]⟩) (fun a=>a.2.1.toNat) (fun a=>(0≤a.2.1∧a.2.1≤5)∧(p≤a.2.2∧a.2.2≤p+1+4 * (5 - a.2.1))∧a.1.length≤23) ([],1+k,p+1) (leQ []) (by simp;omega) ?_
  intro ⟨s,n,q⟩ ⟨h1,h2,h3⟩
  simp only at h1 h2 h3
  simp only [go_sem]
  with_reducible repeat' (first|rw [i64w (by omega)];try simp only [go_sem]|refine br ?_ ?_<;>intro h e<;>(try simp only [e,go_sem])<;>clear e|refine sd ?_<;>try simp only [go_sem]|fail)
  · refine callN (c117 code q bits6 hc (by omega) (by decide)) [0] [1016] true 17 1 (by simp only [go_sem,rdH,bits6,List.mem_singleton];first|done|simp) (by simp only [go_sem,rdH];first|done|simp) (by simp) (by simp) (by simp only [List.mem_singleton];rintro c rfl;exact ⟨rfl,by simp⟩) ?_ ?_ ?_
    · rintro _ _ ⟨q',_,_,rfl,_⟩
      exact ⟨by simp,by simp,.inl rfl,fun i hi=>by obtain rfl:i=0:=(by omega);simp [chH,stepOk,rdH]⟩
    · intro i hi;obtain rfl:i=0:=(by omega);simp only [go_sem]
    rintro _ _ ⟨q',q1,q2,rfl,x,hx,rfl⟩
    have hxl:=bits6_le x hx
    clear hx
    simp only [go_sem,rdH]
    refine pkN code q' 5 19 hc fun j j1 j2=>?_
    simp only [go_sem,rdH]
    have j2:=j2 (by omega)
    cases d
    all_goals
      with_reducible repeat' (first|rw [i64w (by omega)];try simp only [go_sem]|refine br ?_ ?_<;>intro h e<;>(try simp only [e,go_sem])<;>clear e|refine sd ?_<;>try simp only [go_sem]|fail)
    · have:=0
      refine pkN code (q'+1) 3 24 hc fun a a1 a2=>?_
      simp only [go_sem,rdH]
      have a2:=a2 (by omega)
      with_reducible repeat' (first|rw [i64w (by omega)];try simp only [go_sem]|refine br ?_ ?_<;>intro h e<;>(try simp only [e,go_sem])<;>clear e|refine sd ?_<;>try simp only [go_sem]|fail)
      refine pkN code (q'+1+1) 4 27 hc fun b b1 b2=>?_
      simp only [go_sem,rdH]
      have b2:=b2 (by omega)
      with_reducible repeat' (first|rw [i64w (by omega)];try simp only [go_sem]|refine br ?_ ?_<;>intro h e<;>(try simp only [e,go_sem])<;>clear e|refine sd ?_<;>try simp only [go_sem]|fail)
      refine callR (c134 (1+a) (1+b)) rfl rfl ?_
      simp only [go_sem]
      have hte:=text_le (e:=⟨1+a,1+b⟩)
      generalize E.text ⟨1+a,1+b⟩=w at *
      refine pureG (by omega) ?_
      simp only [go_sem]
      have hwl:(w++[59]).length=w.length+1:=by simp
      with_reducible repeat' (first|rw [i64w (by omega)];try simp only [go_sem,hwl]|refine br ?_ ?_<;>intro h e<;>(try simp only [e,go_sem,hwl])<;>clear e|refine sd ?_<;>try simp only [go_sem,hwl]|fail)
      · exact ⟨(s++64 :: (w++[59]),n - 1,q'+1+1+1),by simp only;omega,⟨by simp only;omega,by simp only;omega,by simp only [List.length_append,List.length_cons,List.length_nil];omega⟩,(leQ [])⟩
      · exact ⟨(s,n - 1,q'+1+1+1),by simp only;omega,⟨by simp only;omega,by simp only;omega,h3⟩,(leQ [])⟩
    · have:=0
      refine pkN code (q'+1) 3 24 hc fun a a1 a2=>?_
      simp only [go_sem,rdH]
      have a2:=a2 (by omega)
      with_reducible repeat' (first|rw [i64w (by omega)];try simp only [go_sem]|refine br ?_ ?_<;>intro h e<;>(try simp only [e,go_sem])<;>clear e|refine sd ?_<;>try simp only [go_sem]|fail)
      refine pkN code (q'+1+1) 4 27 hc fun b b1 b2=>?_
      simp only [go_sem,rdH]
      have b2:=b2 (by omega)
      with_reducible repeat' (first|rw [i64w (by omega)];try simp only [go_sem]|refine br ?_ ?_<;>intro h e<;>(try simp only [e,go_sem])<;>clear e|refine sd ?_<;>try simp only [go_sem]|fail)
      refine callR (c134 (1+a) (1+b)) rfl rfl ?_
      simp only [go_sem]
      have hte:=text_le (e:=⟨1+a,1+b⟩)
      generalize E.text ⟨1+a,1+b⟩=w at *
      refine pureG (by omega) ?_
      simp only [go_sem]
      have hwl:(w++[59]).length=w.length+1:=by simp
      with_reducible repeat' (first|rw [i64w (by omega)];try simp only [go_sem,hwl]|refine br ?_ ?_<;>intro h e<;>(try simp only [e,go_sem,hwl])<;>clear e|refine sd ?_<;>try simp only [go_sem,hwl]|fail)
      · exact ⟨(s++64 :: (w++[59]),n - 1,q'+1+1+1),by simp only;omega,⟨by simp only;omega,by simp only;omega,by simp only [List.length_append,List.length_cons,List.length_nil];omega⟩,(leQ [])⟩
      · exact ⟨(s,n - 1,q'+1+1+1),by simp only;omega,⟨by simp only;omega,by simp only;omega,h3⟩,(leQ [])⟩
    · have:=0
      refine pkN code (q'+1) 3 36 hc fun a a1 a2=>?_
      simp only [go_sem,rdH]
      have a2:=a2 (by omega)
      with_reducible repeat' (first|rw [i64w (by omega)];try simp only [go_sem]|refine br ?_ ?_<;>intro h e<;>(try simp only [e,go_sem])<;>clear e|refine sd ?_<;>try simp only [go_sem]|fail)
      refine pkN code (q'+1+1) 4 39 hc fun b b1 b2=>?_
      simp only [go_sem,rdH]
      have b2:=b2 (by omega)
      with_reducible repeat' (first|rw [i64w (by omega)];try simp only [go_sem]|refine br ?_ ?_<;>intro h e<;>(try simp only [e,go_sem])<;>clear e|refine sd ?_<;>try simp only [go_sem]|fail)
      refine callR (c134 (4+a) (1+b)) rfl rfl ?_
      simp only [go_sem]
      have hte:=text_le (e:=⟨4+a,1+b⟩)
      generalize E.text ⟨4+a,1+b⟩=w at *
      refine pureG (by omega) ?_
      simp only [go_sem]
      have hwl:(w++[59]).length=w.length+1:=by simp
      with_reducible repeat' (first|rw [i64w (by omega)];try simp only [go_sem,hwl]|refine br ?_ ?_<;>intro h e<;>(try simp only [e,go_sem,hwl])<;>clear e|refine sd ?_<;>try simp only [go_sem,hwl]|fail)
      · exact ⟨(s++64 :: (w++[59]),n - 1,q'+1+1+1),by simp only;omega,⟨by simp only;omega,by simp only;omega,by simp only [List.length_append,List.length_cons,List.length_nil];omega⟩,(leQ [])⟩
      · exact ⟨(s,n - 1,q'+1+1+1),by simp only;omega,⟨by simp only;omega,by simp only;omega,h3⟩,(leQ [])⟩
    · exact ⟨(s++x,n - 1,q'+1),by simp only;omega,⟨by simp only;omega,by simp only;omega,by simp only [List.length_append,List.length_cons,List.length_nil];omega⟩,(leQ [])⟩
    · exact ⟨(s,n - 1,q'+1),by simp only;omega,⟨by simp only;omega,by simp only;omega,h3⟩,(leQ [])⟩
    · exact ⟨(s++x,n - 1,q'+1),by simp only;omega,⟨by simp only;omega,by simp only;omega,by simp only [List.length_append,List.length_cons,List.length_nil];omega⟩,(leQ [])⟩
    · exact ⟨(s,n - 1,q'+1),by simp only;omega,⟨by simp only;omega,by simp only;omega,h3⟩,(leQ [])⟩
    · have:=0
      refine pkN code (q'+1) 3 24 hc fun a a1 a2=>?_
      simp only [go_sem,rdH]
      have a2:=a2 (by omega)
      with_reducible repeat' (first|rw [i64w (by omega)];try simp only [go_sem]|refine br ?_ ?_<;>intro h e<;>(try simp only [e,go_sem])<;>clear e|refine sd ?_<;>try simp only [go_sem]|fail)
      refine pkN code (q'+1+1) 4 27 hc fun b b1 b2=>?_
      simp only [go_sem,rdH]
      have b2:=b2 (by omega)
      with_reducible repeat' (first|rw [i64w (by omega)];try simp only [go_sem]|refine br ?_ ?_<;>intro h e<;>(try simp only [e,go_sem])<;>clear e|refine sd ?_<;>try simp only [go_sem]|fail)
      refine callR (c134 (1+a) (1+b)) rfl rfl ?_
      simp only [go_sem]
      have hte:=text_le (e:=⟨1+a,1+b⟩)
      generalize E.text ⟨1+a,1+b⟩=w at *
      refine pureG (by omega) ?_
      simp only [go_sem]
      have hwl:(w++[59]).length=w.length+1:=by simp
      with_reducible repeat' (first|rw [i64w (by omega)];try simp only [go_sem,hwl]|refine br ?_ ?_<;>intro h e<;>(try simp only [e,go_sem,hwl])<;>clear e|refine sd ?_<;>try simp only [go_sem,hwl]|fail)
      · exact ⟨(s++64 :: (w++[59]),n - 1,q'+1+1+1),by simp only;omega,⟨by simp only;omega,by simp only;omega,by simp only [List.length_append,List.length_cons,List.length_nil];omega⟩,(leQ [])⟩
      · exact ⟨(s,n - 1,q'+1+1+1),by simp only;omega,⟨by simp only;omega,by simp only;omega,h3⟩,(leQ [])⟩
    · have:=0
      refine pkN code (q'+1) 3 24 hc fun a a1 a2=>?_
      simp only [go_sem,rdH]
      have a2:=a2 (by omega)
      with_reducible repeat' (first|rw [i64w (by omega)];try simp only [go_sem]|refine br ?_ ?_<;>intro h e<;>(try simp only [e,go_sem])<;>clear e|refine sd ?_<;>try simp only [go_sem]|fail)
      refine pkN code (q'+1+1) 4 27 hc fun b b1 b2=>?_
      simp only [go_sem,rdH]
      have b2:=b2 (by omega)
      with_reducible repeat' (first|rw [i64w (by omega)];try simp only [go_sem]|refine br ?_ ?_<;>intro h e<;>(try simp only [e,go_sem])<;>clear e|refine sd ?_<;>try simp only [go_sem]|fail)
      refine callR (c134 (1+a) (1+b)) rfl rfl ?_
      simp only [go_sem]
      have hte:=text_le (e:=⟨1+a,1+b⟩)
      generalize E.text ⟨1+a,1+b⟩=w at *
      refine pureG (by omega) ?_
      simp only [go_sem]
      have hwl:(w++[59]).length=w.length+1:=by simp
      with_reducible repeat' (first|rw [i64w (by omega)];try simp only [go_sem,hwl]|refine br ?_ ?_<;>intro h e<;>(try simp only [e,go_sem,hwl])<;>clear e|refine sd ?_<;>try simp only [go_sem,hwl]|fail)
      · exact ⟨(s++64 :: (w++[59]),n - 1,q'+1+1+1),by simp only;omega,⟨by simp only;omega,by simp only;omega,by simp only [List.length_append,List.length_cons,List.length_nil];omega⟩,(leQ [])⟩
      · exact ⟨(s,n - 1,q'+1+1+1),by simp only;omega,⟨by simp only;omega,by simp only;omega,h3⟩,(leQ [])⟩
    · have:=0
      refine pkN code (q'+1) 3 36 hc fun a a1 a2=>?_
      simp only [go_sem,rdH]
      have a2:=a2 (by omega)
      with_reducible repeat' (first|rw [i64w (by omega)];try simp only [go_sem]|refine br ?_ ?_<;>intro h e<;>(try simp only [e,go_sem])<;>clear e|refine sd ?_<;>try simp only [go_sem]|fail)
      refine pkN code (q'+1+1) 4 39 hc fun b b1 b2=>?_
      simp only [go_sem,rdH]
      have b2:=b2 (by omega)
      with_reducible repeat' (first|rw [i64w (by omega)];try simp only [go_sem]|refine br ?_ ?_<;>intro h e<;>(try simp only [e,go_sem])<;>clear e|refine sd ?_<;>try simp only [go_sem]|fail)
      refine callR (c134 (4+a) (1+b)) rfl rfl ?_
      simp only [go_sem]
      have hte:=text_le (e:=⟨4+a,1+b⟩)
      generalize E.text ⟨4+a,1+b⟩=w at *
      refine pureG (by omega) ?_
      simp only [go_sem]
      have hwl:(w++[59]).length=w.length+1:=by simp
      with_reducible repeat' (first|rw [i64w (by omega)];try simp only [go_sem,hwl]|refine br ?_ ?_<;>intro h e<;>(try simp only [e,go_sem,hwl])<;>clear e|refine sd ?_<;>try simp only [go_sem,hwl]|fail)
      · exact ⟨(s++64 :: (w++[59]),n - 1,q'+1+1+1),by simp only;omega,⟨by simp only;omega,by simp only;omega,by simp only [List.length_append,List.length_cons,List.length_nil];omega⟩,(leQ [])⟩
      · exact ⟨(s,n - 1,q'+1+1+1),by simp only;omega,⟨by simp only;omega,by simp only;omega,h3⟩,(leQ [])⟩
    · have:=0
      refine pkN code (q'+1) 4 49 hc fun a a1 a2=>?_
      simp only [go_sem,rdH]
      have a2:=a2 (by omega)
      with_reducible repeat' (first|rw [i64w (by omega)];try simp only [go_sem]|refine br ?_ ?_<;>intro h e<;>(try simp only [e,go_sem])<;>clear e|refine sd ?_<;>try simp only [go_sem]|fail)
      refine callR (c134 9 (10+a)) rfl rfl ?_
      simp only [go_sem]
      have hte:=text_le (e:=⟨9,10+a⟩)
      generalize E.text ⟨9,10+a⟩=w at *
      refine pureG (by omega) ?_
      simp only [go_sem]
      have hwl:(w++[59]).length=w.length+1:=by simp
      with_reducible repeat' (first|rw [i64w (by omega)];try simp only [go_sem,hwl]|refine br ?_ ?_<;>intro h e<;>(try simp only [e,go_sem,hwl])<;>clear e|refine sd ?_<;>try simp only [go_sem,hwl]|fail)
      · exact ⟨(s++64 :: (w++[59]),n - 1,q'+1+1),by simp only;omega,⟨by simp only;omega,by simp only;omega,by simp only [List.length_append,List.length_cons,List.length_nil];omega⟩,(leQ [])⟩
      · exact ⟨(s,n - 1,q'+1+1),by simp only;omega,⟨by simp only;omega,by simp only;omega,h3⟩,(leQ [])⟩
    · exact ⟨(s++x,n - 1,q'+1),by simp only;omega,⟨by simp only;omega,by simp only;omega,by simp only [List.length_append,List.length_cons,List.length_nil];omega⟩,(leQ [])⟩
    · exact ⟨(s,n - 1,q'+1),by simp only;omega,⟨by simp only;omega,by simp only;omega,h3⟩,(leQ [])⟩
  with_reducible repeat' (first|rw [i64w (by omega)];try simp only [go_sem]|refine br ?_ ?_<;>intro h e<;>(try simp only [e,go_sem])<;>clear e|refine sd ?_<;>try simp only [go_sem]|(first|refine cr (c142 ..) ?_)<;>try simp only [go_sem]|fail)
  · exact retN (.str (s++[122])) [rdH code q] [] (by simp only [go_sem]) ⟨q,by omega,by omega,rfl,_,by simp;omega,rfl⟩ (by simp only [go_sem,rdH]) (by simp [argH,getN,rdH]) (by simp only [go_sem,rdH])
  · exact retN (.str s) [rdH code q] [] (by simp only [go_sem]) ⟨q,by omega,by omega,rfl,s,by omega,rfl⟩ (by simp only [go_sem,rdH]) (by simp [argH,getN,rdH]) (by simp only [go_sem,rdH])
def ic47:IC:=sR [oP 2 (.mv (.c .nilp))] (.seq (sR [mV 3 0,oP 4 (.len (.t 3)),oP 5 (.bin .gtr (.t 4) (.c (.int .i64 2000)))] (.cond (.t 5) (.reg [mV 6 0,oP 7 (.slv 1 (.t 6) none (some (.c (.int .i64 2000)))),mV 0 7]) .skip)) (sR [mV 8 0,oP 9 (.build [.nils,i0] [(0,(1,.t 8))]),oP 10 (.box 99 (.t 9)),mV 2 10] .ret))
theorem dg47:Dg Tryz.prog 47 Tryz.f47 ic47 [(.t 2)]:=⟨Tryz.func47,by kernel_rfl,by kernel_rfl⟩
theorem c47 (code:B) (hc:code.length≤2000000):FnP Tryz.prog G 47 0 [] [.sl 1 (code.map byR)] (fun r o=>r=.pv 0 0∧o=[rdH (code.take 2000) 0]):=by
  refine mP dg47 Tryz.ntmps47 ⟨_,_,rfl,rfl⟩ ?_
  simp only [ic47,go_sem]
  with_reducible repeat' (first|refine br ?_ ?_<;>intro h e<;>(try simp only [e,go_sem])<;>clear e|rw [i64w (by omega)]|refine sd ?_<;>try simp only [go_sem]|fail)
  · refine retN (.pv 0 0) [rdH (code.take 2000) 0] [(0,1010)] (by simp only [go_sem,rdH];first|done|simp) ⟨rfl,rfl⟩ ?_ (by simp [argH,getN,rdH]) (by simp only [go_sem])
    simp only [go_sem,rdH]
  · refine retN (.pv 0 0) [rdH (code.take 2000) 0] [(0,1010)] (by simp only [go_sem,rdH];first|done|simp) ⟨rfl,rfl⟩ ?_ (by simp [argH,getN,rdH]) (by simp only [go_sem])
    have:code.take 2000=code:=List.take_of_length_le (by omega)
    simp only [go_sem,rdH,this]
def mapQ (code:B) (p k:Int) (r:V) (o:List Hs):Prop:=∃ (p':Int) (m:List Pair),(p≤p'∧p'≤p+k)∧(PortsOk m∧m.length≤10) ∧
  ((r=.own 1 m.length∧o=[rdH code p',.arr 82 3 (m.map Pair.row)])∨∃ q:Pair,r=.view 1 1 m.length∧o=[rdH code p',.arr 82 3 ((q :: m).map Pair.row)])
theorem PortsOk.app {m:List Pair} (h:PortsOk m) {q:Pair} (hq:q.port≠0∧q.port<1000):PortsOk (m++[q]):=fun p hp=>by
  rcases List.mem_append.1 hp with hp|hp
  · exact h p hp
  · simp only [List.mem_singleton] at hp;subst hp;exact hq
theorem PortsOk.setIns {m:List Pair} (h:PortsOk m) {k:Nat} (hk:k<m.length) (e:E):PortsOk (m.set k ⟨m[k].port,e⟩):=fun p hp=>by
  rcases List.mem_or_eq_of_mem_set hp with hp|rfl
  · exact h p hp
  · exact h m[k] (List.getElem_mem hk)
def ic87:IC:=sR [oP 2 (.mv (.c .nils))] (sR [oP 5 (.bsl 82 3 []),mV 3 5] (.seq (sR [mV 6 0,oP 7 (.call 77 [.t 6,.c (.int .i64 10)]),mV 4 7] (.block 0 (.loop (.seq (sR [mV 8 4,oP 9 (.bin .gtr (.t 8) (.c i0))] (.cond (.t 9) .skip (.exit 0))) (.seq (.block 1 (.reg [mV 13 3,mV 14 0,oP 15 (.call 77 [.t 14,.c (.int .i64 3)]),oP 16 (.bin .add (.c (.int .i64 1)) (.t 15)),mV 17 0,oP 18 (.call 77 [.t 17,.c (.int .i64 9)]),oP 19 (.bin .add (.c (.int .i64 1)) (.t 18)),oP 20 (.build [i0,i0] [(0,(1,.t 16)),(1,(1,.t 19))]),oP 21 (.call 92 [.t 13,.t 20]),mV 12 21,eX 22 12 0,eX 23 12 1,eX 24 12 2,mV 3 22])) (.reg [mV 10 4,oP 11 (.bin .sub (.t 10) (.c (.int .i64 1))),mV 4 11])))))) (.seq (sR [mV 25 0,oP 26 (.call 77 [.t 25,.c (.int .i64 20)])] (.block 2 (sR [oP 28 (.bin .eql (.t 26) (.c i0)),mV 27 28] (.cond (.t 27) (.reg [mV 29 3,mV 30 0,oP 31 (.call 77 [.t 30,.c (.int .i64 9)]),oP 32 (.bin .add (.c (.int .i64 10)) (.t 31)),mV 33 0,oP 34 (.call 115 [.t 33]),oP 35 (.build [i0,i0,i0] [(0,(1,.t 32)),(1,(2,.t 34))]),oP 36 (.bsl 82 3 [.t 35]),oP 37 (.app 82 3 (.t 29) (.t 36)),mV 3 37]) (sR [oP 39 (.bin .eql (.t 26) (.c (.int .i64 1))),mV 38 39] (.cond (.t 38) (sR [mV 40 3,oP 41 (.len (.t 40)),oP 42 (.bin .gtr (.t 41) (.c i0))] (.cond (.t 42) (.reg [mV 43 3,mV 44 0,mV 45 3,oP 46 (.len (.t 45)),oP 47 (.call 77 [.t 44,.t 46]),mV 48 0,oP 49 (.call 115 [.t 48]),oP 50 (.iad 3 (.t 43) (.t 47)),fD 51 1 50,nP (.sto 2 (.t 51) (.t 49))]) .skip)) (sR [oP 53 (.bin .eql (.t 26) (.c (.int .i64 2))),mV 52 53] (.cond (.t 52) (sR [mV 54 3,oP 55 (.len (.t 54)),oP 56 (.bin .gtr (.t 55) (.c i0))] (.cond (.t 56) (.reg [mV 57 3,oP 58 (.slv 3 (.t 57) (some (.c (.int .i64 1))) none),mV 3 58]) .skip)) .skip)))))))) (sR [mV 59 3,mV 2 59] .ret))))
theorem dg87:Dg Tryz.prog 87 Tryz.f87 ic87 [(.t 2)]:=⟨Tryz.func87,by kernel_rfl,by kernel_rfl⟩
theorem c87 (code:B) (p:Int) (hc:code.length≤2000) (hp:0≤p∧p≤700000000):FnP Tryz.prog G 87 1 [rdH code p] [.pv 0 0] (mapQ code p 40):=by
  refine mP dg87 Tryz.ntmps87 ⟨_,_,p,[],by omega,⟨fun _ h=>(by cases h),by simp⟩,.inl ⟨rfl,rfl⟩⟩ ?_
  have fin:∀ l mm (p':Int) (m:List Pair) (n:Nat),(p≤p'∧p'≤p+40)→(PortsOk m∧m.length≤10)→getL l 2=.own n m.length→getH mm 0=.var 99 [.sl 1 (code.map byR),.int .i64 p']→getH mm n=.arr 82 3 (m.map Pair.row)→n≠0→retQ [.t 2] 1 (mapQ code p 40) .ret ⟨getL l,getH mm⟩:=fun l mm p' m n h1 h2 h3 h4 h5 h6=>by
    refine retN (.own 1 m.length) [rdH code p',.arr 82 3 (m.map Pair.row)] [(1,n)] ?_ ⟨p',m,h1,h2,.inl ⟨rfl,rfl⟩⟩ ?_ ?_ (by simp only [go_sem,rdH])
    · simp only [go_sem,h3]
    · simp only [go_sem,rdH,h4,h5]
    · simp [argH,getN,rdH];omega
  simp only [ic87,go_sem,rdH]
  with_reducible repeat' (first|rw [i64w (by omega)];try simp only [go_sem]|refine br ?_ ?_<;>intro h e<;>(try simp only [e,go_sem])<;>clear e|refine sd ?_<;>try simp only [go_sem]|fail)
  refine pkN code p 10 7 hc fun n n1 n2=>?_
  simp only [go_sem,rdH]
  have n2:=n2 (by omega)
  with_reducible repeat' (first|rw [i64w (by omega)];try simp only [go_sem]|refine br ?_ ?_<;>intro h e<;>(try simp only [e,go_sem])<;>clear e|refine sd ?_<;>try simp only [go_sem]|fail)
  refine loopN (fun a:List Pair × Int × Int=>⟨getL [(0,.pv 0 0),(3,.own 1005 a.1.length),(4,.int .i64 a.2.1)],getH [(0,.var 99 [.sl 1 (code.map byR),.int .i64 a.2.2]),(1005,.arr 82 3 (a.1.map Pair.row))]⟩) (fun a=>a.2.1.toNat)
    (fun a=>(0≤a.2.1∧a.2.1≤n)∧PortsOk a.1∧(a.1.length:Int)≤n - a.2.1∧(p≤a.2.2∧a.2.2≤p+1+2 * (n - a.2.1))) ([],n,p+1) (leQ []) ⟨by simp only;omega,fun _ h=>(by cases h),by simp,by simp only;omega⟩ ?_
  intro ⟨m,k,q⟩ ⟨h1,h2,h3,h4⟩
  simp only at h1 h2 h3 h4
  simp only [go_sem]
  by_cases hk:0<k
  · simp only [eq_true hk,go_sem]
    refine pkN code q 3 15 hc fun x x1 x2=>?_
    simp only [go_sem,rdH]
    have x2:=x2 (by omega)
    with_reducible repeat' (first|rw [i64w (by omega)];try simp only [go_sem]|refine br ?_ ?_<;>intro h e<;>(try simp only [e,go_sem])<;>clear e|refine sd ?_<;>try simp only [go_sem]|fail)
    refine pkN code (q+1) 9 18 hc fun y y1 y2=>?_
    simp only [go_sem,rdH]
    have y2:=y2 (by omega)
    with_reducible repeat' (first|rw [i64w (by omega)];try simp only [go_sem]|refine br ?_ ?_<;>intro h e<;>(try simp only [e,go_sem])<;>clear e|refine sd ?_<;>try simp only [go_sem]|fail)
    have hl:=mOut_len m ⟨1+x,1+y⟩
    have hpo:=h2.mOut (e:=⟨1+x,1+y⟩)
    refine callN (c92 m (1+x) (1+y) h2 (by omega)) [1005] [] true 21 2 (by simp only [go_sem];first|done|simp) (by simp only [go_sem];first|done|simp) (by simp) (by simp) (by simp) ?_ ?_ ?_
    · rintro res out (⟨_,rfl,rfl⟩|⟨rfl,rfl,_⟩)
      · exact ⟨by simp,by simp,.inl rfl,fun i hi=>by obtain rfl:i=0:=(by omega);simp [chH,stepOk]⟩
      · exact ⟨by simp,by simp,.inl rfl,fun i hi=>by obtain rfl:i=0:=(by omega);simp [chH,stepOk]⟩
    · intro i hi
      have:i=0∨i=1:=by omega
      rcases this with rfl|rfl<;>simp only [go_sem]
    rintro res out (⟨g1,rfl,rfl⟩|⟨rfl,rfl,g3,g4⟩)
    · simp only [go_sem]
      with_reducible repeat' (first|rw [i64w (by omega)];try simp only [go_sem]|refine br ?_ ?_<;>intro h e<;>(try simp only [e,go_sem])<;>clear e|refine sd ?_<;>try simp only [go_sem]|fail)
      refine ⟨(m,k - 1,q+1+1),by simp only;omega,⟨by simp only;omega,h2,by simp only;omega,by simp only;omega⟩,(leQ [])⟩
    · simp only [go_sem]
      with_reducible repeat' (first|rw [i64w (by omega)];try simp only [go_sem]|refine br ?_ ?_<;>intro h e<;>(try simp only [e,go_sem])<;>clear e|refine sd ?_<;>try simp only [go_sem]|fail)
      refine ⟨((mOut m ⟨1+x,1+y⟩).1,k - 1,q+1+1),by simp only;omega,⟨by simp only;omega,hpo,by simp only;omega,by simp only;omega⟩,(leQ [(1005,102101)])⟩
  · simp only [eq_false hk,go_sem]
    obtain rfl:k=0:=by omega
    have hml:m.length≤9:=by omega
    refine pkN code q 20 26 hc fun s s1 s2=>?_
    simp only [go_sem,rdH]
    have s2:=s2 (by omega)
    with_reducible repeat' (first|rw [i64w (by omega)];try simp only [go_sem]|refine br ?_ ?_<;>intro h e<;>(try simp only [e,go_sem])<;>clear e|refine sd ?_<;>try simp only [go_sem]|fail)
    · have:=0
      refine pkN code (q+1) 9 31 hc fun x x1 x2=>?_
      simp only [go_sem,rdH]
      have x2:=x2 (by omega)
      with_reducible repeat' (first|rw [i64w (by omega)];try simp only [go_sem]|refine br ?_ ?_<;>intro h e<;>(try simp only [e,go_sem])<;>clear e|refine sd ?_<;>try simp only [go_sem]|fail)
      refine callN (c115 code (q+1+1) hc (by omega)) [0] [] true 34 1 (by simp only [go_sem,rdH];first|done|simp) (by simp only [go_sem,rdH];first|done|simp) (by simp) (by simp) (by simp) ?_ ?_ ?_
      · rintro _ _ ⟨q',_,_,rfl,_⟩
        exact ⟨by simp,by simp,.inl rfl,fun i hi=>by obtain rfl:i=0:=(by omega);simp [chH,stepOk,rdH]⟩
      · intro i hi;obtain rfl:i=0:=(by omega);simp only [go_sem]
      rintro _ _ ⟨q1,q11,q12,rfl,e,e1,e2,rfl⟩
      simp only [go_sem,rdH]
      with_reducible repeat' (first|rw [i64w (by omega)];try simp only [go_sem]|refine br ?_ ?_<;>intro h e<;>(try simp only [e,go_sem])<;>clear e|refine sd ?_<;>try simp only [go_sem]|fail)
      refine retN (.own 1 (m.length+1)) [rdH code q1,.arr 82 3 ((m++[(⟨10+x,e⟩:Pair)]).map Pair.row)] [(1,1037)] (by simp only [go_sem]) ⟨q1,m++[⟨10+x,e⟩],by omega,⟨PortsOk.app (q:=⟨10+x,e⟩) h2 ⟨by simp only;omega,by simp only;omega⟩,by simp;omega⟩,.inl ⟨by simp,rfl⟩⟩ ?_ (by simp [argH,getN,rdH]) (by simp only [go_sem,rdH])
      simp only [go_sem,rdH]
      simp [Pair.row]
    · have hm0:0<m.length:=by omega
      have:=0
      refine pkN code (q+1) m.length 47 hc fun x x1 x2=>?_
      simp only [go_sem,rdH]
      have x2:=x2 (by omega)
      with_reducible repeat' (first|rw [i64w (by omega)];try simp only [go_sem]|refine br ?_ ?_<;>intro h e<;>(try simp only [e,go_sem])<;>clear e|refine sd ?_<;>try simp only [go_sem]|fail)
      refine callN (c115 code (q+1+1) hc (by omega)) [0] [] true 49 1 (by simp only [go_sem,rdH];first|done|simp) (by simp only [go_sem,rdH];first|done|simp) (by simp) (by simp) (by simp) ?_ ?_ ?_
      · rintro _ _ ⟨q',_,_,rfl,_⟩
        exact ⟨by simp,by simp,.inl rfl,fun i hi=>by obtain rfl:i=0:=(by omega);simp [chH,stepOk,rdH]⟩
      · intro i hi;obtain rfl:i=0:=(by omega);simp only [go_sem]
      rintro _ _ ⟨q1,q11,q12,rfl,e,e1,e2,rfl⟩
      simp only [go_sem,rdH]
      have hxl:x.toNat<m.length:=by omega
      with_reducible repeat' (first|rw [i64w (by omega)];try simp only [go_sem]|refine br ?_ ?_<;>intro h e<;>(try simp only [e,go_sem])<;>clear e|refine sd ?_<;>try simp only [go_sem]|fail)
      have e3:(m.set x.toNat ⟨m[x.toNat].port,e⟩).map Pair.row=(m.map Pair.row).set x.toNat [.int .i64 m[x.toNat].port,.int .i64 e.a,.int .i64 e.p]:=by rw [List.map_set];rfl
      have e4:(m.map Pair.row).getD x.toNat []=[.int .i64 m[x.toNat].port,.int .i64 m[x.toNat].ins.a,.int .i64 m[x.toNat].ins.p]:=by simp [List.getD,hxl,Pair.row]
      exact fin _ _ q1 (m.set x.toNat ⟨m[x.toNat].port,e⟩) 1005 (by omega) ⟨PortsOk.setIns h2 hxl e,by simp;omega⟩ (by simp only [go_sem];simp) (by simp only [go_sem]) (by simp only [go_sem];rw [e3,e4];rfl) (by omega)
    · exact fin _ _ (q+1) m 1005 (by omega) ⟨h2,by omega⟩ (by simp only [go_sem]) (by simp only [go_sem]) (by simp only [go_sem]) (by omega)
    · obtain ⟨a,m',rfl⟩:∃ a m',m=a :: m':=by
        cases m with
        | nil=>simp at *
        | cons a m'=>exact ⟨a,m',rfl⟩
      simp only [List.length_cons,Nat.add_sub_cancel] at *
      refine retN (.view 1 1 m'.length) [rdH code (q+1),.arr 82 3 ((a :: m').map Pair.row)] [(1,1005)] (by simp only [go_sem]) ⟨q+1,m',by omega,⟨fun p hp=>h2 p (List.mem_cons_of_mem _ hp),by omega⟩,.inr ⟨a,rfl,rfl⟩⟩ ?_ (by simp [argH,getN,rdH]) (by simp only [go_sem,rdH])
      simp only [go_sem,rdH]
    · exact fin _ _ (q+1) m 1005 (by omega) ⟨h2,by omega⟩ (by simp only [go_sem]) (by simp only [go_sem]) (by simp only [go_sem]) (by omega)
    · exact fin _ _ (q+1) m 1005 (by omega) ⟨h2,by omega⟩ (by simp only [go_sem]) (by simp only [go_sem]) (by simp only [go_sem]) (by omega)
def mapO (code:B) (p k:Int) (r:V) (o:List Hs):Prop:=∃ (p':Int) (m:List Pair),(p≤p'∧p'≤p+k)∧(PortsOk m∧m.length≤10)∧r=.own 1 m.length∧o=[rdH code p',.arr 82 3 (m.map Pair.row)]
theorem o87 (code:B) (p:Int) (hc:code.length≤2000) (hp:0≤p∧p≤700000000):FnP Tryz.prog G 87 1 [rdH code p] [.pv 0 0] (mapO code p 40) :=
  (c87 code p hc hp).tail fun r o ⟨p',m,h1,h2,h⟩=>by
    rcases h with ⟨rfl,rfl⟩|⟨q,rfl,rfl⟩
    · exact .inl ⟨p',m,h1,h2,rfl,rfl⟩
    · refine .inr ⟨1,82,3,Pair.row q,m.map Pair.row,by decide,by simp,rfl,fun i s hs hi=>?_,p',m,h1,h2,by simp,rfl⟩
      match i,hs with
      | 0,hs=>cases hs;simp [Hs.bare,rdH,V.closed]
      | 1,hs=>exact absurd rfl hi
      | i+2,hs=>simp at hs
def putA (m:List Pair) (s:Strm) (n:Int) (t:B) (out:Bool) (r:V) (o:List Hs):Prop :=
  (put m s n t out).1=m∧r=.tup [.own 0 m.length,.agg [.str (put m s n t out).2.1.inn,.sl 2 ((put m s n t out).2.1.parts.map Part.row)],.bool (put m s n t out).2.2]∧o=[.arr 82 3 (m.map Pair.row)]
def putB (m:List Pair) (s:Strm) (n:Int) (t:B) (out:Bool) (r:V) (o:List Hs):Prop :=
  (put m s n t out).2.2=true∧r=.tup [.own 1 (put m s n t out).1.length,.agg [.str (put m s n t out).2.1.inn,.sl 2 ((put m s n t out).2.1.parts.map Part.row)],.bool true]∧o=[.dead,.arr 82 3 ((put m s n t out).1.map Pair.row)]
theorem live_dead:Hs.live .dead=false:=of_eq_true (eq_self _)
theorem mkParts_nil (l:List Pc):mkParts l []=[]:=by cases l<;>rfl
theorem drop_take_i (l:B) (d n:Nat):(l.take ((d:Int)+(n:Int)).toNat).drop d=(l.drop d).take n:=by
  rw [List.drop_take];congr 1;omega
def ic95:IC:=sR [oP 6 (.box 44 (.t 1)),oP 10 (.mv (.c .nils)),oP 11 (.alloc 44 [s0,.nils]),oP 12 (.mv (.c (.bool false)))] (sR [fD 21 0 6,lD 22 1 21,oP 23 (.lens (.t 22)),mV 13 23] (.seq (sR [mV 24 2,mV 25 13,bN 26 .gtr 24 25,mV 27 26,⟨some 28,some (27,false),.mv (.t 2)⟩,⟨some 29,some (27,false),.mv (.t 3)⟩,⟨some 30,some (27,false),.lens (.t 29)⟩,⟨some 31,some (27,false),.bin .add (.t 28) (.t 30)⟩,⟨some 32,some (27,false),.bin .gtr (.t 31) (.c (.int .i64 40))⟩,oP 33 (.pick (.t 27) (.c (.bool true)) (.t 32))] (.cond (.t 33) (.seq (.drw [0,0,1,7,15] [(0,mV 34 0),(1,lA 35 2 6),(2,mV 10 34),(3,nP (.sto 2 (.t 11) (.t 35))),(4,oP 12 (.mv (.c (.bool false))))]) .ret) .skip)) (.seq (sR [mV 36 2,mV 37 3,oP 38 (.lens (.t 37)),bN 39 .add 36 38,mV 40 13,bN 41 .leq 39 40] (.cond (.t 41) (.seq (.drw [0,0,1,7,15] [(0,mV 42 0),(1,lA 43 2 6),(2,mV 10 42),(3,nP (.sto 2 (.t 11) (.t 43))),(4,oP 12 (.mv (.c (.bool true))))]) .ret) .skip)) (.seq (.drw [0,1,0,0,0,24,60,127,255] [(0,fD 44 0 6),(1,lD 45 1 44),(2,mV 46 3),(3,mV 47 13),(4,mV 48 2),(5,bN 49 .sub 47 48),(6,oP 50 (.sls (.t 46) (some (.t 49)) none)),(7,bN 51 .add 45 50),(8,mV 14 51)]) (sR [lA 52 2 6,oP 53 (.call 123 [.t 52]),mV 15 53] (sR [mV 54 14,oP 55 (.call 124 [.t 54]),mV 16 55] (sR [mV 56 14,oP 57 (.bsl 89 2 []),fD 58 1 6,lD 59 1 58,oP 60 (.app 89 2 (.t 57) (.t 59)),oP 61 (.build [s0,.nils] [(0,(1,.t 56)),(1,(1,.t 60))]),oP 17 (.alloc 44 [s0,.nils]),nP (.sto 2 (.t 17) (.t 61))] (.seq (sR [fD 62 1 6,lD 63 1 62,oP 64 (.len (.t 63)),mV 18 64] (.block 0 (.loop (.seq (sR [mV 65 18,mV 66 16,oP 67 (.len (.t 66)),bN 68 .lss 65 67] (.cond (.t 68) .skip (.exit 0))) (.seq (.block 1 (sR [mV 71 14,mV 72 15,mV 73 15,mV 74 16,mV 75 18,oP 76 (.iad 4 (.t 74) (.t 75)),fD 77 0 76,lD 78 1 77,bN 79 .add 73 78,oP 80 (.sls (.t 71) (some (.t 72)) (some (.t 79))),mV 19 80] (sR [oP 20 (.mv (.c s0))] (.seq (sR [mV 81 4] (.cond (.t 81) (.reg [mV 83 0,mV 84 16,mV 85 18,oP 86 (.iad 4 (.t 84) (.t 85)),lA 87 4 86,mV 88 19,oP 89 (.call 125 [.t 83,.t 87,.t 88]),mV 82 89,eX 90 82 0,eX 91 82 1,mV 0 90,mV 20 91]) (.reg [mV 92 0,mV 93 16,mV 94 18,oP 95 (.iad 4 (.t 93) (.t 94)),lA 96 4 95,mV 97 19,oP 98 (.call 126 [.t 92,.t 96,.t 97]),mV 20 98]))) (.seq (.drw [0,1,0,0,12,28,60,0,252,508,1023,2047,4095] [(0,fD 99 1 17),(1,lD 100 1 99),(2,mV 101 16),(3,mV 102 18),(4,oP 103 (.iad 4 (.t 101) (.t 102))),(5,fD 104 0 103),(6,lD 105 1 104),(7,mV 106 20),(8,oP 107 (.build [i0,s0] [(0,(1,.t 105)),(1,(1,.t 106))])),(9,oP 108 (.bsl 89 2 [.t 107])),(10,oP 109 (.app 89 2 (.t 100) (.t 108))),(11,fD 110 1 17),(12,nP (.sto 1 (.t 110) (.t 109)))]) (.reg [mV 111 15,mV 112 16,mV 113 18,oP 114 (.iad 4 (.t 112) (.t 113)),fD 115 0 114,lD 116 1 115,bN 117 .add 111 116,mV 15 117])))))) (.reg [mV 69 18,oP 70 (.bin .add (.t 69) (.c (.int .i64 1))),mV 18 70])))))) (.seq (.drw [0,0,1,7,15] [(0,mV 118 0),(1,lA 119 2 17),(2,mV 10 118),(3,nP (.sto 2 (.t 11) (.t 119))),(4,oP 12 (.mv (.c (.bool true))))]) .ret)))))))))
theorem dg95:Dg Tryz.prog 95 Tryz.f95 ic95 [(.t 10),(.cell 11 2 true),(.t 12)]:=⟨Tryz.func95,by kernel_rfl,by kernel_rfl⟩
theorem put_F (m:List Pair) (s:Strm) (n:Int) (t:B) (out:Bool) (h:(behind s.inn n t).2=false):put m s n t out=(m,s,false):=by simp [put,h]
theorem put_T (m:List Pair) {s:Strm} (n:Int) (t:B) (out:Bool) (hs:strmOk s=true) (h:¬ (n>s.inn.length∨n+t.length>40)) (h2:n+t.length≤s.inn.length):put m s n t out=(m,s,true):=by
  have hb:behind s.inn n t=(s.inn,true):=by
    unfold behind;rw [if_neg (by simpa using h),if_pos h2]
  obtain ⟨d1,d2⟩:=strmOk_done hs
  have:(pieces s.inn).drop s.parts.length=[]:=by rw [d2,List.drop_length]
  simp [put,hb,this,turned,mkParts]
theorem turned_false:∀ (l:List Pc) (m:List Pair) (s:B),(turned m l s false).1=m
  | [],m,s=>rfl
  | p :: ps,m,s=>by simp only [turned];rw [turned_false ps];rfl
theorem c95F (m:List Pair) (s:Strm) (n:Int) (t:B) (h:PutOk m s n t):FnP Tryz.prog G 95 1 [.arr 82 3 (m.map Pair.row)] [.own 0 m.length,.agg [.str s.inn,.sl 2 (s.parts.map Part.row)],.int .i64 n,.str t,.bool false] (putA m s n t false):=by
  refine mP dg95 Tryz.ntmps95 ?_ ?_
  · refine ⟨_,_, ?_,rfl,rfl⟩
    cases hb:(behind s.inn n t).2
    · rw [put_F _ _ _ _ _ hb]
    · simp [put,hb,turned_false]
  obtain ⟨hm,hs,hn,ht⟩:=h
  obtain ⟨hp,hml⟩:=mapOk_ports hm
  obtain ⟨s1,s2,s3⟩:=strmOk_B hs
  have keep:∀ l mm ok,put m s n t false=(m,s,ok)→getL l 10=.own 0 m.length→getL l 11=.pv 1011 0→getL l 12=.bool ok→getH mm 0=.arr 82 3 (m.map Pair.row)→getH mm 1011=.var 44 [.str s.inn,.sl 2 (s.parts.map Part.row)] →
      retQ [.t 10,.cell 11 2 true,.t 12] 1 (putA m s n t false) .ret ⟨getL l,getH mm⟩:=fun l mm ok h1 h2 h3 h4 h5 h6=>by
    refine retN (.tup [.own 0 m.length,.agg [.str (put m s n t false).2.1.inn,.sl 2 ((put m s n t false).2.1.parts.map Part.row)],.bool (put m s n t false).2.2]) [.arr 82 3 (m.map Pair.row)] [] ?_ ⟨by rw [h1],rfl,rfl⟩ ?_ (by simp [argH]) (by simp only [go_sem])
    · simp only [go_sem,h1,h2,h3,h4,h6]
    · simp only [go_sem,h5]
  simp only [ic95,go_sem]
  with_reducible repeat' (first|rw [i64w (by omega)];try simp only [go_sem]|refine br ?_ ?_<;>intro h e<;>(try simp only [e,go_sem])<;>clear e|refine sd ?_<;>try simp only [go_sem]|fail)
  · exact keep _ _ _ (put_F _ _ _ _ _ (by unfold behind;rw [if_pos (by simp;omega)])) (by simp only [go_sem]) (by simp only [go_sem]) (by simp only [go_sem]) (by simp only [go_sem]) (by simp only [go_sem])
  · exact keep _ _ _ (put_F _ _ _ _ _ (by unfold behind;rw [if_pos (by simp;omega)])) (by simp only [go_sem]) (by simp only [go_sem]) (by simp only [go_sem]) (by simp only [go_sem]) (by simp only [go_sem])
  · exact keep _ _ _ (put_T _ _ _ _ hs (by omega) (by omega)) (by simp only [go_sem]) (by simp only [go_sem]) (by simp only [go_sem]) (by simp only [go_sem]) (by simp only [go_sem])
  have hb:behind s.inn n t=(s.inn++t.drop (s.inn.length - n).toNat,true):=by
    unfold behind;rw [if_neg (by simp;omega),if_neg (by omega)]
  have hbp:(behind s.inn n t).2=true:=by rw [hb]
  have hfin:∀ mm ts d,PutI m s (behind s.inn n t).1 false mm ts (pieces (behind s.inn n t).1).length d→_:=fun mm ts d h=>put_done hbp h
  have h0:=PutI.init (x:=t.drop (s.inn.length - n).toNat) (out:=false) hp hs
  rw [hb] at hfin
  refine pureG (by simp;omega) ?_
  simp only [List.take_length,go_sem]
  generalize hin:s.inn++t.drop (s.inn.length - n).toNat=inn at *
  have hil:inn.length≤80:=by rw [← hin];simp;omega
  have hpl:=pieces_len inn
  with_reducible repeat' (first|rw [i64w (by omega)];try simp only [go_sem]|refine br ?_ ?_<;>intro h e<;>(try simp only [e,go_sem])<;>clear e|refine sd ?_<;>try simp only [go_sem]|fail)
  refine callR (c123 s ⟨s1,s2,s3⟩) rfl rfl ?_
  simp only [go_sem]
  with_reducible repeat' (first|rw [i64w (by omega)];try simp only [go_sem]|refine br ?_ ?_<;>intro h e<;>(try simp only [e,go_sem])<;>clear e|refine sd ?_<;>try simp only [go_sem]|(first|refine cr (c124 ..) ?_)<;>try simp only [go_sem]|fail)
  refine loopN (fun a:List B × Nat × Nat=>⟨getL [(0,.own 0 m.length),(4,.bool false),(11,.pv 1011 0),(14,.str inn),(15,.int .i64 (a.2.2:Int)),(16,.sl 4 ((pieces inn).map Pc.row)),(17,.pv 1017 0),(18,.int .i64 (a.2.1:Int))],
    getH [(0,.arr 82 3 (m.map Pair.row)),(1011,.var 44 [.str [],.nils]),(1017,.var 44 [.str inn,.own 1060 a.2.1]),(1060,.arr 89 2 ((s.parts++mkParts ((pieces inn).drop s.parts.length) a.1).map Part.row))]⟩) (fun a=>(pieces inn).length - a.2.1)
    (fun a=>PutI m s inn false m a.1 a.2.1 a.2.2) ([],s.parts.length,doneP s.parts) ?_ h0 ?_
  · refine leN [] (by simp only [go_sem];first|done|rfl) ?_ (by simp [getN]) (by simp only [go_sem])
    simp only [go_sem];simp [mkParts_nil]
  intro ⟨ts,i,d⟩ hI
  simp only at hI
  simp only [go_sem]
  have hi:=hI.hi
  by_cases h:(i:Int)<(pieces inn).length
  · obtain ⟨hst1,hst2⟩:=hI.step (by omega)
    have hml2:=mkParts_len2 ((pieces inn).drop s.parts.length) ts (by have:=hI.ht;rw [List.length_drop];omega)
    have hml3:(s.parts++mkParts ((pieces inn).drop s.parts.length) ts).length=i:=by rw [List.length_append,hml2];exact hI.ht
    have hma:=mkParts_app ((pieces inn).drop s.parts.length) ts (pieceIn m ((pieces inn).getD i default) ((inn.drop d).take ((pieces inn).getD i default).size)) (by have:=hI.ht;rw [List.length_drop];omega)
    have hgq:((pieces inn).drop s.parts.length).getD ts.length default=(pieces inn).getD i default:=by
      simp only [List.getD_eq_getElem?_getD,List.getElem?_drop,hI.ht]
    rw [hgq] at hma
    have hht:=hI.ht
    simp only [turn,cond_false] at hst2
    obtain ⟨q,hq⟩:∃ q,(pieces inn).getD i default=q:=⟨_,rfl⟩
    rw [hq] at hst1 hst2 hma
    simp only [eq_true h,go_sem]
    refine effG (by omega) ?_
    simp only [go_sem,hq]
    with_reducible repeat' (first|rw [i64w (by omega)];try simp only [go_sem,hq]|refine br ?_ ?_<;>intro h e<;>(try simp only [e,go_sem,hq])<;>clear e|refine sd ?_<;>try simp only [go_sem,hq]|fail)
    rw [drop_take_i]
    refine callF (c126 m q.size q.named q.e.a q.e.p ((inn.drop d).take q.size) hm) [0] false (by simp only [go_sem];first|done|simp [E.row,Pc.row,Pair.row,Part.row,Flw.row,Pk.row,Conv.row]) (by simp only [List.mem_singleton];rintro c rfl;rfl) rfl (.inr rfl) ?_
    simp only [go_sem,hq]
    with_reducible repeat' (first|rw [i64w (by omega)];try simp only [go_sem,hq]|refine br ?_ ?_<;>intro h e<;>(try simp only [e,go_sem,hq])<;>clear e|refine sd ?_<;>try simp only [go_sem,hq]|fail)
    refine ⟨(ts++[pieceIn m q ((inn.drop d).take q.size)],i+1,d+q.size),by simp only;omega,hst2,leN [(1060,1109)] ?_ ?_ (by simp [getN]) (by simp only [go_sem])⟩
    · simp only [go_sem];simp
    · simp only [go_sem,hma];simp [Part.row]
  · simp only [eq_false h,go_sem]
    have:i=(pieces inn).length:=by omega
    subst this
    with_reducible repeat' (first|refine br ?_ ?_<;>intro h e<;>(try simp only [e,go_sem])<;>clear e|rw [i64w (by omega)]|refine sd ?_<;>try simp only [go_sem]|fail)
    have hfin:=hfin m ts d hI
    refine retN (.tup [.own 0 m.length,.agg [.str inn,.sl 2 ((s.parts++mkParts ((pieces inn).drop s.parts.length) ts).map Part.row)],.bool true]) [.arr 82 3 (m.map Pair.row)] [] ?_ ⟨by rw [hfin],by rw [hfin],rfl⟩ ?_ (by simp [argH]) (by simp only [go_sem])
    · simp only [go_sem]
      have:=hI.ht
      have:=mkParts_len2 ((pieces inn).drop s.parts.length) ts (by rw [List.length_drop];omega)
      first|done|(simp;omega)
    · simp only [go_sem]
def putAB (m:List Pair) (s:Strm) (n:Int) (t:B) (out:Bool) (r:V) (o:List Hs):Prop:=putA m s n t out r o∨putB m s n t out r o
theorem c95T (m:List Pair) (s:Strm) (n:Int) (t:B) (h:PutOk m s n t):FnP Tryz.prog G 95 1 [.arr 82 3 (m.map Pair.row)] [.own 0 m.length,.agg [.str s.inn,.sl 2 (s.parts.map Part.row)],.int .i64 n,.str t,.bool true] (putAB m s n t true):=by
  refine mP dg95 Tryz.ntmps95 ?_ ?_
  · cases hb:(behind s.inn n t).2
    · exact ⟨_,_,.inl ⟨by rw [put_F _ _ _ _ _ hb],rfl,rfl⟩⟩
    · exact ⟨_,_,.inr ⟨by simp [put,hb],rfl,rfl⟩⟩
  obtain ⟨hm,hs,hn,ht⟩:=h
  obtain ⟨hp,hml⟩:=mapOk_ports hm
  obtain ⟨s1,s2,s3⟩:=strmOk_B hs
  have keep:∀ l mm ok,put m s n t true=(m,s,ok)→getL l 10=.own 0 m.length→getL l 11=.pv 1011 0→getL l 12=.bool ok→getH mm 0=.arr 82 3 (m.map Pair.row)→getH mm 1011=.var 44 [.str s.inn,.sl 2 (s.parts.map Part.row)] →
      retQ [.t 10,.cell 11 2 true,.t 12] 1 (putAB m s n t true) .ret ⟨getL l,getH mm⟩:=fun l mm ok h1 h2 h3 h4 h5 h6=>by
    refine retN (.tup [.own 0 m.length,.agg [.str (put m s n t true).2.1.inn,.sl 2 ((put m s n t true).2.1.parts.map Part.row)],.bool (put m s n t true).2.2]) [.arr 82 3 (m.map Pair.row)] [] ?_ (.inl ⟨by rw [h1],rfl,rfl⟩) ?_ (by simp [argH]) (by simp only [go_sem])
    · simp only [go_sem,h1,h2,h3,h4,h6]
    · simp only [go_sem,h5]
  simp only [ic95,go_sem]
  with_reducible repeat' (first|rw [i64w (by omega)];try simp only [go_sem]|refine br ?_ ?_<;>intro h e<;>(try simp only [e,go_sem])<;>clear e|refine sd ?_<;>try simp only [go_sem]|fail)
  · exact keep _ _ _ (put_F _ _ _ _ _ (by unfold behind;rw [if_pos (by simp;omega)])) (by simp only [go_sem]) (by simp only [go_sem]) (by simp only [go_sem]) (by simp only [go_sem]) (by simp only [go_sem])
  · exact keep _ _ _ (put_F _ _ _ _ _ (by unfold behind;rw [if_pos (by simp;omega)])) (by simp only [go_sem]) (by simp only [go_sem]) (by simp only [go_sem]) (by simp only [go_sem]) (by simp only [go_sem])
  · exact keep _ _ _ (put_T _ _ _ _ hs (by omega) (by omega)) (by simp only [go_sem]) (by simp only [go_sem]) (by simp only [go_sem]) (by simp only [go_sem]) (by simp only [go_sem])
  have hb:behind s.inn n t=(s.inn++t.drop (s.inn.length - n).toNat,true):=by
    unfold behind;rw [if_neg (by simp;omega),if_neg (by omega)]
  have hbp:(behind s.inn n t).2=true:=by rw [hb]
  have hfin:∀ mm ts d,PutI m s (behind s.inn n t).1 true mm ts (pieces (behind s.inn n t).1).length d→_:=fun mm ts d h=>put_done hbp h
  have h0:=PutI.init (x:=t.drop (s.inn.length - n).toNat) (out:=true) hp hs
  rw [hb] at hfin
  refine pureG (by simp;omega) ?_
  simp only [List.take_length,go_sem]
  generalize hin:s.inn++t.drop (s.inn.length - n).toNat=inn at *
  have hil:inn.length≤80:=by rw [← hin];simp;omega
  have hpl:=pieces_len inn
  with_reducible repeat' (first|rw [i64w (by omega)];try simp only [go_sem]|refine br ?_ ?_<;>intro h e<;>(try simp only [e,go_sem])<;>clear e|refine sd ?_<;>try simp only [go_sem]|fail)
  refine callR (c123 s ⟨s1,s2,s3⟩) rfl rfl ?_
  simp only [go_sem]
  with_reducible repeat' (first|rw [i64w (by omega)];try simp only [go_sem]|refine br ?_ ?_<;>intro h e<;>(try simp only [e,go_sem])<;>clear e|refine sd ?_<;>try simp only [go_sem]|(first|refine cr (c124 ..) ?_)<;>try simp only [go_sem]|fail)
  refine loopN (fun a:List Pair × List B × Nat × Nat=>⟨getL [(0,.own 5000 a.1.length),(4,.bool true),(11,.pv 1011 0),(14,.str inn),(15,.int .i64 (a.2.2.2:Int)),(16,.sl 4 ((pieces inn).map Pc.row)),(17,.pv 1017 0),(18,.int .i64 (a.2.2.1:Int))],
    getH [(0,.dead),(5000,.arr 82 3 (a.1.map Pair.row)),(1011,.var 44 [.str [],.nils]),(1017,.var 44 [.str inn,.own 1060 a.2.2.1]),(1060,.arr 89 2 ((s.parts++mkParts ((pieces inn).drop s.parts.length) a.2.1).map Part.row))]⟩) (fun a=>(pieces inn).length - a.2.2.1)
    (fun a=>PutI m s inn true a.1 a.2.1 a.2.2.1 a.2.2.2) (m,[],s.parts.length,doneP s.parts) ?_ h0 ?_
  · refine leN' [(5000,0)] (by simp only [go_sem];first|done|rfl) ?_ (by simp [liveN,getN,live_arr,live_var,live_dead]) (by simp only [go_sem])
    simp only [go_sem];simp [mkParts_nil]
  intro ⟨mm,ts,i,d⟩ hI
  simp only at hI
  simp only [go_sem]
  have hi:=hI.hi
  by_cases h:(i:Int)<(pieces inn).length
  · obtain ⟨hst1,hst2⟩:=hI.step (by omega)
    have hml2:=mkParts_len2 ((pieces inn).drop s.parts.length) ts (by have:=hI.ht;rw [List.length_drop];omega)
    have hml3:(s.parts++mkParts ((pieces inn).drop s.parts.length) ts).length=i:=by rw [List.length_append,hml2];exact hI.ht
    have hma:=mkParts_app ((pieces inn).drop s.parts.length) ts (pieceOut mm ((pieces inn).getD i default) ((inn.drop d).take ((pieces inn).getD i default).size)).2 (by have:=hI.ht;rw [List.length_drop];omega)
    have hgq:((pieces inn).drop s.parts.length).getD ts.length default=(pieces inn).getD i default:=by
      simp only [List.getD_eq_getElem?_getD,List.getElem?_drop,hI.ht]
    rw [hgq] at hma
    have hht:=hI.ht
    simp only [turn,cond_true] at hst2
    have hmml:=hI.ml
    obtain ⟨q,hq⟩:∃ q,(pieces inn).getD i default=q:=⟨_,rfl⟩
    rw [hq] at hst1 hst2 hma
    simp only [eq_true h,go_sem]
    refine effG (by omega) ?_
    simp only [go_sem,hq]
    with_reducible repeat' (first|rw [i64w (by omega)];try simp only [go_sem,hq]|refine br ?_ ?_<;>intro h e<;>(try simp only [e,go_sem,hq])<;>clear e|refine sd ?_<;>try simp only [go_sem,hq]|fail)
    rw [drop_take_i]
    refine callU (c125 mm q.size q.named q.e.a q.e.p ((inn.drop d).take q.size) hI.hp (by omega)) [5000] [] 89 1 (by simp only [go_sem];first|done|simp) (by simp only [go_sem];first|done|simp) (by simp) (by simp) (by rintro _ _ ⟨rfl,rfl⟩;simp) (by intro i hi;obtain rfl:i=0:=(by omega);simp only [go_sem]) ?_
    rintro _ _ ⟨rfl,rfl⟩
    simp only [go_sem,hq]
    with_reducible repeat' (first|rw [i64w (by omega)];try simp only [go_sem,hq]|refine br ?_ ?_<;>intro h e<;>(try simp only [e,go_sem,hq])<;>clear e|refine sd ?_<;>try simp only [go_sem,hq]|fail)
    refine ⟨((pieceOut mm q ((inn.drop d).take q.size)).1,ts++[(pieceOut mm q ((inn.drop d).take q.size)).2],i+1,d+q.size),by simp only;omega,hst2,leN [(5000,108900),(1060,1109)] ?_ ?_ (by simp [getN]) (by simp only [go_sem])⟩
    · simp only [go_sem];simp
    · simp only [go_sem,hma];simp [Part.row]
  · simp only [eq_false h,go_sem]
    have:i=(pieces inn).length:=by omega
    subst this
    with_reducible repeat' (first|refine br ?_ ?_<;>intro h e<;>(try simp only [e,go_sem])<;>clear e|rw [i64w (by omega)]|refine sd ?_<;>try simp only [go_sem]|fail)
    have hfin:=hfin mm ts d hI
    refine retN (.tup [.own 1 mm.length,.agg [.str inn,.sl 2 ((s.parts++mkParts ((pieces inn).drop s.parts.length) ts).map Part.row)],.bool true]) [.dead,.arr 82 3 (mm.map Pair.row)] [(1,5000)] ?_ (.inr ⟨by rw [hfin],by rw [hfin],by rw [hfin]⟩) ?_ (by simp [argH,getN]) (by simp only [go_sem])
    · simp only [go_sem]
      have:=hI.ht
      have:=mkParts_len2 ((pieces inn).drop s.parts.length) ts (by rw [List.length_drop];omega)
      first|done|(simp;omega)
    · simp only [go_sem]
def ic96:IC:=sR [oP 3 (.box 44 (.t 0)),oP 4 (.box 44 (.t 1)),oP 5 (.box 30 (.t 2)),oP 6 (.alloc 30 [i0,i0,i0,i0,i0,i0,s0]),oP 7 (.mv (.c (.bool false)))] (sR [lA 10 2 4,fD 11 5 5,lD 12 1 11,oP 13 (.call 127 [.t 10,.t 12]),mV 8 13] (sR [lA 14 2 4,fD 15 5 5,lD 16 1 15,fD 17 6 5,lD 18 1 17,oP 19 (.lens (.t 18)),bN 20 .add 16 19,fD 21 0 4,lD 22 1 21,oP 23 (.lens (.t 22)),oP 24 (.mn (.t 20) (.t 23)),oP 25 (.call 127 [.t 14,.t 24]),mV 9 25] (.seq (sR [fD 26 0 4,lD 27 1 26,oP 28 (.lens (.t 27)),fD 29 0 3,lD 30 1 29,oP 31 (.lens (.t 30)),bN 32 .gtr 28 31] (.cond (.t 32) (.reg [lA 33 2 4,oP 34 (.call 93 [.t 33]),oP 35 (.lens (.t 34)),mV 9 35]) .skip)) (.seq (sR [mV 36 8,mV 37 9,bN 38 .geq 36 37] (.cond (.t 38) (sR [oP 39 (.build [i0,i0,i0,i0,i0,i0,s0] []),nP (.sto 7 (.t 6) (.t 39)),oP 7 (.mv (.c (.bool false)))] .ret) .skip)) (sR [mV 40 8,fD 41 5 5,nP (.sto 1 (.t 41) (.t 40))] (sR [lA 42 2 4,oP 43 (.call 93 [.t 42]),mV 44 8,mV 45 9,oP 46 (.sls (.t 43) (some (.t 44)) (some (.t 45))),fD 47 6 5,nP (.sto 1 (.t 47) (.t 46))] (.seq (.drw [0,0,2,6,14,1,63] [(0,lA 48 7 5),(1,fD 49 6 5),(2,lD 50 1 49),(3,oP 51 (.lens (.t 50))),(4,oP 52 (.bin .leq (.t 51) (.c (.int .i64 40)))),(5,nP (.sto 7 (.t 6) (.t 48))),(6,mV 7 52)]) .ret)))))))
theorem dg96:Dg Tryz.prog 96 Tryz.f96 ic96 [(.cell 6 7 true),(.t 7)]:=⟨Tryz.func96,by kernel_rfl,by kernel_rfl⟩
theorem c96 (was is:Strm) (p:Pk) (h:StrB is) (hw:was.inn.length≤2000000) (hp : -10000≤p.at_∧p.at_≤9000) (ht:p.text.length≤1000) :
    FnR Tryz.prog G 96 [.agg [.str was.inn,.sl 2 (was.parts.map Part.row)],.agg [.str is.inn,.sl 2 (is.parts.map Part.row)],.agg [.int .i64 p.kind,.int .i64 p.frm.a,.int .i64 p.frm.p,.int .i64 p.to.a,.int .i64 p.to.p,.int .i64 p.at_,.str p.text]]
      (.tup [.agg (Pk.row (sendR was is p).1),.bool (sendR was is p).2]):=by
  refine mF dg96 Tryz.ntmps96 ?_
  have hso:=sOut_len h
  have h1:=forP_le (l:=is.parts) p.at_
  have h2:=toR_le was is p
  have hil:=h.1
  have f1:=c127 is p.at_ h (by omega)
  have f2:=c127 is (min (p.at_+p.text.length) is.inn.length) h (by omega)
  have f3:=c93 is h
  have e1:∀ a b,forP is.parts p.at_=a→toR was is p=b→sendR was is p=if a≥b then (.zero,false)
      else ({ p with at_:=a,text:=((sOut is).take b.toNat).drop a.toNat },decide ((((sOut is).take b.toNat).drop a.toNat).length≤40)):=fun a b ha hb=>by subst ha;subst hb;rfl
  simp only [ic96,go_sem]
  generalize hfr:forP is.parts p.at_=fr at *
  by_cases hl:was.inn.length<is.inn.length
  · have hto:toR was is p=(sOut is).length:=by simp [toR,hl]
    have e1:=e1 _ _ rfl hto
    rw [hto] at h2
    generalize hfr2:forP is.parts (min (p.at_+p.text.length) is.inn.length)=fr2 at *
    with_reducible repeat' (first|refine br ?_ ?_<;>intro h e<;>(try simp only [e,go_sem])<;>clear e|rw [i64w (by omega)]|refine sd ?_<;>try simp only [go_sem]|(first|refine cr (f1 ..) ?_|refine cr (f2 ..) ?_|refine cr (f3 ..) ?_)<;>try simp only [go_sem]|fail)
    all_goals first
      | (exfalso;omega)
      | (rw [e1,if_pos (by omega)];simp [Pk.zero,E.zero];done)
      | (rw [e1,if_neg (by omega)];simp;done)
      | (rw [e1,if_neg (by omega)];simp;omega)
  · have hto:toR was is p=forP is.parts (min (p.at_+p.text.length) is.inn.length):=by simp [toR,hl]
    have e1:=e1 _ _ rfl hto
    rw [hto] at h2
    generalize hfr2:forP is.parts (min (p.at_+p.text.length) is.inn.length)=fr2 at *
    with_reducible repeat' (first|refine br ?_ ?_<;>intro h e<;>(try simp only [e,go_sem])<;>clear e|rw [i64w (by omega)]|refine sd ?_<;>try simp only [go_sem]|(first|refine cr (f1 ..) ?_|refine cr (f2 ..) ?_|refine cr (f3 ..) ?_)<;>try simp only [go_sem]|fail)
    all_goals first
      | (exfalso;omega)
      | (rw [e1,if_pos (by omega)];simp [Pk.zero,E.zero];done)
      | (rw [e1,if_neg (by omega)];simp;done)
      | (rw [e1,if_neg (by omega)];simp;omega)
def z0A (c:Nat):Hs→V
  | .arr _ sz _=>.sl sz []
  | _=>.own c 0
theorem z0V_own (h:Nat→Hs) (c:Nat):z0V h (.own c 0)=z0A c (h c):=by cases hh:h c<;>simp [z0V,z0A,hh]
theorem z0A_arr (c ty sz:Nat) (rows:List (List V)):z0A c (.arr ty sz rows)=.sl sz []:=of_eq_true (eq_self _)
theorem z0V_int (h:Nat→Hs) (k n):z0V h (.int k n)=.int k n:=of_eq_true (eq_self _)
theorem z0V_str (h:Nat→Hs) (s):z0V h (.str s)=.str s:=of_eq_true (eq_self _)
theorem z0N_own (c:Nat):z0N (.own c 0)=[c]:=of_eq_true (eq_self _)
theorem z0N_int (k n):z0N (.int k n)=[]:=of_eq_true (eq_self _)
theorem z0N_str (s):z0N (.str s)=[]:=of_eq_true (eq_self _)
theorem ixI_some {o:Option Nat} (h:0≤ixI o):∃ k,o=some k:=by
  cases o with
  | none=>simp [ixI] at h
  | some k=>exact ⟨k,rfl⟩
theorem ixI_none {o:Option Nat} (h:ixI o<0):o=none:=ixI_lt.1 h
def openA (d:Door) (i o:E) (r:V) (out:List Hs):Prop :=
  r=.tup [.agg [.own 0 (openR d i o).1.map.length,.own 1 (openR d i o).1.flows.length],.int .i64 (openR d i o).2.1,.bool (openR d i o).2.2]∧out=[.arr 82 3 ((openR d i o).1.map.map Pair.row),.arr 46 8 ((openR d i o).1.flows.map Flw.row)]
def ic91:IC:=sR [oP 3 (.box 26 (.t 0)),oP 4 (.box 28 (.t 1)),oP 5 (.box 28 (.t 2)),oP 6 (.alloc 26 [.nils,.nils]),oP 7 (.mv (.c i0)),oP 8 (.mv (.c (.bool false)))] (sR [fD 13 1 3,lD 14 1 13,lA 15 2 4,lA 16 2 5,oP 17 (.call 66 [.t 14,.t 15,.t 16]),mV 9 17] (.seq (sR [mV 18 9,oP 19 (.bin .geq (.t 18) (.c i0))] (.cond (.t 19) (sR [lA 20 2 3,mV 21 9,nP (.sto 2 (.t 6) (.t 20)),mV 7 21,oP 8 (.mv (.c (.bool true)))] .ret) .skip)) (sR [fD 23 0 3,lD 24 1 23,lA 25 2 4,oP 26 (.call 92 [.t 24,.t 25]),mV 22 26,eX 27 22 0,eX 28 22 1,eX 29 22 2,mV 10 27,mV 11 28,mV 12 29] (.seq (sR [mV 30 12,oP 31 (.un .not (.t 30)),mV 32 31,⟨some 33,some (32,false),.fad 1 (.t 3)⟩,⟨some 34,some (32,false),.ld 1 false (.t 33)⟩,⟨some 35,some (32,false),.len (.t 34)⟩,⟨some 36,some (32,false),.bin .geq (.t 35) (.c (.int .i64 4))⟩,oP 37 (.pick (.t 32) (.c (.bool true)) (.t 36))] (.cond (.t 37) (sR [lA 38 2 3,nP (.sto 2 (.t 6) (.t 38)),oP 7 (.mv (.c i0)),oP 8 (.mv (.c (.bool false)))] .ret) .skip)) (sR [mV 39 10,fD 40 0 3,nP (.sto 1 (.t 40) (.t 39))] (sR [fD 41 1 3,lD 42 1 41,lA 43 2 4,lA 44 2 5,oP 45 (.bsl 89 2 []),oP 46 (.build [s0,.nils] [(1,(1,.t 45))]),oP 47 (.bsl 89 2 []),oP 48 (.build [s0,.nils] [(1,(1,.t 47))]),oP 49 (.build [i0,i0,i0,i0,s0,.nils,s0,.nils] [(0,(2,.t 43)),(2,(2,.t 44)),(4,(2,.t 46)),(6,(2,.t 48))]),oP 50 (.bsl 46 8 [.t 49]),oP 51 (.app 46 8 (.t 42) (.t 50)),fD 52 1 3,nP (.sto 1 (.t 52) (.t 51))] (.seq (.drw [0,0,2,6,14,1,63,127] [(0,lA 53 2 3),(1,fD 54 1 3),(2,lD 55 1 54),(3,oP 56 (.len (.t 55))),(4,oP 57 (.bin .sub (.t 56) (.c (.int .i64 1)))),(5,nP (.sto 2 (.t 6) (.t 53))),(6,mV 7 57),(7,oP 8 (.mv (.c (.bool true))))]) .ret)))))))
theorem dg91:Dg Tryz.prog 91 Tryz.f91 ic91 [(.cell 6 2 true),(.t 7),(.t 8)]:=⟨Tryz.func91,by kernel_rfl,by kernel_rfl⟩
theorem c91 (d:Door) (i o:E) (hm:mapOk d.map=true) (hf:d.flows.length≤3):FnP Tryz.prog G 91 0 [.arr 82 3 (d.map.map Pair.row),.arr 46 8 (d.flows.map Flw.row)]
    [.agg [.own 0 d.map.length,.own 1 d.flows.length],.agg [.int .i64 i.a,.int .i64 i.p],.agg [.int .i64 o.a,.int .i64 o.p]] (openA d i o):=by
  refine mP dg91 Tryz.ntmps91 ⟨_,_,rfl,rfl⟩ ?_
  obtain ⟨hp,hml⟩:=mapOk_ports hm
  have keep:∀ l mm k ok,openR d i o=(d,k,ok)→getL l 6=.pv 1006 0→getL l 7=.int .i64 (k:Nat)→getL l 8=.bool ok→getH mm 1006=.var 26 [.own 0 d.map.length,.own 1 d.flows.length]→getH mm 0=.arr 82 3 (d.map.map Pair.row)→getH mm 1=.arr 46 8 (d.flows.map Flw.row) →
      retQ [.cell 6 2 true,.t 7,.t 8] 0 (openA d i o) .ret ⟨getL l,getH mm⟩:=fun l mm k ok h1 h2 h3 h4 h5 h6 h7=>by
    refine retN (.tup [.agg [.own 0 d.map.length,.own 1 d.flows.length],.int .i64 (k:Nat),.bool ok]) [.arr 82 3 (d.map.map Pair.row),.arr 46 8 (d.flows.map Flw.row)] [] ?_ ⟨by rw [h1],by rw [h1]⟩ ?_ (by simp [argH,getN]) (by simp only [go_sem])
    · simp only [go_sem,h2,h3,h4,h5]
    · simp only [go_sem,h6,h7]
  simp only [ic91,go_sem]
  refine callF (c66 d.flows i o (by omega)) [1] false (by simp only [go_sem];first|done|simp [E.row,Pc.row,Pair.row,Part.row,Flw.row,Pk.row,Conv.row]) (by simp only [List.mem_singleton];rintro c rfl;rfl) rfl (.inr rfl) ?_
  simp only [go_sem]
  with_reducible repeat' (first|refine br ?_ ?_<;>intro h e<;>(try simp only [e,go_sem])<;>clear e|rw [i64w (by omega)]|refine sd ?_<;>try simp only [go_sem]|fail)
  · obtain ⟨k,hk⟩:=ixI_some h
    rw [hk]
    exact keep _ _ k true (openF_has hk) (by simp only [go_sem]) (by simp only [go_sem];rfl) (by simp only [go_sem]) (by simp only [go_sem]) (by simp only [go_sem]) (by simp only [go_sem])
  have hno:=ixI_none (by omega:ixI (flowIx d.flows i o)<0)
  refine callN (c92 d.map i.a i.p hp (by omega)) [0] [] true 26 2 (by simp only [go_sem];first|done|simp) (by simp only [go_sem];first|done|simp) (by simp) (by simp) (by simp) ?_ ?_ ?_
  · rintro res out (⟨_,rfl,rfl⟩|⟨rfl,rfl,_⟩)
    · exact ⟨by simp,by simp,.inl rfl,fun i hi=>by obtain rfl:i=0:=(by omega);simp [chH,stepOk]⟩
    · exact ⟨by simp,by simp,.inl rfl,fun i hi=>by obtain rfl:i=0:=(by omega);simp [chH,stepOk]⟩
  · intro i hi
    have:i=0∨i=1:=by omega
    rcases this with rfl|rfl<;>simp only [go_sem]
  · rintro res out (⟨h1,rfl,rfl⟩|⟨rfl,rfl,h3,_⟩)
    · simp only [go_sem]
      cases hok:(mOut d.map i).2.2<;>simp only [go_sem]
      · with_reducible repeat' (first|refine br ?_ ?_<;>intro h e<;>(try simp only [e,go_sem])<;>clear e|rw [i64w (by omega)]|refine sd ?_<;>try simp only [go_sem]|fail)
        exact keep _ _ 0 false (openF_no hno hok) (by simp only [go_sem]) (by simp only [go_sem];first|done|rfl) (by simp only [go_sem]) (by simp only [go_sem]) (by simp only [go_sem]) (by simp only [go_sem])
      · have hn:=openF_new hno hok (by omega)
        with_reducible repeat' (first|refine br ?_ ?_<;>intro h e<;>(try simp only [e,go_sem])<;>clear e|rw [i64w (by omega)]|refine sd ?_<;>try simp only [go_sem]|fail)
        · omega
        simp only [Bool.true_and,Bool.false_and,z0V_own,z0A_arr,z0V_int,z0V_str,z0N_own,z0N_int,z0N_str,List.flatMap_cons,List.flatMap_nil,go_sem]
        with_reducible repeat' (first|refine br ?_ ?_<;>intro h e<;>(try simp only [e,go_sem])<;>clear e|rw [i64w (by omega)]|refine sd ?_<;>try simp only [go_sem]|fail)
        refine retN (.tup [.agg [.own 0 d.map.length,.own 1 (d.flows.length+1)],.int .i64 (d.flows.length:Nat),.bool true]) [.arr 82 3 (d.map.map Pair.row),.arr 46 8 ((d.flows++[Flw.mk i o .zero .zero]).map Flw.row)] [(1,1051)] ?_ ⟨by rw [hn,h1];simp,by rw [hn,h1]⟩ ?_ (by simp [argH,getN]) (by simp only [go_sem])
        · simp only [go_sem];first|done|omega
        · simp only [go_sem];simp [Flw.row,Strm.zero]
    · have hn:=openF_new hno h3 (by omega)
      simp only [go_sem,h3]
      with_reducible repeat' (first|refine br ?_ ?_<;>intro h e<;>(try simp only [e,go_sem])<;>clear e|rw [i64w (by omega)]|refine sd ?_<;>try simp only [go_sem]|fail)
      · omega
      simp only [Bool.true_and,Bool.false_and,z0V_own,z0A_arr,z0V_int,z0V_str,z0N_own,z0N_int,z0N_str,List.flatMap_cons,List.flatMap_nil,go_sem]
      with_reducible repeat' (first|refine br ?_ ?_<;>intro h e<;>(try simp only [e,go_sem])<;>clear e|rw [i64w (by omega)]|refine sd ?_<;>try simp only [go_sem]|fail)
      refine retN (.tup [.agg [.own 0 (mOut d.map i).1.length,.own 1 (d.flows.length+1)],.int .i64 (d.flows.length:Nat),.bool true]) [.arr 82 3 ((mOut d.map i).1.map Pair.row),.arr 46 8 ((d.flows++[Flw.mk i o .zero .zero]).map Flw.row)] [(0,102601),(1,1051)] ?_ ⟨by rw [hn];simp,by rw [hn]⟩ ?_ (by simp [argH,getN]) (by simp only [go_sem])
      · simp only [go_sem];first|done|omega
      · simp only [go_sem];simp [Flw.row,Strm.zero]
theorem bits10_ok:∀ x∈bits10,x.all okB=true:=by decide
theorem x116 (code:B) (p m:Int) (hc:code.length≤2000) (hp:0≤p∧p≤800000000) (hm:0≤m∧m≤40):FnP Tryz.prog G 116 1 [rdH code p] [.pv 0 0,.int .i64 m] (rdQ code p 31 fun r=>∃ s:B,(s.length:Int)≤m∧s.all okB=true∧r=.str s):=by
  refine mP dg116 Tryz.ntmps116 ⟨_,_,p,by omega,by omega,rfl,[],by simp;omega,rfl,rfl⟩ ?_
  simp only [ic116,go_sem,rdH]
  refine pkN code p 7 9 hc fun k k1 k2=>?_
  simp only [go_sem,rdH]
  have k2:=k2 (by omega)
  refine loopN (fun a:B × Int × Int=>⟨getL [(0,.pv 0 0),(1,.int .i64 m),(5,.str a.1),(6,.int .i64 a.2.1)],getH [(0,.var 99 [.sl 1 (code.map byR),.int .i64 a.2.2])]⟩) (fun a=>a.2.1.toNat) (fun a=>(0≤a.2.1∧a.2.1≤6)∧(p≤a.2.2∧a.2.2≤p+1+5 * (6 - a.2.1))∧(a.1.length:Int)≤m∧a.1.all okB=true) ([],k,p+1) (leQ []) (by simp;omega) ?_
  intro ⟨s,n,q⟩ ⟨h1,h2,h3,h4⟩
  simp only at h1 h2 h3 h4
  simp only [go_sem]
  with_reducible repeat' (first|rw [i64w (by omega)];try simp only [go_sem]|refine br ?_ ?_<;>intro h e<;>(try simp only [e,go_sem])<;>clear e|refine sd ?_<;>try simp only [go_sem]|fail)
  · refine callN (c117 code q bits10 hc (by omega) (by decide)) [0] [1015] true 16 1 (by simp only [go_sem,rdH,bits10,List.mem_singleton];first|done|simp) (by simp only [go_sem,rdH];first|done|simp) (by simp) (by simp) (by simp only [List.mem_singleton];rintro c rfl;exact ⟨rfl,by simp⟩) ?_ ?_ ?_
    · rintro _ _ ⟨q',_,_,rfl,_⟩
      exact ⟨by simp,by simp,.inl rfl,fun i hi=>by obtain rfl:i=0:=(by omega);simp [chH,stepOk,rdH]⟩
    · intro i hi;obtain rfl:i=0:=(by omega);simp only [go_sem]
    rintro _ _ ⟨q',q1,q2,rfl,x,hx,rfl⟩
    have hxl:=bits10_le x hx
    have hxo:=bits10_ok x hx
    simp only [go_sem,rdH]
    refine pkN code q' 5 18 hc fun j j1 j2=>?_
    simp only [go_sem,rdH]
    with_reducible repeat' (first|rw [i64w (by omega)];try simp only [go_sem]|refine br ?_ ?_<;>intro h e<;>(try simp only [e,go_sem])<;>clear e|refine sd ?_<;>try simp only [go_sem]|fail)
    · refine callN (c115 code (q'+1) hc (by omega)) [0] [] true 21 1 (by simp only [go_sem,rdH];first|done|simp) (by simp only [go_sem,rdH];first|done|simp) (by simp) (by simp) (by simp) ?_ ?_ ?_
      · rintro _ _ ⟨q',_,_,rfl,_⟩
        exact ⟨by simp,by simp,.inl rfl,fun i hi=>by obtain rfl:i=0:=(by omega);simp [chH,stepOk,rdH]⟩
      · intro i hi;obtain rfl:i=0:=(by omega);simp only [go_sem]
      rintro _ _ ⟨q3,q4,q5,rfl,e,he1,he2,rfl⟩
      have hte:=text_le (e:=e)
      simp only [go_sem,rdH]
      refine callR (c134 e.a e.p) rfl rfl ?_
      simp only [go_sem]
      clear hx hxl hxo
      have hto:=text_ok (e:=e)
      generalize e.text=w at *
      refine pureG (by omega) ?_
      simp only [go_sem]
      have hwl:(w++[59]).length=w.length+1:=by simp
      with_reducible repeat' (first|rw [i64w (by omega)];try simp only [go_sem,hwl]|refine br ?_ ?_<;>intro h e<;>(try simp only [e,go_sem,hwl])<;>clear e|refine sd ?_<;>try simp only [go_sem,hwl]|fail)
      · exact ⟨(s++64 :: (w++[59]),n - 1,q3),by simp only;omega,⟨by simp only;omega,by simp only;omega,by simp only [List.length_append,List.length_cons,List.length_nil];omega,by simp only [List.all_append,List.all_cons,h4,hto,List.all_nil];decide⟩,(leQ [])⟩
      · exact ⟨(s,n - 1,q3),by simp only;omega,⟨by simp only;omega,by simp only;omega,h3,h4⟩,(leQ [])⟩
    · exact ⟨(s++x,n - 1,q'+1),by simp only;omega,⟨by simp only;omega,by simp only;omega,by simp;omega,by simp only [List.all_append,h4,hxo,Bool.and_self]⟩,(leQ [])⟩
    · exact ⟨(s,n - 1,q'+1),by simp only;omega,⟨by simp only;omega,by simp only;omega,h3,h4⟩,(leQ [])⟩
  · exact retN (.str s) [rdH code q] [] (by simp only [go_sem]) ⟨q,by omega,by omega,rfl,s,h3,h4,rfl⟩ (by simp only [go_sem,rdH]) (by simp [argH,getN,rdH]) (by simp only [go_sem,rdH])
def putOF (m:List Pair) (s:Strm) (n:Int) (t:B) (r:V) (o:List Hs):Prop :=
  r=.tup [.own 0 m.length,.agg [.str (put m s n t false).2.1.inn,.own 1 (put m s n t false).2.1.parts.length],.bool true]∧o=[.arr 82 3 (m.map Pair.row),.arr 89 2 ((put m s n t false).2.1.parts.map Part.row)]
def putOT (m:List Pair) (s:Strm) (n:Int) (t:B) (r:V) (o:List Hs):Prop :=
  r=.tup [.own 1 (put m s n t true).1.length,.agg [.str (put m s n t true).2.1.inn,.own 2 (put m s n t true).2.1.parts.length],.bool true]∧o=[.dead,.arr 82 3 ((put m s n t true).1.map Pair.row),.arr 89 2 ((put m s n t true).2.1.parts.map Part.row)]
theorem x95F (m:List Pair) (s:Strm) (n:Int) (t:B) (h:PutOk m s n t) (hg:n≤s.inn.length∧n+t.length≤40∧(s.inn.length:Int)<n+t.length):FnP Tryz.prog G 95 1 [.arr 82 3 (m.map Pair.row)] [.own 0 m.length,.agg [.str s.inn,.sl 2 (s.parts.map Part.row)],.int .i64 n,.str t,.bool false] (putOF m s n t):=by
  refine mP dg95 Tryz.ntmps95 ⟨_,_,rfl,rfl⟩ ?_
  obtain ⟨hm,hs,hn,ht⟩:=h
  obtain ⟨hp,hml⟩:=mapOk_ports hm
  obtain ⟨s1,s2,s3⟩:=strmOk_B hs
  simp only [ic95,go_sem]
  with_reducible repeat' (first|rw [i64w (by omega)];try simp only [go_sem]|refine br ?_ ?_<;>intro h e<;>(try simp only [e,go_sem])<;>clear e|refine sd ?_<;>try simp only [go_sem]|fail)
  · omega
  · omega
  · omega
  have hb:behind s.inn n t=(s.inn++t.drop (s.inn.length - n).toNat,true):=by
    unfold behind;rw [if_neg (by simp;omega),if_neg (by omega)]
  have hbp:(behind s.inn n t).2=true:=by rw [hb]
  have hfin:∀ mm ts d,PutI m s (behind s.inn n t).1 false mm ts (pieces (behind s.inn n t).1).length d→_:=fun mm ts d h=>put_done hbp h
  have h0:=PutI.init (x:=t.drop (s.inn.length - n).toNat) (out:=false) hp hs
  rw [hb] at hfin
  refine pureG (by simp;omega) ?_
  simp only [List.take_length,go_sem]
  generalize hin:s.inn++t.drop (s.inn.length - n).toNat=inn at *
  have hil:inn.length≤80:=by rw [← hin];simp;omega
  have hpl:=pieces_len inn
  with_reducible repeat' (first|rw [i64w (by omega)];try simp only [go_sem]|refine br ?_ ?_<;>intro h e<;>(try simp only [e,go_sem])<;>clear e|refine sd ?_<;>try simp only [go_sem]|fail)
  refine callR (c123 s ⟨s1,s2,s3⟩) rfl rfl ?_
  simp only [go_sem]
  with_reducible repeat' (first|rw [i64w (by omega)];try simp only [go_sem]|refine br ?_ ?_<;>intro h e<;>(try simp only [e,go_sem])<;>clear e|refine sd ?_<;>try simp only [go_sem]|(first|refine cr (c124 ..) ?_)<;>try simp only [go_sem]|fail)
  refine loopN (fun a:List B × Nat × Nat=>⟨getL [(0,.own 0 m.length),(4,.bool false),(11,.pv 1011 0),(14,.str inn),(15,.int .i64 (a.2.2:Int)),(16,.sl 4 ((pieces inn).map Pc.row)),(17,.pv 1017 0),(18,.int .i64 (a.2.1:Int))],
    getH [(0,.arr 82 3 (m.map Pair.row)),(1011,.var 44 [.str [],.nils]),(1017,.var 44 [.str inn,.own 1060 a.2.1]),(1060,.arr 89 2 ((s.parts++mkParts ((pieces inn).drop s.parts.length) a.1).map Part.row))]⟩) (fun a=>(pieces inn).length - a.2.1)
    (fun a=>PutI m s inn false m a.1 a.2.1 a.2.2) ([],s.parts.length,doneP s.parts) ?_ h0 ?_
  · refine leN [] (by simp only [go_sem];first|done|rfl) ?_ (by simp [getN]) (by simp only [go_sem])
    simp only [go_sem];simp [mkParts_nil]
  intro ⟨ts,i,d⟩ hI
  simp only at hI
  simp only [go_sem]
  have hi:=hI.hi
  by_cases h:(i:Int)<(pieces inn).length
  · obtain ⟨hst1,hst2⟩:=hI.step (by omega)
    have hml2:=mkParts_len2 ((pieces inn).drop s.parts.length) ts (by have:=hI.ht;rw [List.length_drop];omega)
    have hml3:(s.parts++mkParts ((pieces inn).drop s.parts.length) ts).length=i:=by rw [List.length_append,hml2];exact hI.ht
    have hma:=mkParts_app ((pieces inn).drop s.parts.length) ts (pieceIn m ((pieces inn).getD i default) ((inn.drop d).take ((pieces inn).getD i default).size)) (by have:=hI.ht;rw [List.length_drop];omega)
    have hgq:((pieces inn).drop s.parts.length).getD ts.length default=(pieces inn).getD i default:=by
      simp only [List.getD_eq_getElem?_getD,List.getElem?_drop,hI.ht]
    rw [hgq] at hma
    have hht:=hI.ht
    simp only [turn,cond_false] at hst2
    obtain ⟨q,hq⟩:∃ q,(pieces inn).getD i default=q:=⟨_,rfl⟩
    rw [hq] at hst1 hst2 hma
    simp only [eq_true h,go_sem]
    refine effG (by omega) ?_
    simp only [go_sem,hq]
    with_reducible repeat' (first|rw [i64w (by omega)];try simp only [go_sem,hq]|refine br ?_ ?_<;>intro h e<;>(try simp only [e,go_sem,hq])<;>clear e|refine sd ?_<;>try simp only [go_sem,hq]|fail)
    rw [drop_take_i]
    refine callF (c126 m q.size q.named q.e.a q.e.p ((inn.drop d).take q.size) hm) [0] false (by simp only [go_sem];first|done|simp [E.row,Pc.row,Pair.row,Part.row,Flw.row,Pk.row,Conv.row]) (by simp only [List.mem_singleton];rintro c rfl;rfl) rfl (.inr rfl) ?_
    simp only [go_sem,hq]
    with_reducible repeat' (first|rw [i64w (by omega)];try simp only [go_sem,hq]|refine br ?_ ?_<;>intro h e<;>(try simp only [e,go_sem,hq])<;>clear e|refine sd ?_<;>try simp only [go_sem,hq]|fail)
    refine ⟨(ts++[pieceIn m q ((inn.drop d).take q.size)],i+1,d+q.size),by simp only;omega,hst2,leN [(1060,1109)] ?_ ?_ (by simp [getN]) (by simp only [go_sem])⟩
    · simp only [go_sem];simp
    · simp only [go_sem,hma];simp [Part.row]
  · simp only [eq_false h,go_sem]
    have:i=(pieces inn).length:=by omega
    subst this
    with_reducible repeat' (first|refine br ?_ ?_<;>intro h e<;>(try simp only [e,go_sem])<;>clear e|rw [i64w (by omega)]|refine sd ?_<;>try simp only [go_sem]|fail)
    have hfin:=hfin m ts d hI
    refine retN (.tup [.own 0 m.length,.agg [.str inn,.own 1 (s.parts++mkParts ((pieces inn).drop s.parts.length) ts).length],.bool true]) [.arr 82 3 (m.map Pair.row),.arr 89 2 ((s.parts++mkParts ((pieces inn).drop s.parts.length) ts).map Part.row)] [(1,1060)] ?_ ⟨by rw [hfin],by rw [hfin]⟩ ?_ (by simp [argH,getN]) (by simp only [go_sem])
    · simp only [go_sem]
      have:=hI.ht
      have:=mkParts_len2 ((pieces inn).drop s.parts.length) ts (by rw [List.length_drop];omega)
      first|done|(simp;omega)
    · simp only [go_sem]
theorem x95T (m:List Pair) (s:Strm) (n:Int) (t:B) (h:PutOk m s n t) (hg:n≤s.inn.length∧n+t.length≤40∧(s.inn.length:Int)<n+t.length):FnP Tryz.prog G 95 1 [.arr 82 3 (m.map Pair.row)] [.own 0 m.length,.agg [.str s.inn,.sl 2 (s.parts.map Part.row)],.int .i64 n,.str t,.bool true] (putOT m s n t):=by
  refine mP dg95 Tryz.ntmps95 ⟨_,_,rfl,rfl⟩ ?_
  obtain ⟨hm,hs,hn,ht⟩:=h
  obtain ⟨hp,hml⟩:=mapOk_ports hm
  obtain ⟨s1,s2,s3⟩:=strmOk_B hs
  simp only [ic95,go_sem]
  with_reducible repeat' (first|rw [i64w (by omega)];try simp only [go_sem]|refine br ?_ ?_<;>intro h e<;>(try simp only [e,go_sem])<;>clear e|refine sd ?_<;>try simp only [go_sem]|fail)
  · omega
  · omega
  · omega
  have hb:behind s.inn n t=(s.inn++t.drop (s.inn.length - n).toNat,true):=by
    unfold behind;rw [if_neg (by simp;omega),if_neg (by omega)]
  have hbp:(behind s.inn n t).2=true:=by rw [hb]
  have hfin:∀ mm ts d,PutI m s (behind s.inn n t).1 true mm ts (pieces (behind s.inn n t).1).length d→_:=fun mm ts d h=>put_done hbp h
  have h0:=PutI.init (x:=t.drop (s.inn.length - n).toNat) (out:=true) hp hs
  rw [hb] at hfin
  refine pureG (by simp;omega) ?_
  simp only [List.take_length,go_sem]
  generalize hin:s.inn++t.drop (s.inn.length - n).toNat=inn at *
  have hil:inn.length≤80:=by rw [← hin];simp;omega
  have hpl:=pieces_len inn
  with_reducible repeat' (first|rw [i64w (by omega)];try simp only [go_sem]|refine br ?_ ?_<;>intro h e<;>(try simp only [e,go_sem])<;>clear e|refine sd ?_<;>try simp only [go_sem]|fail)
  refine callR (c123 s ⟨s1,s2,s3⟩) rfl rfl ?_
  simp only [go_sem]
  with_reducible repeat' (first|rw [i64w (by omega)];try simp only [go_sem]|refine br ?_ ?_<;>intro h e<;>(try simp only [e,go_sem])<;>clear e|refine sd ?_<;>try simp only [go_sem]|(first|refine cr (c124 ..) ?_)<;>try simp only [go_sem]|fail)
  refine loopN (fun a:List Pair × List B × Nat × Nat=>⟨getL [(0,.own 5000 a.1.length),(4,.bool true),(11,.pv 1011 0),(14,.str inn),(15,.int .i64 (a.2.2.2:Int)),(16,.sl 4 ((pieces inn).map Pc.row)),(17,.pv 1017 0),(18,.int .i64 (a.2.2.1:Int))],
    getH [(0,.dead),(5000,.arr 82 3 (a.1.map Pair.row)),(1011,.var 44 [.str [],.nils]),(1017,.var 44 [.str inn,.own 1060 a.2.2.1]),(1060,.arr 89 2 ((s.parts++mkParts ((pieces inn).drop s.parts.length) a.2.1).map Part.row))]⟩) (fun a=>(pieces inn).length - a.2.2.1)
    (fun a=>PutI m s inn true a.1 a.2.1 a.2.2.1 a.2.2.2) (m,[],s.parts.length,doneP s.parts) ?_ h0 ?_
  · refine leN' [(5000,0)] (by simp only [go_sem];first|done|rfl) ?_ (by simp [liveN,getN,live_arr,live_var,live_dead]) (by simp only [go_sem])
    simp only [go_sem];simp [mkParts_nil]
  intro ⟨mm,ts,i,d⟩ hI
  simp only at hI
  simp only [go_sem]
  have hi:=hI.hi
  by_cases h:(i:Int)<(pieces inn).length
  · obtain ⟨hst1,hst2⟩:=hI.step (by omega)
    have hml2:=mkParts_len2 ((pieces inn).drop s.parts.length) ts (by have:=hI.ht;rw [List.length_drop];omega)
    have hml3:(s.parts++mkParts ((pieces inn).drop s.parts.length) ts).length=i:=by rw [List.length_append,hml2];exact hI.ht
    have hma:=mkParts_app ((pieces inn).drop s.parts.length) ts (pieceOut mm ((pieces inn).getD i default) ((inn.drop d).take ((pieces inn).getD i default).size)).2 (by have:=hI.ht;rw [List.length_drop];omega)
    have hgq:((pieces inn).drop s.parts.length).getD ts.length default=(pieces inn).getD i default:=by
      simp only [List.getD_eq_getElem?_getD,List.getElem?_drop,hI.ht]
    rw [hgq] at hma
    have hht:=hI.ht
    simp only [turn,cond_true] at hst2
    have hmml:=hI.ml
    obtain ⟨q,hq⟩:∃ q,(pieces inn).getD i default=q:=⟨_,rfl⟩
    rw [hq] at hst1 hst2 hma
    simp only [eq_true h,go_sem]
    refine effG (by omega) ?_
    simp only [go_sem,hq]
    with_reducible repeat' (first|rw [i64w (by omega)];try simp only [go_sem,hq]|refine br ?_ ?_<;>intro h e<;>(try simp only [e,go_sem,hq])<;>clear e|refine sd ?_<;>try simp only [go_sem,hq]|fail)
    rw [drop_take_i]
    refine callU (c125 mm q.size q.named q.e.a q.e.p ((inn.drop d).take q.size) hI.hp (by omega)) [5000] [] 89 1 (by simp only [go_sem];first|done|simp) (by simp only [go_sem];first|done|simp) (by simp) (by simp) (by rintro _ _ ⟨rfl,rfl⟩;simp) (by intro i hi;obtain rfl:i=0:=(by omega);simp only [go_sem]) ?_
    rintro _ _ ⟨rfl,rfl⟩
    simp only [go_sem,hq]
    with_reducible repeat' (first|rw [i64w (by omega)];try simp only [go_sem,hq]|refine br ?_ ?_<;>intro h e<;>(try simp only [e,go_sem,hq])<;>clear e|refine sd ?_<;>try simp only [go_sem,hq]|fail)
    refine ⟨((pieceOut mm q ((inn.drop d).take q.size)).1,ts++[(pieceOut mm q ((inn.drop d).take q.size)).2],i+1,d+q.size),by simp only;omega,hst2,leN [(5000,108900),(1060,1109)] ?_ ?_ (by simp [getN]) (by simp only [go_sem])⟩
    · simp only [go_sem];simp
    · simp only [go_sem,hma];simp [Part.row]
  · simp only [eq_false h,go_sem]
    have:i=(pieces inn).length:=by omega
    subst this
    with_reducible repeat' (first|refine br ?_ ?_<;>intro h e<;>(try simp only [e,go_sem])<;>clear e|rw [i64w (by omega)]|refine sd ?_<;>try simp only [go_sem]|fail)
    have hfin:=hfin mm ts d hI
    refine retN (.tup [.own 1 mm.length,.agg [.str inn,.own 2 (s.parts++mkParts ((pieces inn).drop s.parts.length) ts).length],.bool true]) [.dead,.arr 82 3 (mm.map Pair.row),.arr 89 2 ((s.parts++mkParts ((pieces inn).drop s.parts.length) ts).map Part.row)] [(1,5000),(2,1060)] ?_ ⟨by rw [hfin],by rw [hfin]⟩ ?_ (by simp [argH,getN]) (by simp only [go_sem])
    · simp only [go_sem]
      have:=hI.ht
      have:=mkParts_len2 ((pieces inn).drop s.parts.length) ts (by rw [List.length_drop];omega)
      first|done|(simp;omega)
    · simp only [go_sem]
def srmQ (code:B) (p k:Int) (r:V) (o:List Hs):Prop:=∃ (p':Int) (m:List Pair) (s:Strm),(p≤p'∧p'≤p+k)∧(s.inn.length≤31∧s.parts.length≤40∧∀ x∈s.parts,x.text.length≤8)∧(sOut s).length≤50 ∧
  r=.tup [.own 1 m.length,.agg [.str s.inn,.sl 2 (s.parts.map Part.row)]]∧o=[rdH code p',.arr 82 3 (m.map Pair.row)]
structure StrI (m:List Pair) (s:Strm) (t:B):Prop where
  hm:mapOk m=true
  hs:strmOk s=true
  sm:SmS s
  le:s.inn.length≤t.length
  ht:t.length≤30
  ok:t.all okB=true
theorem StrI.step {m:List Pair} {s:Strm} {t u:B} (out:Bool) (h:StrI m s t) (h1:1≤u.length) (h2:s.inn.length+u.length≤t.length) (h3:u.all okB=true) :
    PutOk m s s.inn.length u∧StrI (put m s s.inn.length u out).1 (put m s s.inn.length u out).2.1 t∧(put m s s.inn.length u out).2.1.inn.length=s.inn.length+u.length:=by
  have ht:=h.ht
  have htx:txOk u=true:=by simp only [txOk,h3,Bool.true_and,decide_eq_true_eq];omega
  have hp:=put_ok (out:=out) h.hm h.hs htx (n:=s.inn.length) (by omega)
  have hb:behind s.inn s.inn.length u=(s.inn++u,true):=by
    unfold behind;rw [if_neg (by simp;omega),if_neg (by omega)];simp
  have hl:(put m s s.inn.length u out).2.1.inn.length=s.inn.length+u.length:=by
    unfold put;rw [if_pos (by rw [hb])];simp [hb]
  exact ⟨⟨h.hm,h.hs,by omega,by omega⟩,⟨hp.1,hp.2,put_sm h.hm h.sm,by omega,h.ht,h.ok⟩,hl⟩
theorem StrI.cut {m:List Pair} {s:Strm} {t:B} (h:StrI m s t):StrI m s (t.take s.inn.length) :=
  ⟨h.hm,h.hs,h.sm,by have:=h.le;simp;omega,by have:=h.ht;simp;omega,List.all_eq_true.2 fun x hx=>List.all_eq_true.1 h.ok x (List.mem_of_mem_take hx)⟩
theorem StrI.q {m:List Pair} {s:Strm} {t:B} (h:StrI m s t):(sOut s).length≤36:=by
  have:=sOut_65 h.sm h.hs
  have:=h.le
  have:=h.ht
  omega
theorem sOut_set {s:Strm} {p:Part} {l:List Part} (hs:s.parts=p :: l) (x:B) (hx:x.length≤8):(sOut ⟨s.inn,⟨p.size,x⟩ :: l⟩).length≤(sOut s).length+8:=by
  simp only [sOut,hs,List.flatMap_cons,List.length_append]
  omega
def marks3:List B:=[[120],[32],[64]]
def marks4:List B:=[[],[97,97,97,97,97,97,97,97],[64,49,58,49,59],[65]]
theorem marks3_le:∀ x∈marks3,x.length=1:=by decide
theorem marks4_le:∀ x∈marks4,x.length≤8:=by decide
def ic88:IC:=sR [oP 2 (.mv (.c .nils)),oP 3 (.alloc 44 [s0,.nils])] (sR [mV 9 0,oP 10 (.call 87 [.t 9]),mV 4 10] (.seq (sR [mV 11 4,oP 12 (.call 64 [.t 11]),oP 13 (.un .not (.t 12))] (.cond (.t 13) (.reg [oP 14 (.bsl 82 3 []),mV 4 14]) .skip)) (sR [oP 15 (.bsl 89 2 []),oP 16 (.build [s0,.nils] [(1,(1,.t 15))]),oP 5 (.alloc 44 [s0,.nils]),nP (.sto 2 (.t 5) (.t 16))] (sR [mV 17 0,oP 18 (.call 77 [.t 17,.c (.int .i64 2)]),oP 19 (.bin .eql (.t 18) (.c i0)),mV 6 19] (sR [mV 20 0,oP 21 (.call 116 [.t 20,.c (.int .i64 30)]),mV 7 21] (.seq (.block 0 (.loop (.seq (sR [fD 22 0 5,lD 23 1 22,oP 24 (.lens (.t 23)),mV 25 7,oP 26 (.lens (.t 25)),bN 27 .lss 24 26] (.cond (.t 27) .skip (.exit 0))) (.block 1 (sR [mV 28 0,oP 29 (.call 77 [.t 28,.c (.int .i64 8)]),oP 30 (.bin .add (.c (.int .i64 1)) (.t 29)),mV 8 30] (.seq (.drw [0,0,0,4,12,0,0,64,192,0,512,1536,0,7680,0,16384,65024,131040,0,524287,1048575,2097151,2097151,2097151,4194303,25165823] [(0,mV 32 4),(1,lA 33 2 5),(2,fD 34 0 5),(3,lD 35 1 34),(4,oP 36 (.lens (.t 35))),(5,mV 37 7),(6,fD 38 0 5),(7,lD 39 1 38),(8,oP 40 (.lens (.t 39))),(9,fD 41 0 5),(10,lD 42 1 41),(11,oP 43 (.lens (.t 42))),(12,mV 44 8),(13,bN 45 .add 43 44),(14,mV 46 7),(15,oP 47 (.lens (.t 46))),(16,oP 48 (.mn (.t 45) (.t 47))),(17,oP 49 (.sls (.t 37) (some (.t 40)) (some (.t 48)))),(18,mV 50 6),(19,oP 51 (.call 95 [.t 32,.t 33,.t 36,.t 49,.t 50])),(20,mV 31 51),(21,eX 52 31 0),(22,eX 53 31 1),(23,eX 54 31 2),(24,mV 4 52),(25,nP (.sto 2 (.t 5) (.t 53)))]) (sR [mV 55 0,oP 56 (.call 77 [.t 55,.c (.int .i64 6)]),oP 57 (.bin .eql (.t 56) (.c i0))] (.cond (.t 57) (.reg [mV 58 7,fD 59 0 5,lD 60 1 59,oP 61 (.lens (.t 60)),oP 62 (.sls (.t 58) none (some (.t 61))),mV 7 62]) .skip)))))))) (.seq (sR [mV 63 0,oP 64 (.call 77 [.t 63,.c (.int .i64 20)])] (.block 2 (sR [oP 66 (.bin .eql (.t 64) (.c i0)),mV 65 66] (.cond (.t 65) (.drw [0,1,0,0,12,31,63,127] [(0,fD 67 0 5),(1,lD 68 1 67),(2,mV 69 0),(3,oP 70 (.bsl 9 1 [.c (.str [120]),.c (.str [32]),.c (.str [64])])),(4,oP 71 (.call 117 [.t 69,.t 70])),(5,bN 72 .add 68 71),(6,fD 73 0 5),(7,nP (.sto 1 (.t 73) (.t 72)))]) (sR [oP 75 (.bin .eql (.t 64) (.c (.int .i64 1))),mV 74 75] (.cond (.t 74) (sR [fD 76 1 5,lD 77 1 76,oP 78 (.len (.t 77)),oP 79 (.bin .gtr (.t 78) (.c i0))] (.cond (.t 79) (.drw [0,1,0,0,12,31,63,127] [(0,fD 80 1 5),(1,lD 81 1 80),(2,mV 82 0),(3,oP 83 (.bsl 9 1 [.c s0,.c (.str [97,97,97,97,97,97,97,97]),.c (.str [64,49,58,49,59]),.c (.str [65])])),(4,oP 84 (.call 117 [.t 82,.t 83])),(5,oP 85 (.iad 2 (.t 81) (.c i0))),(6,fD 86 1 85),(7,nP (.sto 1 (.t 86) (.t 84)))]) .skip)) .skip)))))) (.seq (.drw [0,0,1,7] [(0,mV 87 4),(1,lA 88 2 5),(2,mV 2 87),(3,nP (.sto 2 (.t 3) (.t 88)))]) .ret))))))))
theorem dg88:Dg Tryz.prog 88 Tryz.f88 ic88 [(.t 2),(.cell 3 2 true)]:=⟨Tryz.func88,by kernel_rfl,by kernel_rfl⟩
set_option maxHeartbeats 1000000 in
theorem c88 (code:B) (p:Int) (hc:code.length≤2000) (hp:0≤p∧p≤600000000):FnP Tryz.prog G 88 1 [rdH code p] [.pv 0 0] (srmQ code p 140):=by
  refine mP dg88 Tryz.ntmps88 ⟨_,_,p,[],.zero,by omega,⟨by simp [Strm.zero],by simp [Strm.zero],by simp [Strm.zero]⟩,by simp [sOut,Strm.zero],rfl,rfl⟩ ?_
  have fin:∀ l mm (p':Int) (m:List Pair) (s:Strm),(p≤p'∧p'≤p+140)→(s.inn.length≤31∧s.parts.length≤40∧∀ x∈s.parts,x.text.length≤8)→(sOut s).length≤50→getL l 2=.own 5000 m.length→getL l 3=.pv 1003 0→getH mm 0=.var 99 [.sl 1 (code.map byR),.int .i64 p']→getH mm 1003=.var 44 [.str s.inn,.own 1015 s.parts.length]→getH mm 5000=.arr 82 3 (m.map Pair.row)→getH mm 1015=.arr 89 2 (s.parts.map Part.row)→retQ [.t 2,.cell 3 2 true] 1 (srmQ code p 140) .ret ⟨getL l,getH mm⟩:=fun l mm p' m s h1 h2 h3 h4 h5 h6 h7 h8 h9=>by
    refine retN (.tup [.own 1 m.length,.agg [.str s.inn,.sl 2 (s.parts.map Part.row)]]) [rdH code p',.arr 82 3 (m.map Pair.row)] [(1,5000)] ?_ ⟨p',m,s,h1,h2,h3,rfl,rfl⟩ ?_ (by simp [argH,getN,rdH]) (by simp only [go_sem,rdH])
    · simp only [go_sem,rdH,h4,h5,h7,h9];first|done|simp
    · simp only [go_sem,rdH,h6,h8]
  simp only [ic88,go_sem,rdH]
  with_reducible repeat' (first|rw [i64w (by omega)];try simp only [go_sem]|refine br ?_ ?_<;>intro h e<;>(try simp only [e,go_sem])<;>clear e|refine sd ?_<;>try simp only [go_sem]|fail)
  refine callN (o87 code p hc (by omega)) [0] [] true 10 2 (by simp only [go_sem,rdH];first|done|simp) (by simp only [go_sem,rdH];first|done|simp) (by simp) (by simp) (by simp) ?_ ?_ ?_
  · rintro _ _ ⟨q',_,_,_,rfl,rfl⟩
    exact ⟨by simp,by simp,.inl rfl,fun i hi=>by obtain rfl:i=0:=(by omega);simp [chH,stepOk,rdH]⟩
  · intro i hi;rcases (show i=0∨i=1 by omega) with rfl|rfl<;>simp only [go_sem]
  rintro _ _ ⟨q,m,hq,⟨hm1,hm2⟩,rfl,rfl⟩
  simp only [go_sem,rdH]
  with_reducible repeat' (first|rw [i64w (by omega)];try simp only [go_sem]|refine br ?_ ?_<;>intro h e<;>(try simp only [e,go_sem])<;>clear e|refine sd ?_<;>try simp only [go_sem]|fail)
  refine callF (c64 m (by omega)) [101001] false (by simp only [go_sem];first|done|simp [E.row,Pc.row,Pair.row,Part.row,Flw.row,Pk.row,Conv.row]) (by simp only [List.mem_singleton];rintro c rfl;rfl) rfl (.inr rfl) ?_
  cases hmk:mapOk m<;>simp only [go_sem]
  · obtain ⟨M,hMk,hM⟩:∃ M:List Pair,mapOk M=true∧M=[]:=⟨_,by decide,rfl⟩
    with_reducible repeat' (first|rw [i64w (by omega)];try simp only [go_sem]|refine br ?_ ?_<;>intro h e<;>(try simp only [e,go_sem])<;>clear e|refine sd ?_<;>try simp only [go_sem]|fail)
    refine pkN code q 2 18 hc fun b b1 b2=>?_
    simp only [go_sem,rdH]
    with_reducible repeat' (first|rw [i64w (by omega)];try simp only [go_sem]|refine br ?_ ?_<;>intro h e<;>(try simp only [e,go_sem])<;>clear e|refine sd ?_<;>try simp only [go_sem]|fail)
    refine callN (x116 code (q+1) 30 hc (by omega) (by omega)) [0] [] true 21 1 (by simp only [go_sem,rdH];first|done|simp) (by simp only [go_sem,rdH];first|done|simp) (by simp) (by simp) (by simp) ?_ ?_ ?_
    · rintro _ _ ⟨q',_,_,rfl,_⟩
      exact ⟨by simp,by simp,.inl rfl,fun i hi=>by obtain rfl:i=0:=(by omega);simp [chH,stepOk,rdH]⟩
    · intro i hi;obtain rfl:i=0:=(by omega);simp only [go_sem]
    rintro _ _ ⟨q1,q11,q12,rfl,t,ht1,ht2,rfl⟩
    simp only [go_sem,rdH]
    with_reducible repeat' (first|rw [i64w (by omega)];try simp only [go_sem]|refine br ?_ ?_<;>intro h e<;>(try simp only [e,go_sem])<;>clear e|refine sd ?_<;>try simp only [go_sem]|fail)
    refine loopN (fun a:List Pair × Strm × B × Int=>⟨getL [(0,.pv 0 0),(3,.pv 1003 0),(4,.own 5000 a.1.length),(5,.pv 1005 0),(6,.bool (decide (b=0))),(7,.str a.2.2.1)],getH [(0,.var 99 [.sl 1 (code.map byR),.int .i64 a.2.2.2]),(1003,.var 44 [.str [],.nils]),(1005,.var 44 [.str a.2.1.inn,.own 1015 a.2.1.parts.length]),(1015,.arr 89 2 (a.2.1.parts.map Part.row)),(5000,.arr 82 3 (a.1.map Pair.row))]⟩)
      (fun a=>a.2.2.1.length - a.2.1.inn.length) (fun a=>StrI a.1 a.2.1 a.2.2.1∧(p≤a.2.2.2∧a.2.2.2≤p+72+2 * a.2.1.inn.length)) (M,.zero,t,q1) (by subst hM;exact leN [(5000,1014)] (by simp only [go_sem];first|done|simp [Strm.zero]) (by simp only [go_sem];simp [Strm.zero]) (by simp [getN]) (by simp only [go_sem])) ⟨⟨hMk,strmOk_zero,(fun x hx=>by cases hx),by simp [Strm.zero],by simp only;omega,ht2⟩,by simp only;omega⟩ ?_
    clear hM hMk ht1 ht2 M
    intro ⟨m1,s,u,q2⟩ ⟨hI,hq2⟩
    simp only at hI hq2
    simp only [go_sem]
    have hI1:=hI.le
    have hI2:=hI.ht
    have hI3:=strmOk_B hI.hs
    have hI4:=(mapOk_ports hI.hm).2
    have hI5:=hI.q
    by_cases hk:(s.inn.length:Int)<u.length
    · simp only [eq_true hk,go_sem]
      refine pkN code q2 8 29 hc fun n n1 n2=>?_
      simp only [go_sem,rdH]
      have n2:=n2 (by omega)
      have w1:IntKind.i64.wrap (1+n)=1+n:=i64w (by omega)
      have w2:IntKind.i64.wrap ((s.inn.length:Int)+(1+n))=s.inn.length+(1+n):=i64w (by omega)
      with_reducible repeat' (first|rw [i64w (by omega)];try simp only [go_sem,w1,w2]|refine br ?_ ?_<;>intro h e<;>(try simp only [e,go_sem,w1,w2])<;>clear e|refine sd ?_<;>try simp only [go_sem,w1,w2]|fail)
      obtain ⟨w,hw⟩:∃ w,List.drop s.inn.length (List.take (min ((s.inn.length:Int)+(1+n)) (u.length:Int)).toNat u)=w:=⟨_,rfl⟩
      have hwl:w.length=(min ((s.inn.length:Int)+(1+n)) (u.length:Int)).toNat - s.inn.length:=by rw [← hw];simp;omega
      have hwo:w.all okB=true:=by rw [← hw];exact List.all_eq_true.2 fun x hx=>List.all_eq_true.1 hI.ok x (List.mem_of_mem_take (List.mem_of_mem_drop hx))
      simp only [hw]
      clear hw w1 w2
      cases hbb:decide (b=0)
      · obtain ⟨hP,hS,hL⟩:=hI.step false (u:=w) (by omega) (by omega) hwo
        have hmF:=put_mapF m1 s s.inn.length w
        refine callN (x95F m1 s s.inn.length w hP ⟨by omega,by omega,by omega⟩) [5000] [1015] true 51 2 (by simp only [go_sem];first|done|simp) (by simp only [go_sem];first|done|simp) (by simp) (by simp) (by simp only [List.mem_singleton];rintro c rfl;exact ⟨rfl,by simp⟩) ?_ ?_ ?_
        · rintro _ _ ⟨rfl,rfl⟩
          exact ⟨by simp,by simp,.inl rfl,fun i hi=>by obtain rfl:i=0:=(by omega);simp [chH,stepOk]⟩
        · intro i hi;rcases (show i=0∨i=1 by omega) with rfl|rfl<;>simp only [go_sem]
        rintro _ _ ⟨rfl,rfl⟩
        simp only [go_sem]
        rw [hmF] at hS
        generalize (put m1 s s.inn.length w false).2.1=s1 at *
        with_reducible repeat' (first|rw [i64w (by omega)];try simp only [go_sem]|refine br ?_ ?_<;>intro h e<;>(try simp only [e,go_sem])<;>clear e|refine sd ?_<;>try simp only [go_sem]|fail)
        refine pkN code (q2+1) 6 56 hc fun z z1 z2=>?_
        simp only [go_sem,rdH]
        with_reducible repeat' (first|rw [i64w (by omega)];try simp only [go_sem]|refine br ?_ ?_<;>intro h e<;>(try simp only [e,go_sem])<;>clear e|refine sd ?_<;>try simp only [go_sem]|fail)
        · exact ⟨(m1,s1,u.take s1.inn.length,q2+1+1),by simp only [List.length_take];omega,⟨hS.cut,by simp only;omega⟩,leQ [(1015,105101)]⟩
        · exact ⟨(m1,s1,u,q2+1+1),by simp only;omega,⟨hS,by simp only;omega⟩,leQ [(1015,105101)]⟩
      · obtain ⟨hP,hS,hL⟩:=hI.step true (u:=w) (by omega) (by omega) hwo
        refine callN (x95T m1 s s.inn.length w hP ⟨by omega,by omega,by omega⟩) [5000] [1015] true 51 3 (by simp only [go_sem];first|done|simp) (by simp only [go_sem];first|done|simp) (by simp) (by simp) (by simp only [List.mem_singleton];rintro c rfl;exact ⟨rfl,by simp⟩) ?_ ?_ ?_
        · rintro _ _ ⟨rfl,rfl⟩
          exact ⟨by simp,by simp,.inl rfl,fun i hi=>by obtain rfl:i=0:=(by omega);simp [chH,stepOk]⟩
        · intro i hi;rcases (show i=0∨i=1∨i=2 by omega) with rfl|rfl|rfl<;>simp only [go_sem]
        rintro _ _ ⟨rfl,rfl⟩
        simp only [go_sem]
        generalize (put m1 s s.inn.length w true).2.1=s1 at *
        generalize (put m1 s s.inn.length w true).1=m2 at *
        with_reducible repeat' (first|rw [i64w (by omega)];try simp only [go_sem]|refine br ?_ ?_<;>intro h e<;>(try simp only [e,go_sem])<;>clear e|refine sd ?_<;>try simp only [go_sem]|fail)
        refine pkN code (q2+1) 6 56 hc fun z z1 z2=>?_
        simp only [go_sem,rdH]
        with_reducible repeat' (first|rw [i64w (by omega)];try simp only [go_sem]|refine br ?_ ?_<;>intro h e<;>(try simp only [e,go_sem])<;>clear e|refine sd ?_<;>try simp only [go_sem]|fail)
        · exact ⟨(m2,s1,u.take s1.inn.length,q2+1+1),by simp only [List.length_take];omega,⟨hS.cut,by simp only;omega⟩,leQ [(5000,105101),(1015,105102)]⟩
        · exact ⟨(m2,s1,u,q2+1+1),by simp only;omega,⟨hS,by simp only;omega⟩,leQ [(5000,105101),(1015,105102)]⟩
    · simp only [eq_false hk,go_sem]
      refine pkN code q2 20 64 hc fun z z1 z2=>?_
      simp only [go_sem,rdH]
      have z2:=z2 (by omega)
      have hpt:∀ x∈s.parts,x.text.length≤8:=fun x hx=>by have:=hI3.2.2 x hx;omega
      have hpl:=hI3.2.1
      with_reducible repeat' (first|rw [i64w (by omega)];try simp only [go_sem]|refine br ?_ ?_<;>intro h e<;>(try simp only [e,go_sem])<;>clear e|refine sd ?_<;>try simp only [go_sem]|fail)
      · refine callN (c117 code (q2+1) marks3 hc (by omega) (by decide)) [0] [1070] true 71 1 (by simp only [go_sem,rdH,marks3,List.mem_singleton];first|done|simp) (by simp only [go_sem,rdH];first|done|simp) (by simp) (by simp) (by simp only [List.mem_singleton];rintro c rfl;exact ⟨rfl,by simp⟩) ?_ ?_ ?_
        · rintro _ _ ⟨q',_,_,rfl,_⟩
          exact ⟨by simp,by simp,.inl rfl,fun i hi=>by obtain rfl:i=0:=(by omega);simp [chH,stepOk,rdH]⟩
        · intro i hi;obtain rfl:i=0:=(by omega);simp only [go_sem]
        rintro _ _ ⟨q',q3,q4,rfl,x,hx,rfl⟩
        have hxl:=marks3_le x hx
        simp only [go_sem,rdH]
        with_reducible repeat' (first|rw [i64w (by omega)];try simp only [go_sem]|refine br ?_ ?_<;>intro h e<;>(try simp only [e,go_sem])<;>clear e|refine sd ?_<;>try simp only [go_sem]|fail)
        exact fin _ _ q' m1 ⟨s.inn++x,s.parts⟩ (by omega) ⟨by simp only [List.length_append];omega,hpl,hpt⟩ (by simp only [sOut] at hI5 ⊢;omega) (by simp only [go_sem]) (by simp only [go_sem]) (by simp only [go_sem]) (by simp only [go_sem]) (by simp only [go_sem]) (by simp only [go_sem])
      · refine callN (c117 code (q2+1) marks4 hc (by omega) (by decide)) [0] [1083] true 84 1 (by simp only [go_sem,rdH,marks4,List.mem_singleton];first|done|simp) (by simp only [go_sem,rdH];first|done|simp) (by simp) (by simp) (by simp only [List.mem_singleton];rintro c rfl;exact ⟨rfl,by simp⟩) ?_ ?_ ?_
        · rintro _ _ ⟨q',_,_,rfl,_⟩
          exact ⟨by simp,by simp,.inl rfl,fun i hi=>by obtain rfl:i=0:=(by omega);simp [chH,stepOk,rdH]⟩
        · intro i hi;obtain rfl:i=0:=(by omega);simp only [go_sem]
        rintro _ _ ⟨q',q3,q4,rfl,x,hx,rfl⟩
        have hxl:=marks4_le x hx
        simp only [go_sem,rdH]
        obtain ⟨a,l,hl⟩:∃ a l,s.parts=a :: l:=by
          cases hs:s.parts with
          | nil =>
            have hh:s.parts.length=0:=by rw [hs];rfl
            omega
          | cons a l=>exact ⟨a,l,rfl⟩
        have hso:=sOut_set hl x hxl
        rw [hl] at hpt hpl
        with_reducible repeat' (first|rw [i64w (by omega)];try simp only [go_sem,hl]|refine br ?_ ?_<;>intro h e<;>(try simp only [e,go_sem,hl])<;>clear e|refine sd ?_<;>try simp only [go_sem,hl]|fail)
        refine fin _ _ q' m1 ⟨s.inn,⟨a.size,x⟩ :: l⟩ (by omega) ⟨by simp only;omega,hpl, ?_⟩ (by omega) (by simp only [go_sem]) (by simp only [go_sem]) (by simp only [go_sem]) (by simp only [go_sem,hl]) (by simp only [go_sem]) (by simp only [go_sem,hl];first|done|simp [Part.row])
        intro y hy
        simp only [List.mem_cons] at hy hpt
        rcases hy with rfl|hy
        · exact hxl
        · exact hpt y (.inr hy)
      · exact fin _ _ (q2+1) m1 s (by omega) ⟨by omega,hpl,hpt⟩ (by omega) (by simp only [go_sem]) (by simp only [go_sem]) (by simp only [go_sem]) (by simp only [go_sem]) (by simp only [go_sem]) (by simp only [go_sem])
      · exact fin _ _ (q2+1) m1 s (by omega) ⟨by omega,hpl,hpt⟩ (by omega) (by simp only [go_sem]) (by simp only [go_sem]) (by simp only [go_sem]) (by simp only [go_sem]) (by simp only [go_sem]) (by simp only [go_sem])
  · obtain ⟨M,hMk,hM⟩:∃ M:List Pair,mapOk M=true∧M=m:=⟨_,hmk,rfl⟩
    with_reducible repeat' (first|rw [i64w (by omega)];try simp only [go_sem]|refine br ?_ ?_<;>intro h e<;>(try simp only [e,go_sem])<;>clear e|refine sd ?_<;>try simp only [go_sem]|fail)
    refine pkN code q 2 18 hc fun b b1 b2=>?_
    simp only [go_sem,rdH]
    with_reducible repeat' (first|rw [i64w (by omega)];try simp only [go_sem]|refine br ?_ ?_<;>intro h e<;>(try simp only [e,go_sem])<;>clear e|refine sd ?_<;>try simp only [go_sem]|fail)
    refine callN (x116 code (q+1) 30 hc (by omega) (by omega)) [0] [] true 21 1 (by simp only [go_sem,rdH];first|done|simp) (by simp only [go_sem,rdH];first|done|simp) (by simp) (by simp) (by simp) ?_ ?_ ?_
    · rintro _ _ ⟨q',_,_,rfl,_⟩
      exact ⟨by simp,by simp,.inl rfl,fun i hi=>by obtain rfl:i=0:=(by omega);simp [chH,stepOk,rdH]⟩
    · intro i hi;obtain rfl:i=0:=(by omega);simp only [go_sem]
    rintro _ _ ⟨q1,q11,q12,rfl,t,ht1,ht2,rfl⟩
    simp only [go_sem,rdH]
    with_reducible repeat' (first|rw [i64w (by omega)];try simp only [go_sem]|refine br ?_ ?_<;>intro h e<;>(try simp only [e,go_sem])<;>clear e|refine sd ?_<;>try simp only [go_sem]|fail)
    refine loopN (fun a:List Pair × Strm × B × Int=>⟨getL [(0,.pv 0 0),(3,.pv 1003 0),(4,.own 5000 a.1.length),(5,.pv 1005 0),(6,.bool (decide (b=0))),(7,.str a.2.2.1)],getH [(0,.var 99 [.sl 1 (code.map byR),.int .i64 a.2.2.2]),(1003,.var 44 [.str [],.nils]),(1005,.var 44 [.str a.2.1.inn,.own 1015 a.2.1.parts.length]),(1015,.arr 89 2 (a.2.1.parts.map Part.row)),(5000,.arr 82 3 (a.1.map Pair.row))]⟩)
      (fun a=>a.2.2.1.length - a.2.1.inn.length) (fun a=>StrI a.1 a.2.1 a.2.2.1∧(p≤a.2.2.2∧a.2.2.2≤p+72+2 * a.2.1.inn.length)) (M,.zero,t,q1) (by subst hM;exact leN [(5000,101001)] (by simp only [go_sem];first|done|simp [Strm.zero]) (by simp only [go_sem];simp [Strm.zero]) (by simp [getN]) (by simp only [go_sem])) ⟨⟨hMk,strmOk_zero,(fun x hx=>by cases hx),by simp [Strm.zero],by simp only;omega,ht2⟩,by simp only;omega⟩ ?_
    clear hM hMk ht1 ht2 M
    intro ⟨m1,s,u,q2⟩ ⟨hI,hq2⟩
    simp only at hI hq2
    simp only [go_sem]
    have hI1:=hI.le
    have hI2:=hI.ht
    have hI3:=strmOk_B hI.hs
    have hI4:=(mapOk_ports hI.hm).2
    have hI5:=hI.q
    by_cases hk:(s.inn.length:Int)<u.length
    · simp only [eq_true hk,go_sem]
      refine pkN code q2 8 29 hc fun n n1 n2=>?_
      simp only [go_sem,rdH]
      have n2:=n2 (by omega)
      have w1:IntKind.i64.wrap (1+n)=1+n:=i64w (by omega)
      have w2:IntKind.i64.wrap ((s.inn.length:Int)+(1+n))=s.inn.length+(1+n):=i64w (by omega)
      with_reducible repeat' (first|rw [i64w (by omega)];try simp only [go_sem,w1,w2]|refine br ?_ ?_<;>intro h e<;>(try simp only [e,go_sem,w1,w2])<;>clear e|refine sd ?_<;>try simp only [go_sem,w1,w2]|fail)
      obtain ⟨w,hw⟩:∃ w,List.drop s.inn.length (List.take (min ((s.inn.length:Int)+(1+n)) (u.length:Int)).toNat u)=w:=⟨_,rfl⟩
      have hwl:w.length=(min ((s.inn.length:Int)+(1+n)) (u.length:Int)).toNat - s.inn.length:=by rw [← hw];simp;omega
      have hwo:w.all okB=true:=by rw [← hw];exact List.all_eq_true.2 fun x hx=>List.all_eq_true.1 hI.ok x (List.mem_of_mem_take (List.mem_of_mem_drop hx))
      simp only [hw]
      clear hw w1 w2
      cases hbb:decide (b=0)
      · obtain ⟨hP,hS,hL⟩:=hI.step false (u:=w) (by omega) (by omega) hwo
        have hmF:=put_mapF m1 s s.inn.length w
        refine callN (x95F m1 s s.inn.length w hP ⟨by omega,by omega,by omega⟩) [5000] [1015] true 51 2 (by simp only [go_sem];first|done|simp) (by simp only [go_sem];first|done|simp) (by simp) (by simp) (by simp only [List.mem_singleton];rintro c rfl;exact ⟨rfl,by simp⟩) ?_ ?_ ?_
        · rintro _ _ ⟨rfl,rfl⟩
          exact ⟨by simp,by simp,.inl rfl,fun i hi=>by obtain rfl:i=0:=(by omega);simp [chH,stepOk]⟩
        · intro i hi;rcases (show i=0∨i=1 by omega) with rfl|rfl<;>simp only [go_sem]
        rintro _ _ ⟨rfl,rfl⟩
        simp only [go_sem]
        rw [hmF] at hS
        generalize (put m1 s s.inn.length w false).2.1=s1 at *
        with_reducible repeat' (first|rw [i64w (by omega)];try simp only [go_sem]|refine br ?_ ?_<;>intro h e<;>(try simp only [e,go_sem])<;>clear e|refine sd ?_<;>try simp only [go_sem]|fail)
        refine pkN code (q2+1) 6 56 hc fun z z1 z2=>?_
        simp only [go_sem,rdH]
        with_reducible repeat' (first|rw [i64w (by omega)];try simp only [go_sem]|refine br ?_ ?_<;>intro h e<;>(try simp only [e,go_sem])<;>clear e|refine sd ?_<;>try simp only [go_sem]|fail)
        · exact ⟨(m1,s1,u.take s1.inn.length,q2+1+1),by simp only [List.length_take];omega,⟨hS.cut,by simp only;omega⟩,leQ [(1015,105101)]⟩
        · exact ⟨(m1,s1,u,q2+1+1),by simp only;omega,⟨hS,by simp only;omega⟩,leQ [(1015,105101)]⟩
      · obtain ⟨hP,hS,hL⟩:=hI.step true (u:=w) (by omega) (by omega) hwo
        refine callN (x95T m1 s s.inn.length w hP ⟨by omega,by omega,by omega⟩) [5000] [1015] true 51 3 (by simp only [go_sem];first|done|simp) (by simp only [go_sem];first|done|simp) (by simp) (by simp) (by simp only [List.mem_singleton];rintro c rfl;exact ⟨rfl,by simp⟩) ?_ ?_ ?_
        · rintro _ _ ⟨rfl,rfl⟩
          exact ⟨by simp,by simp,.inl rfl,fun i hi=>by obtain rfl:i=0:=(by omega);simp [chH,stepOk]⟩
        · intro i hi;rcases (show i=0∨i=1∨i=2 by omega) with rfl|rfl|rfl<;>simp only [go_sem]
        rintro _ _ ⟨rfl,rfl⟩
        simp only [go_sem]
        generalize (put m1 s s.inn.length w true).2.1=s1 at *
        generalize (put m1 s s.inn.length w true).1=m2 at *
        with_reducible repeat' (first|rw [i64w (by omega)];try simp only [go_sem]|refine br ?_ ?_<;>intro h e<;>(try simp only [e,go_sem])<;>clear e|refine sd ?_<;>try simp only [go_sem]|fail)
        refine pkN code (q2+1) 6 56 hc fun z z1 z2=>?_
        simp only [go_sem,rdH]
        with_reducible repeat' (first|rw [i64w (by omega)];try simp only [go_sem]|refine br ?_ ?_<;>intro h e<;>(try simp only [e,go_sem])<;>clear e|refine sd ?_<;>try simp only [go_sem]|fail)
        · exact ⟨(m2,s1,u.take s1.inn.length,q2+1+1),by simp only [List.length_take];omega,⟨hS.cut,by simp only;omega⟩,leQ [(5000,105101),(1015,105102)]⟩
        · exact ⟨(m2,s1,u,q2+1+1),by simp only;omega,⟨hS,by simp only;omega⟩,leQ [(5000,105101),(1015,105102)]⟩
    · simp only [eq_false hk,go_sem]
      refine pkN code q2 20 64 hc fun z z1 z2=>?_
      simp only [go_sem,rdH]
      have z2:=z2 (by omega)
      have hpt:∀ x∈s.parts,x.text.length≤8:=fun x hx=>by have:=hI3.2.2 x hx;omega
      have hpl:=hI3.2.1
      with_reducible repeat' (first|rw [i64w (by omega)];try simp only [go_sem]|refine br ?_ ?_<;>intro h e<;>(try simp only [e,go_sem])<;>clear e|refine sd ?_<;>try simp only [go_sem]|fail)
      · refine callN (c117 code (q2+1) marks3 hc (by omega) (by decide)) [0] [1070] true 71 1 (by simp only [go_sem,rdH,marks3,List.mem_singleton];first|done|simp) (by simp only [go_sem,rdH];first|done|simp) (by simp) (by simp) (by simp only [List.mem_singleton];rintro c rfl;exact ⟨rfl,by simp⟩) ?_ ?_ ?_
        · rintro _ _ ⟨q',_,_,rfl,_⟩
          exact ⟨by simp,by simp,.inl rfl,fun i hi=>by obtain rfl:i=0:=(by omega);simp [chH,stepOk,rdH]⟩
        · intro i hi;obtain rfl:i=0:=(by omega);simp only [go_sem]
        rintro _ _ ⟨q',q3,q4,rfl,x,hx,rfl⟩
        have hxl:=marks3_le x hx
        simp only [go_sem,rdH]
        with_reducible repeat' (first|rw [i64w (by omega)];try simp only [go_sem]|refine br ?_ ?_<;>intro h e<;>(try simp only [e,go_sem])<;>clear e|refine sd ?_<;>try simp only [go_sem]|fail)
        exact fin _ _ q' m1 ⟨s.inn++x,s.parts⟩ (by omega) ⟨by simp only [List.length_append];omega,hpl,hpt⟩ (by simp only [sOut] at hI5 ⊢;omega) (by simp only [go_sem]) (by simp only [go_sem]) (by simp only [go_sem]) (by simp only [go_sem]) (by simp only [go_sem]) (by simp only [go_sem])
      · refine callN (c117 code (q2+1) marks4 hc (by omega) (by decide)) [0] [1083] true 84 1 (by simp only [go_sem,rdH,marks4,List.mem_singleton];first|done|simp) (by simp only [go_sem,rdH];first|done|simp) (by simp) (by simp) (by simp only [List.mem_singleton];rintro c rfl;exact ⟨rfl,by simp⟩) ?_ ?_ ?_
        · rintro _ _ ⟨q',_,_,rfl,_⟩
          exact ⟨by simp,by simp,.inl rfl,fun i hi=>by obtain rfl:i=0:=(by omega);simp [chH,stepOk,rdH]⟩
        · intro i hi;obtain rfl:i=0:=(by omega);simp only [go_sem]
        rintro _ _ ⟨q',q3,q4,rfl,x,hx,rfl⟩
        have hxl:=marks4_le x hx
        simp only [go_sem,rdH]
        obtain ⟨a,l,hl⟩:∃ a l,s.parts=a :: l:=by
          cases hs:s.parts with
          | nil =>
            have hh:s.parts.length=0:=by rw [hs];rfl
            omega
          | cons a l=>exact ⟨a,l,rfl⟩
        have hso:=sOut_set hl x hxl
        rw [hl] at hpt hpl
        with_reducible repeat' (first|rw [i64w (by omega)];try simp only [go_sem,hl]|refine br ?_ ?_<;>intro h e<;>(try simp only [e,go_sem,hl])<;>clear e|refine sd ?_<;>try simp only [go_sem,hl]|fail)
        refine fin _ _ q' m1 ⟨s.inn,⟨a.size,x⟩ :: l⟩ (by omega) ⟨by simp only;omega,hpl, ?_⟩ (by omega) (by simp only [go_sem]) (by simp only [go_sem]) (by simp only [go_sem]) (by simp only [go_sem,hl]) (by simp only [go_sem]) (by simp only [go_sem,hl];first|done|simp [Part.row])
        intro y hy
        simp only [List.mem_cons] at hy hpt
        rcases hy with rfl|hy
        · exact hxl
        · exact hpt y (.inr hy)
      · exact fin _ _ (q2+1) m1 s (by omega) ⟨by omega,hpl,hpt⟩ (by omega) (by simp only [go_sem]) (by simp only [go_sem]) (by simp only [go_sem]) (by simp only [go_sem]) (by simp only [go_sem]) (by simp only [go_sem])
      · exact fin _ _ (q2+1) m1 s (by omega) ⟨by omega,hpl,hpt⟩ (by omega) (by simp only [go_sem]) (by simp only [go_sem]) (by simp only [go_sem]) (by simp only [go_sem]) (by simp only [go_sem]) (by simp only [go_sem])
def CvD (cs:List Conv):Prop:=(1≤cs.length∧cs.length≤2)∧∀ c∈cs,(c.up.length≤24∧c.down.length≤24∧c.out.a≤5)∧(c.upAck=0∧c.downAck=0)
def cvQ (code:B) (p k:Int) (r:V) (o:List Hs):Prop:=∃ (p':Int) (cs:List Conv),(p≤p'∧p'≤p+k)∧CvD cs∧r=.own 1 cs.length∧o=[rdH code p',.arr 107 10 (cs.map Conv.row)]
def ic119:IC:=sR [oP 2 (.mv (.c .nils))] (sR [oP 6 (.bsl 107 10 []),mV 3 6] (.seq (sR [oP 4 (.mv (.c i0))] (.block 0 (.loop (.seq (sR [mV 7 4,mV 8 0,oP 9 (.call 77 [.t 8,.c (.int .i64 2)]),oP 10 (.bin .add (.c (.int .i64 1)) (.t 9)),bN 11 .lss 7 10] (.cond (.t 11) .skip (.exit 0))) (.seq (.block 1 (sR [mV 14 4,oP 15 (.bin .add (.c (.int .i64 1)) (.t 14)),mV 16 0,oP 17 (.call 77 [.t 16,.c (.int .i64 2)]),bN 18 .add 15 17,mV 19 4,oP 20 (.bin .add (.c (.int .i64 1)) (.t 19)),oP 21 (.build [i0,i0] [(0,(1,.t 18)),(1,(1,.t 20))]),mV 22 4,oP 23 (.bin .add (.c (.int .i64 4)) (.t 22)),mV 24 0,oP 25 (.call 77 [.t 24,.c (.int .i64 4)]),oP 26 (.bin .add (.c (.int .i64 1)) (.t 25)),oP 27 (.build [i0,i0] [(0,(1,.t 23)),(1,(1,.t 26))]),mV 28 0,oP 29 (.call 135 [.t 28,.c (.bool false)]),mV 30 0,oP 31 (.call 135 [.t 30,.c (.bool true)]),oP 32 (.build [i0,i0,i0,i0,s0,s0,i0,i0,s0,s0] [(0,(2,.t 21)),(2,(2,.t 27)),(4,(1,.t 29)),(5,(1,.t 31))]),oP 5 (.alloc 107 [i0,i0,i0,i0,s0,s0,i0,i0,s0,s0]),nP (.sto 10 (.t 5) (.t 32))] (.reg [mV 33 3,lA 34 10 5,oP 35 (.bsl 107 10 [.t 34]),oP 36 (.app 107 10 (.t 33) (.t 35)),mV 3 36]))) (.reg [mV 12 4,oP 13 (.bin .add (.t 12) (.c (.int .i64 1))),mV 4 13])))))) (sR [mV 37 3,mV 2 37] .ret)))
theorem dg119:Dg Tryz.prog 119 Tryz.f119 ic119 [(.t 2)]:=⟨Tryz.func119,by kernel_rfl,by kernel_rfl⟩
theorem c119 (code:B) (p:Int) (hc:code.length≤2000) (hp:0≤p∧p≤400000000):FnP Tryz.prog G 119 1 [rdH code p] [.pv 0 0] (cvQ code p 150):=by
  refine mP dg119 Tryz.ntmps119 ⟨_,_,p,[⟨.zero,.zero,[],[],0,0,[],[]⟩],by omega,⟨by simp,by simp [E.zero]⟩,rfl,rfl⟩ ?_
  simp only [ic119,go_sem,rdH]
  refine loopN (fun a:List Conv × Int=>⟨getL [(0,.pv 0 0),(3,.own 1006 a.1.length),(4,.int .i64 (a.1.length:Int))],getH [(0,.var 99 [.sl 1 (code.map byR),.int .i64 a.2]),(1006,.arr 107 10 (a.1.map Conv.row))]⟩) (fun a=>2 - a.1.length)
    (fun a=>a.1.length≤2∧(p≤a.2∧a.2≤p+45 * a.1.length)∧∀ c∈a.1,(c.up.length≤24∧c.down.length≤24∧c.out.a≤5)∧(c.upAck=0∧c.downAck=0)) ([],p) (leQ []) ⟨by simp,by simp,by simp⟩ ?_
  intro ⟨cs,q⟩ ⟨h1,h2,h3⟩
  simp only at h1 h2 h3
  simp only [go_sem]
  refine pkN code q 2 9 hc fun k k1 k2=>?_
  simp only [go_sem,rdH]
  have k2:=k2 (by omega)
  with_reducible repeat' (first|rw [i64w (by omega)];try simp only [go_sem]|refine br ?_ ?_<;>intro h e<;>(try simp only [e,go_sem])<;>clear e|refine sd ?_<;>try simp only [go_sem]|fail)
  · have:=0
    refine pkN code (q+1) 2 17 hc fun a a1 a2=>?_
    simp only [go_sem,rdH]
    have a2:=a2 (by omega)
    with_reducible repeat' (first|rw [i64w (by omega)];try simp only [go_sem]|refine br ?_ ?_<;>intro h e<;>(try simp only [e,go_sem])<;>clear e|refine sd ?_<;>try simp only [go_sem]|fail)
    refine pkN code (q+1+1) 4 25 hc fun b b1 b2=>?_
    simp only [go_sem,rdH]
    have b2:=b2 (by omega)
    with_reducible repeat' (first|rw [i64w (by omega)];try simp only [go_sem]|refine br ?_ ?_<;>intro h e<;>(try simp only [e,go_sem])<;>clear e|refine sd ?_<;>try simp only [go_sem]|fail)
    refine callN (c135 code (q+1+1+1) false hc (by omega)) [0] [] true 29 1 (by simp only [go_sem,rdH];first|done|simp) (by simp only [go_sem,rdH];first|done|simp) (by simp) (by simp) (by simp) ?_ ?_ ?_
    · rintro _ _ ⟨q',_,_,rfl,_⟩
      exact ⟨by simp,by simp,.inl rfl,fun i hi=>by obtain rfl:i=0:=(by omega);simp [chH,stepOk,rdH]⟩
    · intro i hi;obtain rfl:i=0:=(by omega);simp only [go_sem]
    rintro _ _ ⟨q1,q11,q12,rfl,s,hs,rfl⟩
    simp only [go_sem,rdH]
    with_reducible repeat' (first|rw [i64w (by omega)];try simp only [go_sem]|refine br ?_ ?_<;>intro h e<;>(try simp only [e,go_sem])<;>clear e|refine sd ?_<;>try simp only [go_sem]|fail)
    refine callN (c135 code q1 true hc (by omega)) [0] [] true 31 1 (by simp only [go_sem,rdH];first|done|simp) (by simp only [go_sem,rdH];first|done|simp) (by simp) (by simp) (by simp) ?_ ?_ ?_
    · rintro _ _ ⟨q',_,_,rfl,_⟩
      exact ⟨by simp,by simp,.inl rfl,fun i hi=>by obtain rfl:i=0:=(by omega);simp [chH,stepOk,rdH]⟩
    · intro i hi;obtain rfl:i=0:=(by omega);simp only [go_sem]
    rintro _ _ ⟨q2,q21,q22,rfl,t,ht,rfl⟩
    simp only [go_sem,rdH]
    with_reducible repeat' (first|rw [i64w (by omega)];try simp only [go_sem]|refine br ?_ ?_<;>intro h e<;>(try simp only [e,go_sem])<;>clear e|refine sd ?_<;>try simp only [go_sem]|fail)
    refine ⟨(cs++[⟨⟨1+cs.length+a,1+cs.length⟩,⟨4+cs.length,1+b⟩,s,t,0,0,[],[]⟩],q2),by simp only [List.length_append,List.length_cons,List.length_nil];omega,⟨by simp only [List.length_append,List.length_cons,List.length_nil];omega,by simp only [List.length_append,List.length_cons,List.length_nil];omega, ?_⟩,leN [(1006,1036)] ?_ ?_ (by simp [getN]) (by simp only [go_sem])⟩
    · intro c hc
      rcases List.mem_append.1 hc with hc|hc
      · exact h3 c hc
      · simp only [List.mem_singleton] at hc
        subst hc
        exact ⟨⟨hs,ht,by simp only;omega⟩,rfl,rfl⟩
    · simp only [go_sem];simp
    · simp only [go_sem];simp [Conv.row]
  · refine retN (.own 1 cs.length) [rdH code (q+1),.arr 107 10 (cs.map Conv.row)] [(1,1006)] (by simp only [go_sem]) ⟨q+1,cs,by omega,⟨by omega,h3⟩,rfl,rfl⟩ ?_ (by simp [argH,getN,rdH]) (by simp only [go_sem,rdH])
    simp only [go_sem,rdH]
def evQ (r:V):Prop:=∃ e:Ev,e.pkt.text.length≤50∧r=.agg (Ev.row e)
def evA (code:B) (p:Int) (w:M.World) (r:V) (o:List Hs):Prop:=∃ p':Int,(p≤p'∧p'≤p+60)∧o=[rdH code p',.arr 107 10 (w.convs.map Conv.row),.arr 82 3 (w.door.map.map Pair.row),.arr 46 8 (w.door.flows.map Flw.row),.arr 30 7 (w.nets.map Pk.row)]∧evQ r
def ints6:List Int:=[1,3,5,8,24,24]
theorem ints6_e:[[V.int .i64 1],[V.int .i64 3],[V.int .i64 5],[V.int .i64 8],[V.int .i64 24],[V.int .i64 24]]=ints6.map (fun x=>[V.int .i64 x]):=rfl
theorem ints6_l:ints6.length=6:=rfl
theorem lt6 {c:Int} (h:0≤c) (h2:c<6):c.toNat<ints6.length:=by simp only [ints6,List.length_cons,List.length_nil];omega
theorem div5 {c:Int} (h:0≤c) (h2:c<6):0≤c.tdiv 5∧c.tdiv 5≤1:=by
  obtain ⟨n,rfl⟩:=Int.eq_ofNat_of_zero_le h
  rw [show (n:Int).tdiv 5=((n / 5:Nat):Int) from (Int.ofNat_tdiv n 5).symm]
  omega
theorem finE (code:B) (p:Int) (w:M.World) {l mm} (q:Int) (e:Ev) (h1:p≤q∧q≤p+60:=by omega) (h2:e.pkt.text.length≤50:=by (simp [Pk.zero];try omega)) (h3:getL l 4=.pv 1004 0:=by simp only [go_sem])
    (h4:getH mm 1004=.var 144 (Ev.row e):=by simp only [go_sem,Pk.zero,E.zero]) (h5:getH mm 0=.var 99 [.sl 1 (code.map byR),.int .i64 q]:=by simp only [go_sem])
    (h6:getH mm 1=.arr 107 10 (w.convs.map Conv.row):=by simp only [go_sem]) (h7:getH mm 2=.arr 82 3 (w.door.map.map Pair.row):=by simp only [go_sem]) (h8:getH mm 3=.arr 46 8 (w.door.flows.map Flw.row):=by simp only [go_sem])
    (h9:getH mm 4=.arr 30 7 (w.nets.map Pk.row):=by simp only [go_sem]):retQ [.cell 4 11 true] 5 (evA code p w) .ret ⟨getL l,getH mm⟩:=by
  refine retN (.agg (Ev.row e)) [rdH code q,.arr 107 10 (w.convs.map Conv.row),.arr 82 3 (w.door.map.map Pair.row),.arr 46 8 (w.door.flows.map Flw.row),.arr 30 7 (w.nets.map Pk.row)] [] ?_ ⟨q,h1,rfl,e,h2,rfl⟩ ?_ (by simp [argH,getN,rdH]) (by simp only [go_sem,rdH])
  · simp only [go_sem,h3,h4]
  · simp only [go_sem,h5,h6,h7,h8,h9,rdH]
def ic121:IC:=sR [oP 3 (.box 66 (.t 1)),oP 4 (.alloc 144 [i0,i0,i0,i0,i0,i0,i0,i0,i0,i0,s0])] (sR [fD 8 3 3,lD 9 1 8,oP 10 (.len (.t 9)),mV 5 10] (.seq (sR [mV 11 5,oP 12 (.bin .gtr (.t 11) (.c i0)),mV 13 12,⟨some 14,some (13,true),.mv (.t 0)⟩,⟨some 15,some (13,true),.call 77 [.t 14,.c (.int .i64 7)]⟩,⟨some 16,some (13,true),.bin .lss (.t 15) (.c (.int .i64 4))⟩,oP 17 (.pick (.t 13) (.t 16) (.c (.bool false)))] (.cond (.t 17) (sR [mV 18 0,mV 19 5,oP 20 (.call 77 [.t 18,.t 19]),oP 21 (.build [i0,i0,i0,i0,i0,i0,i0,i0,i0,i0,s0] [(0,(1,.c (.int .i64 3))),(1,(1,.t 20))]),nP (.sto 11 (.t 4) (.t 21))] .ret) .skip)) (sR [mV 22 0,fD 23 0 3,lD 24 1 23,oP 25 (.len (.t 24)),oP 26 (.bin .add (.t 25) (.c (.int .i64 1))),oP 27 (.call 77 [.t 22,.t 26]),oP 28 (.build [i0,i0,i0,i0,i0,i0,i0,i0,i0,i0,s0] [(0,(1,.c (.int .i64 1))),(1,(1,.t 27))]),oP 6 (.alloc 144 [i0,i0,i0,i0,i0,i0,i0,i0,i0,i0,s0]),nP (.sto 11 (.t 6) (.t 28))] (.seq (sR [fD 29 1 6,lD 30 1 29,fD 31 0 3,lD 32 1 31,oP 33 (.len (.t 32)),bN 34 .eql 30 33] (.cond (.t 34) (.reg [fD 35 1 6,nP (.sto 1 (.t 35) (.c i0))]) .skip)) (.seq (sR [mV 36 0,oP 37 (.call 77 [.t 36,.c (.int .i64 10)])] (.block 0 (.seq (sR [oP 62 (.bin .eql (.t 37) (.c i0)),mV 61 62] (.cond (.t 61) .skip (sR [oP 63 (.bin .eql (.t 37) (.c (.int .i64 1))),mV 61 63] (.cond (.t 61) .skip (sR [oP 64 (.bin .eql (.t 37) (.c (.int .i64 2))),mV 61 64] (.cond (.t 61) .skip (.reg [oP 65 (.bin .eql (.t 37) (.c (.int .i64 3))),mV 61 65]))))))) (.cond (.t 61) (.seq (.drw [0,1,0,4,15,31,63,0,128,384,896,2047,4095,8191,16383] [(0,fD 66 0 3),(1,lD 67 1 66),(2,fD 68 1 6),(3,lD 69 1 68),(4,oP 70 (.iad 10 (.t 67) (.t 69))),(5,fD 71 6 70),(6,lD 72 1 71),(7,mV 73 0),(8,oP 74 (.call 77 [.t 73,.c (.int .i64 6)])),(9,oP 75 (.bin .quo (.t 74) (.c (.int .i64 5)))),(10,oP 76 (.bin .mul (.t 75) (.c (.int .i64 3)))),(11,bN 77 .sub 72 76),(12,oP 78 (.mx (.t 77) (.c i0))),(13,fD 79 2 6),(14,nP (.sto 1 (.t 79) (.t 78)))]) (.reg [oP 80 (.bsl 3 1 [.c (.int .i64 1),.c (.int .i64 3),.c (.int .i64 5),.c (.int .i64 8),.c (.int .i64 24),.c (.int .i64 24)]),mV 81 0,oP 82 (.call 77 [.t 81,.c (.int .i64 6)]),oP 83 (.iad 1 (.t 80) (.t 82)),lD 84 1 83,fD 85 3 6,nP (.sto 1 (.t 85) (.t 84))])) (.seq (sR [oP 87 (.bin .eql (.t 37) (.c (.int .i64 4))),mV 86 87] (.cond (.t 86) .skip (sR [oP 88 (.bin .eql (.t 37) (.c (.int .i64 5))),mV 86 88] (.cond (.t 86) .skip (.reg [oP 89 (.bin .eql (.t 37) (.c (.int .i64 6))),mV 86 89]))))) (.cond (.t 86) (sR [fD 90 0 6,nP (.sto 1 (.t 90) (.c (.int .i64 2)))] (.seq (.drw [0,1,0,4,15,31,63,0,128,384,896,2047,4095,8191,16383] [(0,fD 91 0 3),(1,lD 92 1 91),(2,fD 93 1 6),(3,lD 94 1 93),(4,oP 95 (.iad 10 (.t 92) (.t 94))),(5,fD 96 7 95),(6,lD 97 1 96),(7,mV 98 0),(8,oP 99 (.call 77 [.t 98,.c (.int .i64 6)])),(9,oP 100 (.bin .quo (.t 99) (.c (.int .i64 5)))),(10,oP 101 (.bin .mul (.t 100) (.c (.int .i64 3)))),(11,bN 102 .sub 97 101),(12,oP 103 (.mx (.t 102) (.c i0))),(13,fD 104 2 6),(14,nP (.sto 1 (.t 104) (.t 103)))]) (.reg [oP 105 (.bsl 3 1 [.c (.int .i64 1),.c (.int .i64 3),.c (.int .i64 5),.c (.int .i64 8),.c (.int .i64 24),.c (.int .i64 24)]),mV 106 0,oP 107 (.call 77 [.t 106,.c (.int .i64 6)]),oP 108 (.iad 1 (.t 105) (.t 107)),lD 109 1 108,fD 110 3 6,nP (.sto 1 (.t 110) (.t 109))]))) (sR [oP 112 (.bin .eql (.t 37) (.c (.int .i64 7))),mV 111 112] (.cond (.t 111) (sR [mV 113 0,mV 114 5,oP 115 (.bin .add (.t 114) (.c (.int .i64 1))),oP 116 (.call 77 [.t 113,.t 115]),oP 117 (.build [i0,i0,i0,i0,i0,i0,i0,i0,i0,i0,s0] [(0,(1,.c (.int .i64 4))),(1,(1,.t 116))]),nP (.sto 11 (.t 4) (.t 117))] .ret) (sR [oP 119 (.bin .eql (.t 37) (.c (.int .i64 8))),mV 118 119] (.cond (.t 118) (sR [mV 120 0,mV 121 5,oP 122 (.bin .add (.t 121) (.c (.int .i64 1))),oP 123 (.call 77 [.t 120,.t 122]),oP 124 (.build [i0,i0,i0,i0,i0,i0,i0,i0,i0,i0,s0] [(0,(1,.c (.int .i64 5))),(1,(1,.t 123))]),nP (.sto 11 (.t 4) (.t 124))] .ret) (sR [mV 38 0,oP 39 (.call 77 [.t 38,.c (.int .i64 2)]),oP 40 (.bin .add (.c (.int .i64 1)) (.t 39)),mV 41 0,oP 42 (.call 77 [.t 41,.c (.int .i64 9)]),oP 43 (.bin .add (.c (.int .i64 1)) (.t 42)),oP 44 (.build [i0,i0] [(0,(1,.c (.int .i64 6))),(1,(1,.t 43))]),mV 45 0,oP 46 (.call 77 [.t 45,.c (.int .i64 3)]),oP 47 (.bin .add (.c (.int .i64 10)) (.t 46)),oP 48 (.build [i0,i0] [(0,(1,.c (.int .i64 9))),(1,(1,.t 47))]),mV 49 0,oP 50 (.call 77 [.t 49,.c (.int .i64 6)]),oP 51 (.build [i0,i0,i0,i0,i0,i0,s0] [(0,(1,.t 40)),(1,(2,.t 44)),(3,(2,.t 48)),(5,(1,.t 50))]),oP 7 (.alloc 30 [i0,i0,i0,i0,i0,i0,s0]),nP (.sto 7 (.t 7) (.t 51))] (.seq (sR [fD 52 0 7,lD 53 1 52,oP 54 (.bin .eql (.t 53) (.c (.int .i64 1)))] (.cond (.t 54) (.reg [mV 55 0,oP 56 (.call 116 [.t 55,.c (.int .i64 8)]),oP 57 (.bin .add (.t 56) (.c (.str [113]))),fD 58 6 7,nP (.sto 1 (.t 58) (.t 57))]) .skip)) (sR [lA 59 7 7,oP 60 (.build [i0,i0,i0,i0,i0,i0,i0,i0,i0,i0,s0] [(0,(1,.c (.int .i64 6))),(4,(7,.t 59))]),nP (.sto 11 (.t 4) (.t 60))] .ret))))))))))))) (.seq (sR [mV 125 0,oP 126 (.call 77 [.t 125,.c (.int .i64 5)]),oP 127 (.bin .eql (.t 126) (.c i0))] (.cond (.t 127) (.reg [mV 128 0,oP 129 (.call 77 [.t 128,.c (.int .i64 12)]),fD 130 2 6,nP (.sto 1 (.t 130) (.t 129))]) .skip)) (sR [lA 131 11 6,nP (.sto 11 (.t 4) (.t 131))] .ret)))))))
theorem dg121:Dg Tryz.prog 121 Tryz.f121 ic121 [(.cell 4 11 true)]:=⟨Tryz.func121,by kernel_rfl,by kernel_rfl⟩
set_option maxHeartbeats 4000000 in
theorem c121 (code:B) (p:Int) (w:M.World) (hc:code.length≤2000) (hp:0≤p∧p≤300000000) (h1:1≤w.convs.length∧w.convs.length≤1000) (h2:w.nets.length≤1000)
    (h3:∀ c∈w.convs,(0≤c.upAck∧c.upAck≤1000)∧0≤c.downAck∧c.downAck≤1000):FnP Tryz.prog G 121 5 [rdH code p,.arr 107 10 (w.convs.map Conv.row),.arr 82 3 (w.door.map.map Pair.row),.arr 46 8 (w.door.flows.map Flw.row),.arr 30 7 (w.nets.map Pk.row)] [.pv 0 0,.agg [.own 1 w.convs.length,.own 2 w.door.map.length,.own 3 w.door.flows.length,.own 4 w.nets.length]] (evA code p w):=by
  refine mP dg121 Tryz.ntmps121 ⟨_,_,p,by omega,rfl,⟨0,0,0,0,.zero⟩,by simp [Pk.zero],rfl⟩ ?_
  have acks:∀ k:Nat,k<w.convs.length→(0≤(w.convs.getD k default).upAck∧(w.convs.getD k default).upAck≤1000)∧0≤(w.convs.getD k default).downAck∧(w.convs.getD k default).downAck≤1000:=fun k hk=>by
    have:w.convs.getD k default=w.convs[k]:=by simp [List.getD,hk]
    rw [this];exact h3 _ (List.getElem_mem hk)
  clear h3
  simp only [ic121,go_sem,rdH]
  with_reducible repeat' (first|rw [i64w (by omega)];try simp only [go_sem]|refine br ?_ ?_<;>intro h e<;>(try simp only [e,go_sem])<;>clear e|refine sd ?_<;>try simp only [go_sem]|fail)
  · have:=0
    refine pkN code p 7 15 hc fun k k1 k2=>?_
    simp only [go_sem,rdH]
    have k2:=k2 (by omega)
    with_reducible repeat' (first|rw [i64w (by omega)];try simp only [go_sem]|refine br ?_ ?_<;>intro h e<;>(try simp only [e,go_sem])<;>clear e|refine sd ?_<;>try simp only [go_sem]|fail)
    · have:=0
      refine pkN code (p+1) w.nets.length 20 hc fun j j1 j2=>?_
      simp only [go_sem,rdH]
      with_reducible repeat' (first|rw [i64w (by omega)];try simp only [go_sem]|refine br ?_ ?_<;>intro h e<;>(try simp only [e,go_sem])<;>clear e|refine sd ?_<;>try simp only [go_sem]|fail)
      exact finE code p w (p+1+1) ⟨3,j,0,0,.zero⟩
    · obtain ⟨q,hq⟩:∃ q,q=p+1:=⟨_,rfl⟩
      rw [← hq]
      with_reducible repeat' (first|rw [i64w (by omega)];try simp only [go_sem]|refine br ?_ ?_<;>intro h e<;>(try simp only [e,go_sem])<;>clear e|refine sd ?_<;>try simp only [go_sem]|fail)
      refine pkN code q (w.convs.length+1) 27 hc fun a a1 a2=>?_
      simp only [go_sem,rdH]
      have a2:=a2 (by omega)
      with_reducible repeat' (first|rw [i64w (by omega)];try simp only [go_sem]|refine br ?_ ?_<;>intro h e<;>(try simp only [e,go_sem])<;>clear e|refine sd ?_<;>try simp only [go_sem]|fail)
      · have:=0
        refine pkN code (q+1) 10 37 hc fun b b1 b2=>?_
        simp only [go_sem,rdH]
        with_reducible repeat' (first|rw [i64w (by omega)];try simp only [go_sem]|refine br ?_ ?_<;>intro h e<;>(try simp only [e,go_sem])<;>clear e|refine sd ?_<;>try simp only [go_sem]|fail)
        iterate 4
         · have:=0
           have hac:=acks 0 (by omega)
           have hck:0<w.convs.length:=by omega
           try simp only [getD_mp hck,go_sem]
           with_reducible repeat' (first|rw [i64w (by omega)];try simp only [go_sem,getD_mp hck]|refine br ?_ ?_<;>intro h e<;>(try simp only [e,go_sem,getD_mp hck])<;>clear e|refine sd ?_<;>try simp only [go_sem,getD_mp hck]|fail)
           refine pkN code ((q+1)+1) 6 74 hc fun x1 x11 x12=>?_
           simp only [go_sem,rdH]
           have x12:=x12 (by omega)
           have hd5:=div5 x11 x12
           generalize hX:(w.convs.getD 0 default).upAck=X at *
           generalize hY:x1.tdiv 5=Y at *
           have w1:IntKind.i64.wrap Y=Y:=i64w (by omega)
           have w2:IntKind.i64.wrap (Y * 3)=Y * 3:=i64w (by omega)
           have w3:IntKind.i64.wrap (X - Y * 3)=X - Y * 3:=i64w (by omega)
           try simp only [hX,hY,w1,w2,w3,ints6_e,go_sem]
           with_reducible repeat' (first|refine br ?_ ?_<;>intro h e<;>(try simp only [e,go_sem,getD_mp hck,hX,hY,w1,w2,w3,ints6_e])<;>clear e|rw [i64w (by omega)]|refine sd ?_<;>try simp only [go_sem,getD_mp hck,hX,hY,w1,w2,w3,ints6_e]|fail)
           refine pkN code (((q+1)+1)+1) 6 82 hc fun x3 x31 x32=>?_
           simp only [go_sem,rdH]
           have x32:=x32 (by omega)
           have h6:=lt6 x31 x32
           have h6':(x3:Int)<ints6.length:=by omega
           try simp only [getD_mp h6,ints6_e,ints6_l,List.length_map,go_sem]
           with_reducible repeat' (first|refine br ?_ ?_<;>intro h e<;>(try simp only [e,go_sem,getD_mp h6,ints6_e,ints6_l,List.length_map])<;>clear e|rw [i64w (by omega)]|refine sd ?_<;>try simp only [go_sem,getD_mp h6,ints6_e,ints6_l,List.length_map]|fail)
           refine pkN code (((q+1)+1)+1+1) 5 126 hc fun x5 x51 x52=>?_
           simp only [go_sem,rdH]
           have x52:=x52 (by omega)
           with_reducible repeat' (first|rw [i64w (by omega)];try simp only [go_sem]|refine br ?_ ?_<;>intro h e<;>(try simp only [e,go_sem])<;>clear e|refine sd ?_<;>try simp only [go_sem]|fail)
           · have:=0
             refine pkN code ((((q+1)+1)+1+1)+1) 12 129 hc fun x6 x61 x62=>?_
             simp only [go_sem,rdH]
             have x62:=x62 (by omega)
             with_reducible repeat' (first|rw [i64w (by omega)];try simp only [go_sem]|refine br ?_ ?_<;>intro h e<;>(try simp only [e,go_sem])<;>clear e|refine sd ?_<;>try simp only [go_sem]|fail)
             exact finE code p w ((((q+1)+1)+1+1)+1+1) ⟨1,0,x6,(ints6.getD x3.toNat default),.zero⟩
           · exact finE code p w ((((q+1)+1)+1+1)+1) ⟨1,0,(max (X - Y * 3) 0),(ints6.getD x3.toNat default),.zero⟩
        iterate 3
         · have:=0
           have hac:=acks 0 (by omega)
           have hck:0<w.convs.length:=by omega
           try simp only [getD_mp hck,go_sem]
           with_reducible repeat' (first|rw [i64w (by omega)];try simp only [go_sem,getD_mp hck]|refine br ?_ ?_<;>intro h e<;>(try simp only [e,go_sem,getD_mp hck])<;>clear e|refine sd ?_<;>try simp only [go_sem,getD_mp hck]|fail)
           refine pkN code ((q+1)+1) 6 99 hc fun x1 x11 x12=>?_
           simp only [go_sem,rdH]
           have x12:=x12 (by omega)
           have hd5:=div5 x11 x12
           generalize hX:(w.convs.getD 0 default).downAck=X at *
           generalize hY:x1.tdiv 5=Y at *
           have w1:IntKind.i64.wrap Y=Y:=i64w (by omega)
           have w2:IntKind.i64.wrap (Y * 3)=Y * 3:=i64w (by omega)
           have w3:IntKind.i64.wrap (X - Y * 3)=X - Y * 3:=i64w (by omega)
           try simp only [hX,hY,w1,w2,w3,ints6_e,go_sem]
           with_reducible repeat' (first|refine br ?_ ?_<;>intro h e<;>(try simp only [e,go_sem,getD_mp hck,hX,hY,w1,w2,w3,ints6_e])<;>clear e|rw [i64w (by omega)]|refine sd ?_<;>try simp only [go_sem,getD_mp hck,hX,hY,w1,w2,w3,ints6_e]|fail)
           refine pkN code (((q+1)+1)+1) 6 107 hc fun x3 x31 x32=>?_
           simp only [go_sem,rdH]
           have x32:=x32 (by omega)
           have h6:=lt6 x31 x32
           have h6':(x3:Int)<ints6.length:=by omega
           try simp only [getD_mp h6,ints6_e,ints6_l,List.length_map,go_sem]
           with_reducible repeat' (first|refine br ?_ ?_<;>intro h e<;>(try simp only [e,go_sem,getD_mp h6,ints6_e,ints6_l,List.length_map])<;>clear e|rw [i64w (by omega)]|refine sd ?_<;>try simp only [go_sem,getD_mp h6,ints6_e,ints6_l,List.length_map]|fail)
           refine pkN code (((q+1)+1)+1+1) 5 126 hc fun x5 x51 x52=>?_
           simp only [go_sem,rdH]
           have x52:=x52 (by omega)
           with_reducible repeat' (first|rw [i64w (by omega)];try simp only [go_sem]|refine br ?_ ?_<;>intro h e<;>(try simp only [e,go_sem])<;>clear e|refine sd ?_<;>try simp only [go_sem]|fail)
           · have:=0
             refine pkN code ((((q+1)+1)+1+1)+1) 12 129 hc fun x6 x61 x62=>?_
             simp only [go_sem,rdH]
             have x62:=x62 (by omega)
             with_reducible repeat' (first|rw [i64w (by omega)];try simp only [go_sem]|refine br ?_ ?_<;>intro h e<;>(try simp only [e,go_sem])<;>clear e|refine sd ?_<;>try simp only [go_sem]|fail)
             exact finE code p w ((((q+1)+1)+1+1)+1+1) ⟨2,0,x6,(ints6.getD x3.toNat default),.zero⟩
           · exact finE code p w ((((q+1)+1)+1+1)+1) ⟨2,0,(max (X - Y * 3) 0),(ints6.getD x3.toNat default),.zero⟩
        · have:=0
          refine pkN code ((q+1)+1) (w.nets.length+1) 116 hc fun x1 x11 x12=>?_
          simp only [go_sem,rdH]
          with_reducible repeat' (first|rw [i64w (by omega)];try simp only [go_sem]|refine br ?_ ?_<;>intro h e<;>(try simp only [e,go_sem])<;>clear e|refine sd ?_<;>try simp only [go_sem]|fail)
          exact finE code p w (((q+1)+1)+1) ⟨4,x1,0,0,.zero⟩
        · have:=0
          refine pkN code ((q+1)+1) (w.nets.length+1) 123 hc fun x1 x11 x12=>?_
          simp only [go_sem,rdH]
          with_reducible repeat' (first|rw [i64w (by omega)];try simp only [go_sem]|refine br ?_ ?_<;>intro h e<;>(try simp only [e,go_sem])<;>clear e|refine sd ?_<;>try simp only [go_sem]|fail)
          exact finE code p w (((q+1)+1)+1) ⟨5,x1,0,0,.zero⟩
        · have:=0
          refine pkN code ((q+1)+1) 2 39 hc fun x1 x11 x12=>?_
          simp only [go_sem,rdH]
          have x12:=x12 (by omega)
          with_reducible repeat' (first|rw [i64w (by omega)];try simp only [go_sem]|refine br ?_ ?_<;>intro h e<;>(try simp only [e,go_sem])<;>clear e|refine sd ?_<;>try simp only [go_sem]|fail)
          refine pkN code (((q+1)+1)+1) 9 42 hc fun x2 x21 x22=>?_
          simp only [go_sem,rdH]
          have x22:=x22 (by omega)
          with_reducible repeat' (first|rw [i64w (by omega)];try simp only [go_sem]|refine br ?_ ?_<;>intro h e<;>(try simp only [e,go_sem])<;>clear e|refine sd ?_<;>try simp only [go_sem]|fail)
          refine pkN code (((q+1)+1)+1+1) 3 46 hc fun x3 x31 x32=>?_
          simp only [go_sem,rdH]
          have x32:=x32 (by omega)
          with_reducible repeat' (first|rw [i64w (by omega)];try simp only [go_sem]|refine br ?_ ?_<;>intro h e<;>(try simp only [e,go_sem])<;>clear e|refine sd ?_<;>try simp only [go_sem]|fail)
          refine pkN code (((q+1)+1)+1+1+1) 6 50 hc fun x4 x41 x42=>?_
          simp only [go_sem,rdH]
          have x42:=x42 (by omega)
          with_reducible repeat' (first|rw [i64w (by omega)];try simp only [go_sem]|refine br ?_ ?_<;>intro h e<;>(try simp only [e,go_sem])<;>clear e|refine sd ?_<;>try simp only [go_sem]|fail)
          · have:=0
            refine callN (c116 code (((q+1)+1)+1+1+1+1) 8 hc (by omega) (by omega)) [0] [] true 56 1 (by simp only [go_sem,rdH];first|done|simp) (by simp only [go_sem,rdH];first|done|simp) (by simp) (by simp) (by simp) ?_ ?_ ?_
            · rintro _ _ ⟨q',_,_,rfl,_⟩
              exact ⟨by simp,by simp,.inl rfl,fun i hi=>by obtain rfl:i=0:=(by omega);simp [chH,stepOk,rdH]⟩
            · intro i hi;obtain rfl:i=0:=(by omega);simp only [go_sem]
            rintro _ _ ⟨q7,q71,q72,rfl,s,hs,rfl⟩
            simp only [go_sem,rdH]
            with_reducible repeat' (first|rw [i64w (by omega)];try simp only [go_sem]|refine br ?_ ?_<;>intro h e<;>(try simp only [e,go_sem])<;>clear e|refine sd ?_<;>try simp only [go_sem]|fail)
            exact finE code p w q7 ⟨6,0,0,0,⟨1+x1,⟨6,1+x2⟩,⟨9,10+x3⟩,x4,s++[113]⟩⟩
          · exact finE code p w (((q+1)+1)+1+1+1+1) ⟨6,0,0,0,⟨1+x1,⟨6,1+x2⟩,⟨9,10+x3⟩,x4,[]⟩⟩
      · have:=0
        have hal:a.toNat<w.convs.length:=by omega
        refine pkN code (q+1) 10 37 hc fun b b1 b2=>?_
        simp only [go_sem,rdH]
        with_reducible repeat' (first|rw [i64w (by omega)];try simp only [go_sem]|refine br ?_ ?_<;>intro h e<;>(try simp only [e,go_sem])<;>clear e|refine sd ?_<;>try simp only [go_sem]|fail)
        iterate 4
         · have:=0
           have hac:=acks a.toNat (by omega)
           have hck:a.toNat<w.convs.length:=by omega
           try simp only [getD_mp hck,go_sem]
           with_reducible repeat' (first|rw [i64w (by omega)];try simp only [go_sem,getD_mp hck]|refine br ?_ ?_<;>intro h e<;>(try simp only [e,go_sem,getD_mp hck])<;>clear e|refine sd ?_<;>try simp only [go_sem,getD_mp hck]|fail)
           refine pkN code ((q+1)+1) 6 74 hc fun x1 x11 x12=>?_
           simp only [go_sem,rdH]
           have x12:=x12 (by omega)
           have hd5:=div5 x11 x12
           generalize hX:(w.convs.getD a.toNat default).upAck=X at *
           generalize hY:x1.tdiv 5=Y at *
           have w1:IntKind.i64.wrap Y=Y:=i64w (by omega)
           have w2:IntKind.i64.wrap (Y * 3)=Y * 3:=i64w (by omega)
           have w3:IntKind.i64.wrap (X - Y * 3)=X - Y * 3:=i64w (by omega)
           try simp only [hX,hY,w1,w2,w3,ints6_e,go_sem]
           with_reducible repeat' (first|refine br ?_ ?_<;>intro h e<;>(try simp only [e,go_sem,getD_mp hck,hX,hY,w1,w2,w3,ints6_e])<;>clear e|rw [i64w (by omega)]|refine sd ?_<;>try simp only [go_sem,getD_mp hck,hX,hY,w1,w2,w3,ints6_e]|fail)
           refine pkN code (((q+1)+1)+1) 6 82 hc fun x3 x31 x32=>?_
           simp only [go_sem,rdH]
           have x32:=x32 (by omega)
           have h6:=lt6 x31 x32
           have h6':(x3:Int)<ints6.length:=by omega
           try simp only [getD_mp h6,ints6_e,ints6_l,List.length_map,go_sem]
           with_reducible repeat' (first|refine br ?_ ?_<;>intro h e<;>(try simp only [e,go_sem,getD_mp h6,ints6_e,ints6_l,List.length_map])<;>clear e|rw [i64w (by omega)]|refine sd ?_<;>try simp only [go_sem,getD_mp h6,ints6_e,ints6_l,List.length_map]|fail)
           refine pkN code (((q+1)+1)+1+1) 5 126 hc fun x5 x51 x52=>?_
           simp only [go_sem,rdH]
           have x52:=x52 (by omega)
           with_reducible repeat' (first|rw [i64w (by omega)];try simp only [go_sem]|refine br ?_ ?_<;>intro h e<;>(try simp only [e,go_sem])<;>clear e|refine sd ?_<;>try simp only [go_sem]|fail)
           · have:=0
             refine pkN code ((((q+1)+1)+1+1)+1) 12 129 hc fun x6 x61 x62=>?_
             simp only [go_sem,rdH]
             have x62:=x62 (by omega)
             with_reducible repeat' (first|rw [i64w (by omega)];try simp only [go_sem]|refine br ?_ ?_<;>intro h e<;>(try simp only [e,go_sem])<;>clear e|refine sd ?_<;>try simp only [go_sem]|fail)
             exact finE code p w ((((q+1)+1)+1+1)+1+1) ⟨1,a,x6,(ints6.getD x3.toNat default),.zero⟩
           · exact finE code p w ((((q+1)+1)+1+1)+1) ⟨1,a,(max (X - Y * 3) 0),(ints6.getD x3.toNat default),.zero⟩
        iterate 3
         · have:=0
           have hac:=acks a.toNat (by omega)
           have hck:a.toNat<w.convs.length:=by omega
           try simp only [getD_mp hck,go_sem]
           with_reducible repeat' (first|rw [i64w (by omega)];try simp only [go_sem,getD_mp hck]|refine br ?_ ?_<;>intro h e<;>(try simp only [e,go_sem,getD_mp hck])<;>clear e|refine sd ?_<;>try simp only [go_sem,getD_mp hck]|fail)
           refine pkN code ((q+1)+1) 6 99 hc fun x1 x11 x12=>?_
           simp only [go_sem,rdH]
           have x12:=x12 (by omega)
           have hd5:=div5 x11 x12
           generalize hX:(w.convs.getD a.toNat default).downAck=X at *
           generalize hY:x1.tdiv 5=Y at *
           have w1:IntKind.i64.wrap Y=Y:=i64w (by omega)
           have w2:IntKind.i64.wrap (Y * 3)=Y * 3:=i64w (by omega)
           have w3:IntKind.i64.wrap (X - Y * 3)=X - Y * 3:=i64w (by omega)
           try simp only [hX,hY,w1,w2,w3,ints6_e,go_sem]
           with_reducible repeat' (first|refine br ?_ ?_<;>intro h e<;>(try simp only [e,go_sem,getD_mp hck,hX,hY,w1,w2,w3,ints6_e])<;>clear e|rw [i64w (by omega)]|refine sd ?_<;>try simp only [go_sem,getD_mp hck,hX,hY,w1,w2,w3,ints6_e]|fail)
           refine pkN code (((q+1)+1)+1) 6 107 hc fun x3 x31 x32=>?_
           simp only [go_sem,rdH]
           have x32:=x32 (by omega)
           have h6:=lt6 x31 x32
           have h6':(x3:Int)<ints6.length:=by omega
           try simp only [getD_mp h6,ints6_e,ints6_l,List.length_map,go_sem]
           with_reducible repeat' (first|refine br ?_ ?_<;>intro h e<;>(try simp only [e,go_sem,getD_mp h6,ints6_e,ints6_l,List.length_map])<;>clear e|rw [i64w (by omega)]|refine sd ?_<;>try simp only [go_sem,getD_mp h6,ints6_e,ints6_l,List.length_map]|fail)
           refine pkN code (((q+1)+1)+1+1) 5 126 hc fun x5 x51 x52=>?_
           simp only [go_sem,rdH]
           have x52:=x52 (by omega)
           with_reducible repeat' (first|rw [i64w (by omega)];try simp only [go_sem]|refine br ?_ ?_<;>intro h e<;>(try simp only [e,go_sem])<;>clear e|refine sd ?_<;>try simp only [go_sem]|fail)
           · have:=0
             refine pkN code ((((q+1)+1)+1+1)+1) 12 129 hc fun x6 x61 x62=>?_
             simp only [go_sem,rdH]
             have x62:=x62 (by omega)
             with_reducible repeat' (first|rw [i64w (by omega)];try simp only [go_sem]|refine br ?_ ?_<;>intro h e<;>(try simp only [e,go_sem])<;>clear e|refine sd ?_<;>try simp only [go_sem]|fail)
             exact finE code p w ((((q+1)+1)+1+1)+1+1) ⟨2,a,x6,(ints6.getD x3.toNat default),.zero⟩
           · exact finE code p w ((((q+1)+1)+1+1)+1) ⟨2,a,(max (X - Y * 3) 0),(ints6.getD x3.toNat default),.zero⟩
        · have:=0
          refine pkN code ((q+1)+1) (w.nets.length+1) 116 hc fun x1 x11 x12=>?_
          simp only [go_sem,rdH]
          with_reducible repeat' (first|rw [i64w (by omega)];try simp only [go_sem]|refine br ?_ ?_<;>intro h e<;>(try simp only [e,go_sem])<;>clear e|refine sd ?_<;>try simp only [go_sem]|fail)
          exact finE code p w (((q+1)+1)+1) ⟨4,x1,0,0,.zero⟩
        · have:=0
          refine pkN code ((q+1)+1) (w.nets.length+1) 123 hc fun x1 x11 x12=>?_
          simp only [go_sem,rdH]
          with_reducible repeat' (first|rw [i64w (by omega)];try simp only [go_sem]|refine br ?_ ?_<;>intro h e<;>(try simp only [e,go_sem])<;>clear e|refine sd ?_<;>try simp only [go_sem]|fail)
          exact finE code p w (((q+1)+1)+1) ⟨5,x1,0,0,.zero⟩
        · have:=0
          refine pkN code ((q+1)+1) 2 39 hc fun x1 x11 x12=>?_
          simp only [go_sem,rdH]
          have x12:=x12 (by omega)
          with_reducible repeat' (first|rw [i64w (by omega)];try simp only [go_sem]|refine br ?_ ?_<;>intro h e<;>(try simp only [e,go_sem])<;>clear e|refine sd ?_<;>try simp only [go_sem]|fail)
          refine pkN code (((q+1)+1)+1) 9 42 hc fun x2 x21 x22=>?_
          simp only [go_sem,rdH]
          have x22:=x22 (by omega)
          with_reducible repeat' (first|rw [i64w (by omega)];try simp only [go_sem]|refine br ?_ ?_<;>intro h e<;>(try simp only [e,go_sem])<;>clear e|refine sd ?_<;>try simp only [go_sem]|fail)
          refine pkN code (((q+1)+1)+1+1) 3 46 hc fun x3 x31 x32=>?_
          simp only [go_sem,rdH]
          have x32:=x32 (by omega)
          with_reducible repeat' (first|rw [i64w (by omega)];try simp only [go_sem]|refine br ?_ ?_<;>intro h e<;>(try simp only [e,go_sem])<;>clear e|refine sd ?_<;>try simp only [go_sem]|fail)
          refine pkN code (((q+1)+1)+1+1+1) 6 50 hc fun x4 x41 x42=>?_
          simp only [go_sem,rdH]
          have x42:=x42 (by omega)
          with_reducible repeat' (first|rw [i64w (by omega)];try simp only [go_sem]|refine br ?_ ?_<;>intro h e<;>(try simp only [e,go_sem])<;>clear e|refine sd ?_<;>try simp only [go_sem]|fail)
          · have:=0
            refine callN (c116 code (((q+1)+1)+1+1+1+1) 8 hc (by omega) (by omega)) [0] [] true 56 1 (by simp only [go_sem,rdH];first|done|simp) (by simp only [go_sem,rdH];first|done|simp) (by simp) (by simp) (by simp) ?_ ?_ ?_
            · rintro _ _ ⟨q',_,_,rfl,_⟩
              exact ⟨by simp,by simp,.inl rfl,fun i hi=>by obtain rfl:i=0:=(by omega);simp [chH,stepOk,rdH]⟩
            · intro i hi;obtain rfl:i=0:=(by omega);simp only [go_sem]
            rintro _ _ ⟨q7,q71,q72,rfl,s,hs,rfl⟩
            simp only [go_sem,rdH]
            with_reducible repeat' (first|rw [i64w (by omega)];try simp only [go_sem]|refine br ?_ ?_<;>intro h e<;>(try simp only [e,go_sem])<;>clear e|refine sd ?_<;>try simp only [go_sem]|fail)
            exact finE code p w q7 ⟨6,0,0,0,⟨1+x1,⟨6,1+x2⟩,⟨9,10+x3⟩,x4,s++[113]⟩⟩
          · exact finE code p w (((q+1)+1)+1+1+1+1) ⟨6,0,0,0,⟨1+x1,⟨6,1+x2⟩,⟨9,10+x3⟩,x4,[]⟩⟩
  · have:=0
    with_reducible repeat' (first|rw [i64w (by omega)];try simp only [go_sem]|refine br ?_ ?_<;>intro h e<;>(try simp only [e,go_sem])<;>clear e|refine sd ?_<;>try simp only [go_sem]|fail)
    refine pkN code p (w.convs.length+1) 27 hc fun a a1 a2=>?_
    simp only [go_sem,rdH]
    have a2:=a2 (by omega)
    with_reducible repeat' (first|rw [i64w (by omega)];try simp only [go_sem]|refine br ?_ ?_<;>intro h e<;>(try simp only [e,go_sem])<;>clear e|refine sd ?_<;>try simp only [go_sem]|fail)
    · have:=0
      refine pkN code (p+1) 10 37 hc fun b b1 b2=>?_
      simp only [go_sem,rdH]
      with_reducible repeat' (first|rw [i64w (by omega)];try simp only [go_sem]|refine br ?_ ?_<;>intro h e<;>(try simp only [e,go_sem])<;>clear e|refine sd ?_<;>try simp only [go_sem]|fail)
      iterate 4
       · have:=0
         have hac:=acks 0 (by omega)
         have hck:0<w.convs.length:=by omega
         try simp only [getD_mp hck,go_sem]
         with_reducible repeat' (first|rw [i64w (by omega)];try simp only [go_sem,getD_mp hck]|refine br ?_ ?_<;>intro h e<;>(try simp only [e,go_sem,getD_mp hck])<;>clear e|refine sd ?_<;>try simp only [go_sem,getD_mp hck]|fail)
         refine pkN code ((p+1)+1) 6 74 hc fun x1 x11 x12=>?_
         simp only [go_sem,rdH]
         have x12:=x12 (by omega)
         have hd5:=div5 x11 x12
         generalize hX:(w.convs.getD 0 default).upAck=X at *
         generalize hY:x1.tdiv 5=Y at *
         have w1:IntKind.i64.wrap Y=Y:=i64w (by omega)
         have w2:IntKind.i64.wrap (Y * 3)=Y * 3:=i64w (by omega)
         have w3:IntKind.i64.wrap (X - Y * 3)=X - Y * 3:=i64w (by omega)
         try simp only [hX,hY,w1,w2,w3,ints6_e,go_sem]
         with_reducible repeat' (first|refine br ?_ ?_<;>intro h e<;>(try simp only [e,go_sem,getD_mp hck,hX,hY,w1,w2,w3,ints6_e])<;>clear e|rw [i64w (by omega)]|refine sd ?_<;>try simp only [go_sem,getD_mp hck,hX,hY,w1,w2,w3,ints6_e]|fail)
         refine pkN code (((p+1)+1)+1) 6 82 hc fun x3 x31 x32=>?_
         simp only [go_sem,rdH]
         have x32:=x32 (by omega)
         have h6:=lt6 x31 x32
         have h6':(x3:Int)<ints6.length:=by omega
         try simp only [getD_mp h6,ints6_e,ints6_l,List.length_map,go_sem]
         with_reducible repeat' (first|refine br ?_ ?_<;>intro h e<;>(try simp only [e,go_sem,getD_mp h6,ints6_e,ints6_l,List.length_map])<;>clear e|rw [i64w (by omega)]|refine sd ?_<;>try simp only [go_sem,getD_mp h6,ints6_e,ints6_l,List.length_map]|fail)
         refine pkN code (((p+1)+1)+1+1) 5 126 hc fun x5 x51 x52=>?_
         simp only [go_sem,rdH]
         have x52:=x52 (by omega)
         with_reducible repeat' (first|rw [i64w (by omega)];try simp only [go_sem]|refine br ?_ ?_<;>intro h e<;>(try simp only [e,go_sem])<;>clear e|refine sd ?_<;>try simp only [go_sem]|fail)
         · have:=0
           refine pkN code ((((p+1)+1)+1+1)+1) 12 129 hc fun x6 x61 x62=>?_
           simp only [go_sem,rdH]
           have x62:=x62 (by omega)
           with_reducible repeat' (first|rw [i64w (by omega)];try simp only [go_sem]|refine br ?_ ?_<;>intro h e<;>(try simp only [e,go_sem])<;>clear e|refine sd ?_<;>try simp only [go_sem]|fail)
           exact finE code p w ((((p+1)+1)+1+1)+1+1) ⟨1,0,x6,(ints6.getD x3.toNat default),.zero⟩
         · exact finE code p w ((((p+1)+1)+1+1)+1) ⟨1,0,(max (X - Y * 3) 0),(ints6.getD x3.toNat default),.zero⟩
      iterate 3
       · have:=0
         have hac:=acks 0 (by omega)
         have hck:0<w.convs.length:=by omega
         try simp only [getD_mp hck,go_sem]
         with_reducible repeat' (first|rw [i64w (by omega)];try simp only [go_sem,getD_mp hck]|refine br ?_ ?_<;>intro h e<;>(try simp only [e,go_sem,getD_mp hck])<;>clear e|refine sd ?_<;>try simp only [go_sem,getD_mp hck]|fail)
         refine pkN code ((p+1)+1) 6 99 hc fun x1 x11 x12=>?_
         simp only [go_sem,rdH]
         have x12:=x12 (by omega)
         have hd5:=div5 x11 x12
         generalize hX:(w.convs.getD 0 default).downAck=X at *
         generalize hY:x1.tdiv 5=Y at *
         have w1:IntKind.i64.wrap Y=Y:=i64w (by omega)
         have w2:IntKind.i64.wrap (Y * 3)=Y * 3:=i64w (by omega)
         have w3:IntKind.i64.wrap (X - Y * 3)=X - Y * 3:=i64w (by omega)
         try simp only [hX,hY,w1,w2,w3,ints6_e,go_sem]
         with_reducible repeat' (first|refine br ?_ ?_<;>intro h e<;>(try simp only [e,go_sem,getD_mp hck,hX,hY,w1,w2,w3,ints6_e])<;>clear e|rw [i64w (by omega)]|refine sd ?_<;>try simp only [go_sem,getD_mp hck,hX,hY,w1,w2,w3,ints6_e]|fail)
         refine pkN code (((p+1)+1)+1) 6 107 hc fun x3 x31 x32=>?_
         simp only [go_sem,rdH]
         have x32:=x32 (by omega)
         have h6:=lt6 x31 x32
         have h6':(x3:Int)<ints6.length:=by omega
         try simp only [getD_mp h6,ints6_e,ints6_l,List.length_map,go_sem]
         with_reducible repeat' (first|refine br ?_ ?_<;>intro h e<;>(try simp only [e,go_sem,getD_mp h6,ints6_e,ints6_l,List.length_map])<;>clear e|rw [i64w (by omega)]|refine sd ?_<;>try simp only [go_sem,getD_mp h6,ints6_e,ints6_l,List.length_map]|fail)
         refine pkN code (((p+1)+1)+1+1) 5 126 hc fun x5 x51 x52=>?_
         simp only [go_sem,rdH]
         have x52:=x52 (by omega)
         with_reducible repeat' (first|rw [i64w (by omega)];try simp only [go_sem]|refine br ?_ ?_<;>intro h e<;>(try simp only [e,go_sem])<;>clear e|refine sd ?_<;>try simp only [go_sem]|fail)
         · have:=0
           refine pkN code ((((p+1)+1)+1+1)+1) 12 129 hc fun x6 x61 x62=>?_
           simp only [go_sem,rdH]
           have x62:=x62 (by omega)
           with_reducible repeat' (first|rw [i64w (by omega)];try simp only [go_sem]|refine br ?_ ?_<;>intro h e<;>(try simp only [e,go_sem])<;>clear e|refine sd ?_<;>try simp only [go_sem]|fail)
           exact finE code p w ((((p+1)+1)+1+1)+1+1) ⟨2,0,x6,(ints6.getD x3.toNat default),.zero⟩
         · exact finE code p w ((((p+1)+1)+1+1)+1) ⟨2,0,(max (X - Y * 3) 0),(ints6.getD x3.toNat default),.zero⟩
      · have:=0
        refine pkN code ((p+1)+1) (w.nets.length+1) 116 hc fun x1 x11 x12=>?_
        simp only [go_sem,rdH]
        with_reducible repeat' (first|rw [i64w (by omega)];try simp only [go_sem]|refine br ?_ ?_<;>intro h e<;>(try simp only [e,go_sem])<;>clear e|refine sd ?_<;>try simp only [go_sem]|fail)
        exact finE code p w (((p+1)+1)+1) ⟨4,x1,0,0,.zero⟩
      · have:=0
        refine pkN code ((p+1)+1) (w.nets.length+1) 123 hc fun x1 x11 x12=>?_
        simp only [go_sem,rdH]
        with_reducible repeat' (first|rw [i64w (by omega)];try simp only [go_sem]|refine br ?_ ?_<;>intro h e<;>(try simp only [e,go_sem])<;>clear e|refine sd ?_<;>try simp only [go_sem]|fail)
        exact finE code p w (((p+1)+1)+1) ⟨5,x1,0,0,.zero⟩
      · have:=0
        refine pkN code ((p+1)+1) 2 39 hc fun x1 x11 x12=>?_
        simp only [go_sem,rdH]
        have x12:=x12 (by omega)
        with_reducible repeat' (first|rw [i64w (by omega)];try simp only [go_sem]|refine br ?_ ?_<;>intro h e<;>(try simp only [e,go_sem])<;>clear e|refine sd ?_<;>try simp only [go_sem]|fail)
        refine pkN code (((p+1)+1)+1) 9 42 hc fun x2 x21 x22=>?_
        simp only [go_sem,rdH]
        have x22:=x22 (by omega)
        with_reducible repeat' (first|rw [i64w (by omega)];try simp only [go_sem]|refine br ?_ ?_<;>intro h e<;>(try simp only [e,go_sem])<;>clear e|refine sd ?_<;>try simp only [go_sem]|fail)
        refine pkN code (((p+1)+1)+1+1) 3 46 hc fun x3 x31 x32=>?_
        simp only [go_sem,rdH]
        have x32:=x32 (by omega)
        with_reducible repeat' (first|rw [i64w (by omega)];try simp only [go_sem]|refine br ?_ ?_<;>intro h e<;>(try simp only [e,go_sem])<;>clear e|refine sd ?_<;>try simp only [go_sem]|fail)
        refine pkN code (((p+1)+1)+1+1+1) 6 50 hc fun x4 x41 x42=>?_
        simp only [go_sem,rdH]
        have x42:=x42 (by omega)
        with_reducible repeat' (first|rw [i64w (by omega)];try simp only [go_sem]|refine br ?_ ?_<;>intro h e<;>(try simp only [e,go_sem])<;>clear e|refine sd ?_<;>try simp only [go_sem]|fail)
        · have:=0
          refine callN (c116 code (((p+1)+1)+1+1+1+1) 8 hc (by omega) (by omega)) [0] [] true 56 1 (by simp only [go_sem,rdH];first|done|simp) (by simp only [go_sem,rdH];first|done|simp) (by simp) (by simp) (by simp) ?_ ?_ ?_
          · rintro _ _ ⟨q',_,_,rfl,_⟩
            exact ⟨by simp,by simp,.inl rfl,fun i hi=>by obtain rfl:i=0:=(by omega);simp [chH,stepOk,rdH]⟩
          · intro i hi;obtain rfl:i=0:=(by omega);simp only [go_sem]
          rintro _ _ ⟨q7,q71,q72,rfl,s,hs,rfl⟩
          simp only [go_sem,rdH]
          with_reducible repeat' (first|rw [i64w (by omega)];try simp only [go_sem]|refine br ?_ ?_<;>intro h e<;>(try simp only [e,go_sem])<;>clear e|refine sd ?_<;>try simp only [go_sem]|fail)
          exact finE code p w q7 ⟨6,0,0,0,⟨1+x1,⟨6,1+x2⟩,⟨9,10+x3⟩,x4,s++[113]⟩⟩
        · exact finE code p w (((p+1)+1)+1+1+1+1) ⟨6,0,0,0,⟨1+x1,⟨6,1+x2⟩,⟨9,10+x3⟩,x4,[]⟩⟩
    · have:=0
      have hal:a.toNat<w.convs.length:=by omega
      refine pkN code (p+1) 10 37 hc fun b b1 b2=>?_
      simp only [go_sem,rdH]
      with_reducible repeat' (first|rw [i64w (by omega)];try simp only [go_sem]|refine br ?_ ?_<;>intro h e<;>(try simp only [e,go_sem])<;>clear e|refine sd ?_<;>try simp only [go_sem]|fail)
      iterate 4
       · have:=0
         have hac:=acks a.toNat (by omega)
         have hck:a.toNat<w.convs.length:=by omega
         try simp only [getD_mp hck,go_sem]
         with_reducible repeat' (first|rw [i64w (by omega)];try simp only [go_sem,getD_mp hck]|refine br ?_ ?_<;>intro h e<;>(try simp only [e,go_sem,getD_mp hck])<;>clear e|refine sd ?_<;>try simp only [go_sem,getD_mp hck]|fail)
         refine pkN code ((p+1)+1) 6 74 hc fun x1 x11 x12=>?_
         simp only [go_sem,rdH]
         have x12:=x12 (by omega)
         have hd5:=div5 x11 x12
         generalize hX:(w.convs.getD a.toNat default).upAck=X at *
         generalize hY:x1.tdiv 5=Y at *
         have w1:IntKind.i64.wrap Y=Y:=i64w (by omega)
         have w2:IntKind.i64.wrap (Y * 3)=Y * 3:=i64w (by omega)
         have w3:IntKind.i64.wrap (X - Y * 3)=X - Y * 3:=i64w (by omega)
         try simp only [hX,hY,w1,w2,w3,ints6_e,go_sem]
         with_reducible repeat' (first|refine br ?_ ?_<;>intro h e<;>(try simp only [e,go_sem,getD_mp hck,hX,hY,w1,w2,w3,ints6_e])<;>clear e|rw [i64w (by omega)]|refine sd ?_<;>try simp only [go_sem,getD_mp hck,hX,hY,w1,w2,w3,ints6_e]|fail)
         refine pkN code (((p+1)+1)+1) 6 82 hc fun x3 x31 x32=>?_
         simp only [go_sem,rdH]
         have x32:=x32 (by omega)
         have h6:=lt6 x31 x32
         have h6':(x3:Int)<ints6.length:=by omega
         try simp only [getD_mp h6,ints6_e,ints6_l,List.length_map,go_sem]
         with_reducible repeat' (first|refine br ?_ ?_<;>intro h e<;>(try simp only [e,go_sem,getD_mp h6,ints6_e,ints6_l,List.length_map])<;>clear e|rw [i64w (by omega)]|refine sd ?_<;>try simp only [go_sem,getD_mp h6,ints6_e,ints6_l,List.length_map]|fail)
         refine pkN code (((p+1)+1)+1+1) 5 126 hc fun x5 x51 x52=>?_
         simp only [go_sem,rdH]
         have x52:=x52 (by omega)
         with_reducible repeat' (first|rw [i64w (by omega)];try simp only [go_sem]|refine br ?_ ?_<;>intro h e<;>(try simp only [e,go_sem])<;>clear e|refine sd ?_<;>try simp only [go_sem]|fail)
         · have:=0
           refine pkN code ((((p+1)+1)+1+1)+1) 12 129 hc fun x6 x61 x62=>?_
           simp only [go_sem,rdH]
           have x62:=x62 (by omega)
           with_reducible repeat' (first|rw [i64w (by omega)];try simp only [go_sem]|refine br ?_ ?_<;>intro h e<;>(try simp only [e,go_sem])<;>clear e|refine sd ?_<;>try simp only [go_sem]|fail)
           exact finE code p w ((((p+1)+1)+1+1)+1+1) ⟨1,a,x6,(ints6.getD x3.toNat default),.zero⟩
         · exact finE code p w ((((p+1)+1)+1+1)+1) ⟨1,a,(max (X - Y * 3) 0),(ints6.getD x3.toNat default),.zero⟩
      iterate 3
       · have:=0
         have hac:=acks a.toNat (by omega)
         have hck:a.toNat<w.convs.length:=by omega
         try simp only [getD_mp hck,go_sem]
         with_reducible repeat' (first|rw [i64w (by omega)];try simp only [go_sem,getD_mp hck]|refine br ?_ ?_<;>intro h e<;>(try simp only [e,go_sem,getD_mp hck])<;>clear e|refine sd ?_<;>try simp only [go_sem,getD_mp hck]|fail)
         refine pkN code ((p+1)+1) 6 99 hc fun x1 x11 x12=>?_
         simp only [go_sem,rdH]
         have x12:=x12 (by omega)
         have hd5:=div5 x11 x12
         generalize hX:(w.convs.getD a.toNat default).downAck=X at *
         generalize hY:x1.tdiv 5=Y at *
         have w1:IntKind.i64.wrap Y=Y:=i64w (by omega)
         have w2:IntKind.i64.wrap (Y * 3)=Y * 3:=i64w (by omega)
         have w3:IntKind.i64.wrap (X - Y * 3)=X - Y * 3:=i64w (by omega)
         try simp only [hX,hY,w1,w2,w3,ints6_e,go_sem]
         with_reducible repeat' (first|refine br ?_ ?_<;>intro h e<;>(try simp only [e,go_sem,getD_mp hck,hX,hY,w1,w2,w3,ints6_e])<;>clear e|rw [i64w (by omega)]|refine sd ?_<;>try simp only [go_sem,getD_mp hck,hX,hY,w1,w2,w3,ints6_e]|fail)
         refine pkN code (((p+1)+1)+1) 6 107 hc fun x3 x31 x32=>?_
         simp only [go_sem,rdH]
         have x32:=x32 (by omega)
         have h6:=lt6 x31 x32
         have h6':(x3:Int)<ints6.length:=by omega
         try simp only [getD_mp h6,ints6_e,ints6_l,List.length_map,go_sem]
         with_reducible repeat' (first|refine br ?_ ?_<;>intro h e<;>(try simp only [e,go_sem,getD_mp h6,ints6_e,ints6_l,List.length_map])<;>clear e|rw [i64w (by omega)]|refine sd ?_<;>try simp only [go_sem,getD_mp h6,ints6_e,ints6_l,List.length_map]|fail)
         refine pkN code (((p+1)+1)+1+1) 5 126 hc fun x5 x51 x52=>?_
         simp only [go_sem,rdH]
         have x52:=x52 (by omega)
         with_reducible repeat' (first|rw [i64w (by omega)];try simp only [go_sem]|refine br ?_ ?_<;>intro h e<;>(try simp only [e,go_sem])<;>clear e|refine sd ?_<;>try simp only [go_sem]|fail)
         · have:=0
           refine pkN code ((((p+1)+1)+1+1)+1) 12 129 hc fun x6 x61 x62=>?_
           simp only [go_sem,rdH]
           have x62:=x62 (by omega)
           with_reducible repeat' (first|rw [i64w (by omega)];try simp only [go_sem]|refine br ?_ ?_<;>intro h e<;>(try simp only [e,go_sem])<;>clear e|refine sd ?_<;>try simp only [go_sem]|fail)
           exact finE code p w ((((p+1)+1)+1+1)+1+1) ⟨2,a,x6,(ints6.getD x3.toNat default),.zero⟩
         · exact finE code p w ((((p+1)+1)+1+1)+1) ⟨2,a,(max (X - Y * 3) 0),(ints6.getD x3.toNat default),.zero⟩
      · have:=0
        refine pkN code ((p+1)+1) (w.nets.length+1) 116 hc fun x1 x11 x12=>?_
        simp only [go_sem,rdH]
        with_reducible repeat' (first|rw [i64w (by omega)];try simp only [go_sem]|refine br ?_ ?_<;>intro h e<;>(try simp only [e,go_sem])<;>clear e|refine sd ?_<;>try simp only [go_sem]|fail)
        exact finE code p w (((p+1)+1)+1) ⟨4,x1,0,0,.zero⟩
      · have:=0
        refine pkN code ((p+1)+1) (w.nets.length+1) 123 hc fun x1 x11 x12=>?_
        simp only [go_sem,rdH]
        with_reducible repeat' (first|rw [i64w (by omega)];try simp only [go_sem]|refine br ?_ ?_<;>intro h e<;>(try simp only [e,go_sem])<;>clear e|refine sd ?_<;>try simp only [go_sem]|fail)
        exact finE code p w (((p+1)+1)+1) ⟨5,x1,0,0,.zero⟩
      · have:=0
        refine pkN code ((p+1)+1) 2 39 hc fun x1 x11 x12=>?_
        simp only [go_sem,rdH]
        have x12:=x12 (by omega)
        with_reducible repeat' (first|rw [i64w (by omega)];try simp only [go_sem]|refine br ?_ ?_<;>intro h e<;>(try simp only [e,go_sem])<;>clear e|refine sd ?_<;>try simp only [go_sem]|fail)
        refine pkN code (((p+1)+1)+1) 9 42 hc fun x2 x21 x22=>?_
        simp only [go_sem,rdH]
        have x22:=x22 (by omega)
        with_reducible repeat' (first|rw [i64w (by omega)];try simp only [go_sem]|refine br ?_ ?_<;>intro h e<;>(try simp only [e,go_sem])<;>clear e|refine sd ?_<;>try simp only [go_sem]|fail)
        refine pkN code (((p+1)+1)+1+1) 3 46 hc fun x3 x31 x32=>?_
        simp only [go_sem,rdH]
        have x32:=x32 (by omega)
        with_reducible repeat' (first|rw [i64w (by omega)];try simp only [go_sem]|refine br ?_ ?_<;>intro h e<;>(try simp only [e,go_sem])<;>clear e|refine sd ?_<;>try simp only [go_sem]|fail)
        refine pkN code (((p+1)+1)+1+1+1) 6 50 hc fun x4 x41 x42=>?_
        simp only [go_sem,rdH]
        have x42:=x42 (by omega)
        with_reducible repeat' (first|rw [i64w (by omega)];try simp only [go_sem]|refine br ?_ ?_<;>intro h e<;>(try simp only [e,go_sem])<;>clear e|refine sd ?_<;>try simp only [go_sem]|fail)
        · have:=0
          refine callN (c116 code (((p+1)+1)+1+1+1+1) 8 hc (by omega) (by omega)) [0] [] true 56 1 (by simp only [go_sem,rdH];first|done|simp) (by simp only [go_sem,rdH];first|done|simp) (by simp) (by simp) (by simp) ?_ ?_ ?_
          · rintro _ _ ⟨q',_,_,rfl,_⟩
            exact ⟨by simp,by simp,.inl rfl,fun i hi=>by obtain rfl:i=0:=(by omega);simp [chH,stepOk,rdH]⟩
          · intro i hi;obtain rfl:i=0:=(by omega);simp only [go_sem]
          rintro _ _ ⟨q7,q71,q72,rfl,s,hs,rfl⟩
          simp only [go_sem,rdH]
          with_reducible repeat' (first|rw [i64w (by omega)];try simp only [go_sem]|refine br ?_ ?_<;>intro h e<;>(try simp only [e,go_sem])<;>clear e|refine sd ?_<;>try simp only [go_sem]|fail)
          exact finE code p w q7 ⟨6,0,0,0,⟨1+x1,⟨6,1+x2⟩,⟨9,10+x3⟩,x4,s++[113]⟩⟩
        · exact finE code p w (((p+1)+1)+1+1+1+1) ⟨6,0,0,0,⟨1+x1,⟨6,1+x2⟩,⟨9,10+x3⟩,x4,[]⟩⟩
def ic178:IC:=sR [oP 6 (.mv (.c s0)),oP 7 (.mv (.c (.bool false)))] (sR [mV 9 0,oP 10 (.lens (.t 9)),mV 8 10] (.seq (sR [mV 11 1,mV 12 8,bN 13 .gtr 11 12,mV 14 13,⟨some 15,some (14,false),.mv (.t 1)⟩,⟨some 16,some (14,false),.mv (.t 2)⟩,⟨some 17,some (14,false),.lens (.t 16)⟩,⟨some 18,some (14,false),.bin .add (.t 15) (.t 17)⟩,⟨some 19,some (14,false),.bin .gtr (.t 18) (.c (.int .i64 40))⟩,oP 20 (.pick (.t 14) (.c (.bool true)) (.t 19))] (.cond (.t 20) (sR [mV 21 0,mV 6 21,oP 7 (.mv (.c (.bool false)))] .ret) .skip)) (.seq (sR [mV 22 1,mV 23 2,oP 24 (.lens (.t 23)),bN 25 .add 22 24,mV 26 8,bN 27 .leq 25 26] (.cond (.t 27) (sR [mV 28 0,mV 6 28,oP 7 (.mv (.c (.bool true)))] .ret) .skip)) (sR [mV 29 0,mV 30 2,mV 31 8,mV 32 1,bN 33 .sub 31 32,oP 34 (.sls (.t 30) (some (.t 33)) none),bN 35 .add 29 34,mV 6 35,oP 7 (.mv (.c (.bool true)))] .ret))))
theorem dg178:Dg Tryz.prog 178 Tryz.f178 ic178 [(.t 6),(.t 7)]:=⟨Tryz.func178,by kernel_rfl,by kernel_rfl⟩
theorem c178 (came:B) (n:Int) (text:B) (hn:0≤n∧n≤1000) (hc:came.length≤1000) (ht:text.length≤1000):FnR Tryz.prog G 178 [.str came,.int .i64 n,.str text] (.tup [.str (behind came n text).1,.bool (behind came n text).2]):=by
  refine mF dg178 Tryz.ntmps178 ?_
  simp only [ic178,go_sem]
  with_reducible repeat' (first|rw [i64w (by omega)];try simp only [go_sem]|refine br ?_ ?_<;>intro h e<;>(try simp only [e,go_sem])<;>clear e|refine sd ?_<;>try simp only [go_sem]|fail)
  · have:behind came n text=(came,false):=by
      unfold behind;rw [if_pos (by simp;omega)]
    rw [this];exact ⟨rfl,rfl⟩
  · have:behind came n text=(came,false):=by
      unfold behind;rw [if_pos (by simp;omega)]
    rw [this];exact ⟨rfl,rfl⟩
  · have:behind came n text=(came,true):=by
      unfold behind;rw [if_neg (by simp;omega),if_pos (by omega)]
    rw [this];exact ⟨rfl,rfl⟩
  · refine pureG (by simp;omega) ?_
    simp only [go_sem]
    have:behind came n text=(came++text.drop (came.length - n).toNat,true):=by
      unfold behind;rw [if_neg (by simp;omega),if_neg (by omega)]
    rw [this,List.take_length];exact ⟨rfl,rfl⟩
def ic153:IC:=sR [oP 2 (.mv (.c (.bool false)))] (sR [mV 3 0,oP 4 (.call 69 [.t 3]),mV 5 4,⟨some 6,some (5,true),.mv (.t 0)⟩,⟨some 7,some (5,true),.lens (.t 6)⟩,⟨some 8,some (5,true),.bin .leq (.t 7) (.c (.int .i64 24))⟩,oP 9 (.pick (.t 5) (.t 8) (.c (.bool false))),mV 10 9,⟨some 11,some (10,true),.mv (.t 0)⟩,⟨some 12,some (10,true),.call 142 [.t 11]⟩,⟨some 13,some (10,true),.bin .eql (.t 12) (.c i0)⟩,oP 14 (.pick (.t 10) (.t 13) (.c (.bool false))),mV 2 14] .ret)
theorem dg153:Dg Tryz.prog 153 Tryz.f153 ic153 [(.t 2)]:=⟨Tryz.func153,by kernel_rfl,by kernel_rfl⟩
theorem c153 (t:B) (hl:t.length≤2000000):FnR Tryz.prog G 153 [.str t] (.bool (saying t)):=by
  refine mF dg153 Tryz.ntmps153 ?_
  simp only [ic153,go_sem]
  have c1:=c69 t hl
  have c2:=c142 t hl
  with_reducible repeat' (first|refine br ?_ ?_<;>intro h e<;>(try simp only [e,go_sem])<;>clear e|rw [i64w (by omega)]|refine sd ?_<;>try simp only [go_sem]|(first|refine cr (c1 ..) ?_|refine cr (c2 ..) ?_)<;>try simp only [go_sem]|fail)
  all_goals simp_all [saying]
  all_goals omega
def ic154:IC:=sR [oP 2 (.mv (.c (.bool false)))] (sR [mV 5 0,oP 6 (.call 165 [.t 5]),mV 3 6] (.seq (sR [oP 4 (.mv (.c i0))] (.block 0 (.loop (.seq (sR [mV 7 4,mV 8 3,oP 9 (.len (.t 8)),bN 10 .lss 7 9] (.cond (.t 10) .skip (.exit 0))) (.seq (.block 1 (sR [mV 13 3,mV 14 4,oP 15 (.iad 2 (.t 13) (.t 14)),lA 16 2 15,oP 17 (.call 27 [.t 16])] (.cond (.t 17) (sR [oP 2 (.mv (.c (.bool false)))] .ret) .skip))) (.reg [mV 11 4,oP 12 (.bin .add (.t 11) (.c (.int .i64 1))),mV 4 12])))))) (sR [oP 2 (.mv (.c (.bool true)))] .ret)))
theorem dg154:Dg Tryz.prog 154 Tryz.f154 ic154 [(.t 2)]:=⟨Tryz.func154,by kernel_rfl,by kernel_rfl⟩
theorem c154 (t:B) (hl:t.length≤2000000):FnR Tryz.prog G 154 [.str t] (.bool (ownT t)):=by
  refine mF dg154 Tryz.ntmps154 ?_
  simp only [ic154,go_sem]
  refine callR (c165 t hl) rfl rfl ?_
  simp only [go_sem]
  have hnl:(textNames t).length≤2000000:=by
    have h1:=textPieces_len t
    have h2:=names_le (textPieces t)
    unfold textNames;omega
  unfold ownT
  generalize textNames t=l at *
  refine loopN (fun i:Nat=>⟨getL [(3,.sl 2 (l.map E.row)),(4,.int .i64 (i:Int))],getH []⟩) (fun i=>l.length - i) (fun i=>i≤l.length∧(l.take i).any E.door=false) 0 (leQ []) ⟨Nat.zero_le _,by simp⟩ ?_
  intro i ⟨hi,ha⟩
  simp only [go_sem]
  by_cases h:(i:Int)<l.length
  · simp only [eq_true h,go_sem]
    have hil:i<l.length:=by omega
    have hg:l.getD i default=l[i]:=by simp [List.getD,hil]
    refine effG (by omega) ?_
    simp only [hg,go_sem]
    with_reducible repeat' (first|refine br ?_ ?_<;>intro h e<;>(try simp only [e,go_sem,hg])<;>clear e|rw [i64w (by omega)]|refine sd ?_<;>try simp only [go_sem,hg]|(first|refine cr (c27 ..) ?_)<;>try simp only [go_sem,hg]|fail)
    · have:l.any E.door=true:=List.any_eq_true.2 ⟨_,List.getElem_mem hil,by assumption⟩
      rw [this];rfl
    · refine ⟨i+1,by omega,⟨by omega, ?_⟩,(leQ [])⟩
      rw [List.take_add_one,List.getElem?_eq_getElem hil]
      simp only [Option.toList_some,List.any_append,ha,List.any_cons,List.any_nil,Bool.or_false,Bool.false_or]
      assumption
  · simp only [eq_false h,go_sem]
    have:i=l.length:=by omega
    subst this
    rw [List.take_length] at ha
    rw [ha];rfl
def ic136:IC:=sR [oP 4 (.box 28 (.t 0)),oP 5 (.box 28 (.t 1)),oP 8 (.alloc 107 [i0,i0,i0,i0,s0,s0,i0,i0,s0,s0]),oP 9 (.mv (.c (.bool false)))] (.seq (sR [lA 10 2 4,oP 11 (.call 50 [.t 10]),oP 12 (.un .not (.t 11)),mV 13 12,⟨some 14,some (13,false),.ld 2 true (.t 5)⟩,⟨some 15,some (13,false),.call 26 [.t 14]⟩,⟨some 16,some (13,false),.un .not (.t 15)⟩,oP 17 (.pick (.t 13) (.c (.bool true)) (.t 16)),mV 18 17,⟨some 19,some (18,false),.mv (.t 2)⟩,⟨some 20,some (18,false),.call 153 [.t 19]⟩,⟨some 21,some (18,false),.un .not (.t 20)⟩,oP 22 (.pick (.t 18) (.c (.bool true)) (.t 21)),mV 23 22,⟨some 24,some (23,false),.mv (.t 2)⟩,⟨some 25,some (23,false),.call 154 [.t 24]⟩,⟨some 26,some (23,false),.un .not (.t 25)⟩,oP 27 (.pick (.t 23) (.c (.bool true)) (.t 26)),mV 28 27,⟨some 29,some (28,false),.mv (.t 3)⟩,⟨some 30,some (28,false),.call 153 [.t 29]⟩,⟨some 31,some (28,false),.un .not (.t 30)⟩,oP 32 (.pick (.t 28) (.c (.bool true)) (.t 31))] (.cond (.t 32) (sR [oP 33 (.build [i0,i0,i0,i0,s0,s0,i0,i0,s0,s0] []),nP (.sto 10 (.t 8) (.t 33)),oP 9 (.mv (.c (.bool false)))] .ret) .skip)) (sR [lA 34 2 4,lA 35 2 5,mV 36 2,mV 37 3,oP 38 (.build [i0,i0,i0,i0,s0,s0,i0,i0,s0,s0] [(0,(2,.t 34)),(2,(2,.t 35)),(4,(1,.t 36)),(5,(1,.t 37))]),nP (.sto 10 (.t 8) (.t 38)),oP 9 (.mv (.c (.bool true)))] .ret))
theorem dg136:Dg Tryz.prog 136 Tryz.f136 ic136 [(.cell 8 10 true),(.t 9)]:=⟨Tryz.func136,by kernel_rfl,by kernel_rfl⟩
theorem c136 (i o:E) (up down:B) (h1:up.length≤2000000) (h2:down.length≤2000000):FnR Tryz.prog G 136 [.agg [.int .i64 i.a,.int .i64 i.p],.agg [.int .i64 o.a,.int .i64 o.p],.str up,.str down]
    (.tup [.agg (Conv.row ((convNew i o up down).getD .zero)),.bool (convNew i o up down).isSome]):=by
  refine mF dg136 Tryz.ntmps136 ?_
  simp only [ic136,go_sem]
  have c1:=c153 up h1
  have c2:=c153 down h2
  have c3:=c154 up h1
  with_reducible repeat' (first|refine br ?_ ?_<;>intro h e<;>(try simp only [e,go_sem])<;>clear e|rw [i64w (by omega)]|refine sd ?_<;>try simp only [go_sem]|(first|refine cr (c50 ..) ?_|refine cr (c26 ..) ?_|refine cr (c1 ..) ?_|refine cr (c2 ..) ?_|refine cr (c3 ..) ?_)<;>try simp only [go_sem]|fail)
  all_goals simp_all [convNew,Conv.zero,E.zero]
def ic155:IC:=sR [oP 1 (.box 107 (.t 0)),oP 2 (.mv (.c (.bool false)))] (sR [fD 6 0 1,lA 7 2 6,fD 8 2 1,lA 9 2 8,fD 10 4 1,lD 11 1 10,fD 12 5 1,lD 13 1 12,oP 14 (.call 136 [.t 7,.t 9,.t 11,.t 13]),mV 5 14,eX 15 5 0,eX 16 5 1,oP 3 (.alloc 107 [i0,i0,i0,i0,s0,s0,i0,i0,s0,s0]),nP (.sto 10 (.t 3) (.t 15)),mV 4 16] (sR [mV 17 4,mV 18 17,⟨some 19,some (18,true),.fad 6 (.t 1)⟩,⟨some 20,some (18,true),.ld 1 false (.t 19)⟩,⟨some 21,some (18,true),.fad 4 (.t 1)⟩,⟨some 22,some (18,true),.ld 1 false (.t 21)⟩,⟨some 23,some (18,true),.lens (.t 22)⟩,⟨some 24,some (18,true),.call 68 [.t 20,.c i0,.t 23]⟩,oP 25 (.pick (.t 18) (.t 24) (.c (.bool false))),mV 26 25,⟨some 27,some (26,true),.fad 7 (.t 1)⟩,⟨some 28,some (26,true),.ld 1 false (.t 27)⟩,⟨some 29,some (26,true),.fad 5 (.t 1)⟩,⟨some 30,some (26,true),.ld 1 false (.t 29)⟩,⟨some 31,some (26,true),.lens (.t 30)⟩,⟨some 32,some (26,true),.call 68 [.t 28,.c i0,.t 31]⟩,oP 33 (.pick (.t 26) (.t 32) (.c (.bool false))),mV 34 33,⟨some 35,some (34,true),.fad 8 (.t 1)⟩,⟨some 36,some (34,true),.ld 1 false (.t 35)⟩,⟨some 37,some (34,true),.call 69 [.t 36]⟩,oP 38 (.pick (.t 34) (.t 37) (.c (.bool false))),mV 39 38,⟨some 40,some (39,true),.fad 9 (.t 1)⟩,⟨some 41,some (39,true),.ld 1 false (.t 40)⟩,⟨some 42,some (39,true),.call 69 [.t 41]⟩,oP 43 (.pick (.t 39) (.t 42) (.c (.bool false))),mV 2 43] .ret))
theorem dg155:Dg Tryz.prog 155 Tryz.f155 ic155 [(.t 2)]:=⟨Tryz.func155,by kernel_rfl,by kernel_rfl⟩
theorem c155 (c:Conv) (h1:c.up.length≤2000000) (h2:c.down.length≤2000000) (h3:c.upGot.length≤2000000) (h4:c.downGot.length≤2000000):FnR Tryz.prog G 155 [.agg [.int .i64 c.ins.a,.int .i64 c.ins.p,.int .i64 c.out.a,.int .i64 c.out.p,.str c.up,.str c.down,.int .i64 c.upAck,.int .i64 c.downAck,.str c.upGot,.str c.downGot]] (.bool (convOk c)):=by
  refine mF dg155 Tryz.ntmps155 ?_
  simp only [ic155,go_sem]
  refine callR (c136 c.ins c.out c.up c.down h1 h2) rfl rfl ?_
  simp only [go_sem]
  have c1:=c69 c.upGot h3
  have c2:=c69 c.downGot h4
  with_reducible repeat' (first|refine br ?_ ?_<;>intro h e<;>(try simp only [e,go_sem])<;>clear e|rw [i64w (by omega)]|refine sd ?_<;>try simp only [go_sem]|(first|refine cr (c68 ..) ?_|refine cr (c1 ..) ?_|refine cr (c2 ..) ?_)<;>try simp only [go_sem]|fail)
  all_goals simp_all [convOk]
theorem take_drop_len {t:B} {n k:Int} (hn:0≤n) (hk:0≤k):(t.take (n+k).toNat).drop n.toNat=(t.drop n.toNat).take k.toNat:=by
  rw [List.drop_take];congr 1;omega
theorem say_no {c:Conv} {up:Bool} {port n m:Int} (h:within n 0 ((bif up then c.up else c.down).length - 1)=false∨m<1∨(up=false∧(⟨9,port⟩:E).door=false)):say c up port n m=none:=by
  unfold say
  cases up<;>simp only [cond_true,cond_false] at h<;>simp only [Bool.false_eq_true,if_false,if_true]<;>rw [if_neg]<;>simp only [Bool.and_eq_true,decide_eq_true_eq,not_and,Bool.or_eq_true,Bool.false_eq_true,false_or,true_or,not_true_eq_false]
  · rintro ⟨h1,h2⟩ h3
    rcases h with h|h|h
    · rw [h1] at h;cases h
    · omega
    · rw [h.2] at h3;cases h3
  · rintro h1
    rcases h with h|h|h
    · rw [h1.1] at h;cases h
    · omega
    · cases h.1
theorem say_yes {c:Conv} {up:Bool} {port n m:Int} (h1:within n 0 ((bif up then c.up else c.down).length - 1)=true) (h2:1≤m) (h3:up=true∨(⟨9,port⟩:E).door=true) :
    say c up port n m=some (bif up then ⟨1,c.ins,c.out,n,(c.up.drop n.toNat).take (min m (c.up.length - n)).toNat⟩ else ⟨1,c.out,⟨9,port⟩,n,(c.down.drop n.toNat).take (min m (c.down.length - n)).toNat⟩):=by
  unfold say
  cases up<;>simp only [cond_true,cond_false] at h1 ⊢<;>simp only [Bool.false_eq_true,if_false,if_true]<;>rw [if_pos]
  · simp only [h1,Bool.true_and,Bool.and_eq_true,decide_eq_true_eq,Bool.false_or]
    exact ⟨h2,h3.resolve_left (by simp)⟩
  · simp only [h1,Bool.true_and,Bool.and_eq_true,decide_eq_true_eq,Bool.true_or,and_true]
    exact h2
def ic89:IC:=sR [oP 5 (.box 107 (.t 0)),oP 10 (.alloc 30 [i0,i0,i0,i0,i0,i0,s0]),oP 11 (.mv (.c (.bool false)))] (sR [fD 14 0 5,lA 15 2 14,fD 16 2 5,lA 17 2 16,mV 18 3,oP 19 (.build [i0,i0,i0,i0,i0,i0,s0] [(0,(1,.c (.int .i64 1))),(1,(2,.t 15)),(3,(2,.t 17)),(5,(1,.t 18))]),oP 12 (.alloc 30 [i0,i0,i0,i0,i0,i0,s0]),nP (.sto 7 (.t 12) (.t 19))] (sR [fD 20 4 5,lD 21 1 20,mV 13 21] (.seq (sR [mV 22 1,oP 23 (.un .not (.t 22))] (.cond (.t 23) (sR [fD 24 2 5,lA 25 2 24,fD 26 1 12,nP (.sto 2 (.t 26) (.t 25))] (sR [mV 27 2,oP 28 (.build [i0,i0] [(0,(1,.c (.int .i64 9))),(1,(1,.t 27))]),fD 29 3 12,nP (.sto 2 (.t 29) (.t 28))] (.reg [fD 30 5 5,lD 31 1 30,mV 13 31]))) .skip)) (.seq (sR [mV 32 3,mV 33 13,oP 34 (.lens (.t 33)),oP 35 (.bin .sub (.t 34) (.c (.int .i64 1))),oP 36 (.call 68 [.t 32,.c i0,.t 35]),oP 37 (.un .not (.t 36)),mV 38 37,⟨some 39,some (38,false),.mv (.t 4)⟩,⟨some 40,some (38,false),.bin .lss (.t 39) (.c (.int .i64 1))⟩,oP 41 (.pick (.t 38) (.c (.bool true)) (.t 40)),mV 42 41,⟨some 43,some (42,false),.mv (.t 1)⟩,⟨some 44,some (42,false),.un .not (.t 43)⟩,⟨some 45,some (42,false),.mv (.t 44)⟩,⟨some 46,some (45,true),.fad 3 (.t 12)⟩,⟨some 47,some (45,true),.ld 2 true (.t 46)⟩,⟨some 48,some (45,true),.call 27 [.t 47]⟩,⟨some 49,some (45,true),.un .not (.t 48)⟩,⟨some 50,some (42,false),.pick (.t 45) (.t 49) (.c (.bool false))⟩,oP 51 (.pick (.t 42) (.c (.bool true)) (.t 50))] (.cond (.t 51) (sR [oP 52 (.build [i0,i0,i0,i0,i0,i0,s0] []),nP (.sto 7 (.t 10) (.t 52)),oP 11 (.mv (.c (.bool false)))] .ret) .skip)) (sR [mV 53 13,mV 54 3,mV 55 3,mV 56 4,mV 57 13,oP 58 (.lens (.t 57)),mV 59 3,bN 60 .sub 58 59,oP 61 (.mn (.t 56) (.t 60)),bN 62 .add 55 61,oP 63 (.sls (.t 53) (some (.t 54)) (some (.t 62))),fD 64 6 12,nP (.sto 1 (.t 64) (.t 63))] (sR [lA 65 7 12,nP (.sto 7 (.t 10) (.t 65)),oP 11 (.mv (.c (.bool true)))] .ret))))))
theorem dg89:Dg Tryz.prog 89 Tryz.f89 ic89 [(.cell 10 7 true),(.t 11)]:=⟨Tryz.func89,by kernel_rfl,by kernel_rfl⟩
theorem c89 (c:Conv) (up:Bool) (port n m:Int) (h1:c.up.length≤2000000) (h2:c.down.length≤2000000):FnR Tryz.prog G 89 [.agg [.int .i64 c.ins.a,.int .i64 c.ins.p,.int .i64 c.out.a,.int .i64 c.out.p,.str c.up,.str c.down,.int .i64 c.upAck,.int .i64 c.downAck,.str c.upGot,.str c.downGot],.bool up,.int .i64 port,.int .i64 n,.int .i64 m]
    (.tup [.agg (Pk.row ((say c up port n m).getD .zero)),.bool (say c up port n m).isSome]):=by
  refine mF dg89 Tryz.ntmps89 ?_
  simp only [ic89,go_sem]
  cases up<;>simp only [go_sem]
  · have hno:=fun h=>say_no (c:=c) (up:=false) (port:=port) (n:=n) (m:=m) h
    have hyes:=fun h1 h2 h3=>say_yes (c:=c) (up:=false) (port:=port) (n:=n) (m:=m) h1 h2 h3
    simp only [cond_false,true_and,Bool.false_eq_true,false_or] at hno hyes
    rw [i64w (by omega)]
    refine callR (c68 n 0 ((c.down.length:Int) - 1)) rfl rfl ?_
    cases hw:within n 0 ((c.down.length:Int) - 1)<;>simp only [go_sem]
    · rw [hno (.inl hw)];simp [Pk.zero,E.zero]
    have hw2:=M.within_iff.1 hw
    have w1:IntKind.i64.wrap ((c.down.length:Int) - n)=c.down.length - n:=i64w (by omega)
    have w2:1≤m→IntKind.i64.wrap (n+min m ((c.down.length:Int) - n))=n+min m ((c.down.length:Int) - n):=fun _=>i64w (by omega)
    with_reducible repeat' (first|refine br ?_ ?_<;>intro h e<;>(try simp only [e,go_sem,w1])<;>clear e|rw [i64w (by omega)]|refine sd ?_<;>try simp only [go_sem,w1]|(first|refine cr (c27 ..) ?_)<;>try simp only [go_sem,w1]|fail)
    · rw [hno (.inr (.inl (by assumption)))];simp [Pk.zero,E.zero]
    · rw [hyes hw (by omega) (by assumption),take_drop_len (by omega) (by omega)]
      simp
    · rw [hno (.inr (.inr (by assumption)))];simp [Pk.zero,E.zero]
  · have hno:=fun h=>say_no (c:=c) (up:=true) (port:=port) (n:=n) (m:=m) h
    have hyes:=fun h1 h2 h3=>say_yes (c:=c) (up:=true) (port:=port) (n:=n) (m:=m) h1 h2 h3
    simp only [cond_true,true_or,true_implies,Bool.true_eq_false,false_and,or_false] at hno hyes
    rw [i64w (by omega)]
    refine callR (c68 n 0 ((c.up.length:Int) - 1)) rfl rfl ?_
    cases hw:within n 0 ((c.up.length:Int) - 1)<;>simp only [go_sem]
    · rw [hno (.inl hw)];simp [Pk.zero,E.zero]
    have hw2:=M.within_iff.1 hw
    have w1:IntKind.i64.wrap ((c.up.length:Int) - n)=c.up.length - n:=i64w (by omega)
    have w2:1≤m→IntKind.i64.wrap (n+min m ((c.up.length:Int) - n))=n+min m ((c.up.length:Int) - n):=fun _=>i64w (by omega)
    with_reducible repeat' (first|refine br ?_ ?_<;>intro h e<;>(try simp only [e,go_sem,w1])<;>clear e|rw [i64w (by omega)]|refine sd ?_<;>try simp only [go_sem,w1]|(first|refine cr (c27 ..) ?_)<;>try simp only [go_sem,w1]|fail)
    · rw [hno (.inr (by assumption))];simp [Pk.zero,E.zero]
    · rw [hyes hw (by omega),take_drop_len (by omega) (by omega)]
      simp
def worldA (w:M.World) (r:V) (out:List Hs):Prop:=r=.agg [.own 0 w.convs.length,.own 1 w.door.map.length,.own 2 w.door.flows.length,.own 3 w.nets.length]∧out=[.arr 107 10 (w.convs.map Conv.row),.arr 82 3 (w.door.map.map Pair.row),.arr 46 8 (w.door.flows.map Flw.row),.arr 30 7 (w.nets.map Pk.row)]
theorem worldRet {w:M.World} {l:List (Nat × V)} {mm:List (Nat × Hs)} {d c:Nat} (n0 n1 n2 n3:Nat) (h4:getL l d=.pv c 0)
    (m4:getH mm c=.var 66 [.own n0 w.convs.length,.own n1 w.door.map.length,.own n2 w.door.flows.length,.own n3 w.nets.length])
    (m0:getH mm n0=.arr 107 10 (w.convs.map Conv.row)) (m1:getH mm n1=.arr 82 3 (w.door.map.map Pair.row)) (m2:getH mm n2=.arr 46 8 (w.door.flows.map Flw.row)) (m3:getH mm n3=.arr 30 7 (w.nets.map Pk.row))
    (hne:[n0,n1,n2,n3].Nodup):retQ [.cell d 4 true] 0 (worldA w) .ret ⟨getL l,getH mm⟩:=by
  refine retN (.agg [.own 0 w.convs.length,.own 1 w.door.map.length,.own 2 w.door.flows.length,.own 3 w.nets.length]) [.arr 107 10 (w.convs.map Conv.row),.arr 82 3 (w.door.map.map Pair.row),.arr 46 8 (w.door.flows.map Flw.row),.arr 30 7 (w.nets.map Pk.row)] [(0,n0),(1,n1),(2,n2),(3,n3)] ?_ ⟨rfl,rfl⟩ ?_ (by simpa [argH,getN] using hne) (by simp only [go_sem])
  · simp only [go_sem,h4,m4]
  · simp only [go_sem,m0,m1,m2,m3]
theorem opt_b (o:Option Pk):(bif o.isSome then some (o.getD .zero) else none)=o:=by cases o<;>rfl
def ic90:IC:=sR [oP 2 (.box 66 (.t 0)),oP 3 (.box 28 (.t 1)),oP 4 (.mv (.c i0))] (.seq (sR [oP 5 (.mv (.c i0))] (.block 0 (.loop (.seq (sR [mV 6 5,fD 7 1 2,fD 8 0 7,lD 9 1 8,oP 10 (.len (.t 9)),bN 11 .lss 6 10] (.cond (.t 11) .skip (.exit 0))) (.seq (.block 1 (.seq (.drw [0,1,3,0,15,31,63,0,255] [(0,fD 14 1 2),(1,fD 15 0 14),(2,lD 16 1 15),(3,mV 17 5),(4,oP 18 (.iad 3 (.t 16) (.t 17))),(5,fD 19 1 18),(6,lA 20 2 19),(7,lA 21 2 3),(8,oP 22 (.eqs false [.i,.i] (.t 20) (.t 21)))]) (.cond (.t 22) (sR [fD 23 1 2,fD 24 0 23,lD 25 1 24,mV 26 5,oP 27 (.iad 3 (.t 25) (.t 26)),fD 28 0 27,lD 29 1 28,mV 4 29] .ret) .skip))) (.reg [mV 12 5,oP 13 (.bin .add (.t 12) (.c (.int .i64 1))),mV 5 13])))))) (sR [oP 4 (.mv (.c i0))] .ret))
theorem dg90:Dg Tryz.prog 90 Tryz.f90 ic90 [(.t 4)]:=⟨Tryz.func90,by kernel_rfl,by kernel_rfl⟩
theorem c90 (w:M.World) (i:E) (hl:w.door.map.length≤2000000):FnR Tryz.prog G 90 [.agg [.sl 10 (w.convs.map Conv.row),.sl 3 (w.door.map.map Pair.row),.sl 8 (w.door.flows.map Flw.row),.sl 7 (w.nets.map Pk.row)],.agg [.int .i64 i.a,.int .i64 i.p]] (.int .i64 (portOf w.door.map i)):=by
  refine mF dg90 Tryz.ntmps90 ?_
  simp only [ic90,go_sem]
  refine loopN (fun k:Nat=>⟨getL [(2,.pv 1002 0),(3,.pv 1003 0),(5,.int .i64 (k:Int))],getH [(1002,.var 66 [.sl 10 (w.convs.map Conv.row),.sl 3 (w.door.map.map Pair.row),.sl 8 (w.door.flows.map Flw.row),.sl 7 (w.nets.map Pk.row)]),(1003,.var 28 [.int .i64 i.a,.int .i64 i.p])]⟩) (fun k=>w.door.map.length - k)
    (fun k=>k≤w.door.map.length∧portOf w.door.map i=portOf (w.door.map.drop k) i) 0 (leQ []) ⟨Nat.zero_le _,by simp⟩ ?_
  intro k ⟨hk,ha⟩
  simp only [go_sem]
  by_cases h:(k:Int)<w.door.map.length
  · have hil:k<w.door.map.length:=by omega
    have hg:w.door.map.getD k default=w.door.map[k]:=by simp [List.getD,hil]
    rw [List.drop_eq_getElem_cons hil,portOf_cons] at ha
    simp only [eq_true h,go_sem]
    with_reducible repeat' (first|refine br ?_ ?_<;>intro h e<;>(try simp only [e,go_sem,hg,E.ext_iff'])<;>clear e|rw [i64w (by omega)]|refine sd ?_<;>try simp only [go_sem,hg,E.ext_iff']|fail)
    · rw [if_pos (by assumption)] at ha
      rw [ha]
    · rw [if_neg (by assumption)] at ha
      exact ⟨k+1,by omega,⟨by omega,ha⟩,(leQ [])⟩
  · simp only [eq_false h,go_sem]
    have:k=w.door.map.length:=by omega
    subst this
    rw [ha,List.drop_length];rfl
def ic141:IC:=sR [oP 2 (.box 66 (.t 0)),oP 3 (.box 30 (.t 1)),oP 4 (.mv (.c (.bool false)))] (.seq (sR [oP 5 (.mv (.c i0))] (.block 0 (.loop (.seq (sR [mV 6 5,fD 7 0 2,lD 8 1 7,oP 9 (.len (.t 8)),bN 10 .lss 6 9] (.cond (.t 10) .skip (.exit 0))) (.seq (.block 1 (.seq (.drw [0,1,0,7,15,31,0,64,255] [(0,fD 13 0 2),(1,lD 14 1 13),(2,mV 15 5),(3,oP 16 (.iad 10 (.t 14) (.t 15))),(4,fD 17 2 16),(5,lA 18 2 17),(6,fD 19 1 3),(7,lA 20 2 19),(8,oP 21 (.eqs false [.i,.i] (.t 18) (.t 20)))]) (.cond (.t 21) (sR [oP 4 (.mv (.c (.bool false)))] .ret) .skip))) (.reg [mV 11 5,oP 12 (.bin .add (.t 11) (.c (.int .i64 1))),mV 5 12])))))) (sR [lA 22 7 3,oP 23 (.call 25 [.t 22]),mV 24 23,⟨some 25,some (24,true),.fad 1 (.t 3)⟩,⟨some 26,some (24,true),.ld 2 true (.t 25)⟩,⟨some 27,some (24,true),.call 26 [.t 26]⟩,oP 28 (.pick (.t 24) (.t 27) (.c (.bool false))),mV 29 28,⟨some 30,some (29,true),.fad 3 (.t 3)⟩,⟨some 31,some (29,true),.ld 2 true (.t 30)⟩,⟨some 32,some (29,true),.call 27 [.t 31]⟩,oP 33 (.pick (.t 29) (.t 32) (.c (.bool false))),mV 4 33] .ret))
theorem dg141:Dg Tryz.prog 141 Tryz.f141 ic141 [(.t 4)]:=⟨Tryz.func141,by kernel_rfl,by kernel_rfl⟩
theorem c141 (w:M.World) (p:Pk) (hl:w.convs.length≤2000000) (ht:p.text.length≤2000000):FnR Tryz.prog G 141 [.agg [.sl 10 (w.convs.map Conv.row),.sl 3 (w.door.map.map Pair.row),.sl 8 (w.door.flows.map Flw.row),.sl 7 (w.nets.map Pk.row)],.agg [.int .i64 p.kind,.int .i64 p.frm.a,.int .i64 p.frm.p,.int .i64 p.to.a,.int .i64 p.to.p,.int .i64 p.at_,.str p.text]] (.bool (stranger w p)):=by
  refine mF dg141 Tryz.ntmps141 ?_
  simp only [ic141,go_sem]
  refine loopN (fun k:Nat=>⟨getL [(2,.pv 1002 0),(3,.pv 1003 0),(5,.int .i64 (k:Int))],getH [(1002,.var 66 [.sl 10 (w.convs.map Conv.row),.sl 3 (w.door.map.map Pair.row),.sl 8 (w.door.flows.map Flw.row),.sl 7 (w.nets.map Pk.row)]),(1003,.var 30 [.int .i64 p.kind,.int .i64 p.frm.a,.int .i64 p.frm.p,.int .i64 p.to.a,.int .i64 p.to.p,.int .i64 p.at_,.str p.text])]⟩) (fun k=>w.convs.length - k)
    (fun k=>k≤w.convs.length∧(w.convs.take k).any (fun c=>decide (c.out=p.frm))=false) 0 (leQ []) ⟨Nat.zero_le _,by simp⟩ ?_
  intro k ⟨hk,ha⟩
  simp only [go_sem]
  by_cases h:(k:Int)<w.convs.length
  · have hil:k<w.convs.length:=by omega
    have hg:w.convs.getD k default=w.convs[k]:=by simp [List.getD,hil]
    simp only [eq_true h,go_sem]
    with_reducible repeat' (first|refine br ?_ ?_<;>intro h e<;>(try simp only [e,go_sem,hg,E.ext_iff'])<;>clear e|rw [i64w (by omega)]|refine sd ?_<;>try simp only [go_sem,hg,E.ext_iff']|fail)
    · have:w.convs.any (fun c=>decide (c.out=p.frm))=true:=List.any_eq_true.2 ⟨_,List.getElem_mem hil,by simpa using (by assumption)⟩
      simp [stranger,this]
    · refine ⟨k+1,by omega,⟨by omega, ?_⟩,(leQ [])⟩
      rw [List.take_add_one,List.getElem?_eq_getElem hil]
      simp only [Option.toList_some,List.any_append,ha,List.any_cons,List.any_nil,Bool.or_false,Bool.false_or,decide_eq_false_iff_not]
      assumption
  · simp only [eq_false h,go_sem]
    have:k=w.convs.length:=by omega
    subst this
    rw [List.take_length] at ha
    have c1:=c25 p ht
    with_reducible repeat' (first|refine br ?_ ?_<;>intro h e<;>(try simp only [e,go_sem])<;>clear e|rw [i64w (by omega)]|refine sd ?_<;>try simp only [go_sem]|(first|refine cr (c1 ..) ?_|refine cr (c26 ..) ?_|refine cr (c27 ..) ?_)<;>try simp only [go_sem]|fail)
    all_goals simp_all [stranger,Pk.inward]
theorem say_port (c:Conv) (port n m:Int):say c true port n m=say c true 0 n m:=rfl
def ic138:IC:=sR [oP 2 (.box 66 (.t 0)),oP 3 (.box 144 (.t 1)),oP 4 (.alloc 30 [i0,i0,i0,i0,i0,i0,s0]),oP 5 (.mv (.c (.bool false)))] (.seq (sR [fD 7 1 3,lD 8 1 7,fD 9 0 2,lD 10 1 9,oP 11 (.len (.t 10)),oP 12 (.bin .sub (.t 11) (.c (.int .i64 1))),oP 13 (.call 68 [.t 8,.c i0,.t 12]),oP 14 (.un .not (.t 13))] (.cond (.t 14) (sR [oP 15 (.build [i0,i0,i0,i0,i0,i0,s0] []),nP (.sto 7 (.t 4) (.t 15)),oP 5 (.mv (.c (.bool false)))] .ret) .skip)) (sR [fD 16 0 2,lD 17 1 16,fD 18 1 3,lD 19 1 18,oP 20 (.iad 10 (.t 17) (.t 19)),lA 21 10 20,oP 6 (.alloc 107 [i0,i0,i0,i0,s0,s0,i0,i0,s0,s0]),nP (.sto 10 (.t 6) (.t 21))] (.seq (.drw [0,0,2,6,0,0,32,112,0,256,0,1024,4095,8191,8191,32767,65535] [(0,lA 22 10 6),(1,fD 23 0 3),(2,lD 24 1 23),(3,oP 25 (.bin .eql (.t 24) (.c (.int .i64 1)))),(4,lA 26 4 2),(5,fD 27 0 6),(6,lA 28 2 27),(7,oP 29 (.call 90 [.t 26,.t 28])),(8,fD 30 2 3),(9,lD 31 1 30),(10,fD 32 3 3),(11,lD 33 1 32),(12,oP 34 (.call 89 [.t 22,.t 25,.t 29,.t 31,.t 33])),(13,eX 35 34 0),(14,eX 36 34 1),(15,nP (.sto 7 (.t 4) (.t 35))),(16,mV 5 36)]) .ret)))
theorem dg138:Dg Tryz.prog 138 Tryz.f138 ic138 [(.cell 4 7 true),(.t 5)]:=⟨Tryz.func138,by kernel_rfl,by kernel_rfl⟩
theorem c138 (w:M.World) (e:Ev) (hm:w.door.map.length≤2000000) (hc:w.convs.length≤2000000) (ht:∀ c∈w.convs,c.up.length≤2000000∧c.down.length≤2000000):FnR Tryz.prog G 138 [.agg [.sl 10 (w.convs.map Conv.row),.sl 3 (w.door.map.map Pair.row),.sl 8 (w.door.flows.map Flw.row),.sl 7 (w.nets.map Pk.row)],.agg [.int .i64 e.kind,.int .i64 e.a,.int .i64 e.b,.int .i64 e.c,.int .i64 e.pkt.kind,.int .i64 e.pkt.frm.a,.int .i64 e.pkt.frm.p,.int .i64 e.pkt.to.a,.int .i64 e.pkt.to.p,.int .i64 e.pkt.at_,.str e.pkt.text]]
    (.tup [.agg (Pk.row ((sayW w (decide (e.kind=1)) e.a e.b e.c).getD .zero)),.bool (sayW w (decide (e.kind=1)) e.a e.b e.c).isSome]):=by
  refine mF dg138 Tryz.ntmps138 ?_
  simp only [ic138,go_sem]
  generalize hw:within e.a 0 ((w.convs.length:Int) - 1)=b
  have hw2:b=true→0≤e.a∧e.a≤(w.convs.length:Int) - 1:=fun h=>M.within_iff.1 (hw.trans h)
  rw [i64w (by omega)]
  refine callR (c68 e.a 0 ((w.convs.length:Int) - 1)) rfl rfl ?_
  rw [hw]
  cases b<;>simp only [go_sem]
  · have:sayW w (decide (e.kind=1)) e.a e.b e.c=none:=by simp [sayW,hw]
    rw [this]
    simp [Pk.zero,E.zero]
  have hw2:=hw2 rfl
  have hil:e.a.toNat<w.convs.length:=by omega
  have hg:w.convs.getD e.a.toNat default=w.convs[e.a.toNat]:=by simp [List.getD,hil]
  have hcv:=ht _ (List.getElem_mem hil)
  have hx:sayW w (decide (e.kind=1)) e.a e.b e.c=say w.convs[e.a.toNat] (decide (e.kind=1)) (portOf w.door.map w.convs[e.a.toNat].ins) e.b e.c:=by
    simp only [sayW,hw,if_true,List.getElem?_eq_getElem hil]
    cases decide (e.kind=1)
    · rfl
    · simp only [cond_true];rw [say_port _ (portOf _ _)]
  rw [hx]
  generalize hcc:w.convs[e.a.toNat]=c at *
  have p1:=c90 w c.ins hm
  have p2:=c89 c (decide (e.kind=1)) (portOf w.door.map c.ins) e.b e.c hcv.1 hcv.2
  with_reducible repeat' (first|refine br ?_ ?_<;>intro h e<;>(try simp only [e,go_sem,hg])<;>clear e|rw [i64w (by omega)]|refine sd ?_<;>try simp only [go_sem,hg]|(first|refine cr (p1 ..) ?_|refine cr (p2 ..) ?_)<;>try simp only [go_sem,hg]|fail)
def ic139:IC:=sR [oP 3 (.box 66 (.t 0)),oP 4 (.box 30 (.t 1)),oP 6 (.alloc 66 [.nils,.nils,.nils,.nils])] (.seq (sR [mV 7 2,mV 8 7,⟨some 9,some (8,true),.fad 3 (.t 3)⟩,⟨some 10,some (8,true),.ld 1 false (.t 9)⟩,⟨some 11,some (8,true),.len (.t 10)⟩,⟨some 12,some (8,true),.bin .lss (.t 11) (.c (.int .i64 10))⟩,oP 13 (.pick (.t 8) (.t 12) (.c (.bool false)))] (.cond (.t 13) (.reg [fD 14 3 3,lD 15 1 14,lA 16 7 4,oP 17 (.bsl 30 7 [.t 16]),oP 18 (.app 30 7 (.t 15) (.t 17)),fD 19 3 3,nP (.sto 1 (.t 19) (.t 18))]) .skip)) (sR [lA 20 4 3,nP (.sto 4 (.t 6) (.t 20))] .ret))
theorem dg139:Dg Tryz.prog 139 Tryz.f139 ic139 [(.cell 6 4 true)]:=⟨Tryz.func139,by kernel_rfl,by kernel_rfl⟩
theorem c139 (w:M.World) (p:Pk) (ok:Bool) (hn:w.nets.length≤2000000):FnP Tryz.prog G 139 0 [.arr 107 10 (w.convs.map Conv.row),.arr 82 3 (w.door.map.map Pair.row),.arr 46 8 (w.door.flows.map Flw.row),.arr 30 7 (w.nets.map Pk.row)] [.agg [.own 0 w.convs.length,.own 1 w.door.map.length,.own 2 w.door.flows.length,.own 3 w.nets.length],.agg [.int .i64 p.kind,.int .i64 p.frm.a,.int .i64 p.frm.p,.int .i64 p.to.a,.int .i64 p.to.p,.int .i64 p.at_,.str p.text],.bool ok] (worldA (send w (bif ok then some p else none))):=by
  refine mP dg139 Tryz.ntmps139 ⟨_,_,rfl,rfl⟩ ?_
  simp only [ic139,go_sem]
  have hno:send w none=w:=rfl
  have hfull:¬ w.nets.length<10→send w (some p)=w:=fun h=>by simp only [send];rw [if_neg h]
  cases ok<;>simp only [go_sem]
  · rw [hno]
    exact worldRet (c:=1006) 0 1 2 3 (by simp only [go_sem]) (by simp only [go_sem]) (by simp only [go_sem]) (by simp only [go_sem]) (by simp only [go_sem]) (by simp only [go_sem]) (by decide)
  with_reducible repeat' (first|refine br ?_ ?_<;>intro h e<;>(try simp only [e,go_sem])<;>clear e|rw [i64w (by omega)]|refine sd ?_<;>try simp only [go_sem]|fail)
  · have hx:send w (some p)={ w with nets:=w.nets++[p] }:=by simp only [send];rw [if_pos (by omega)]
    rw [hx]
    refine worldRet (c:=1006) 0 1 2 1018 (by simp only [go_sem]) (by simp only [go_sem];simp) (by simp only [go_sem]) (by simp only [go_sem]) (by simp only [go_sem]) (by simp only [go_sem];simp [Pk.row]) (by decide)
  · rw [hfull (by omega)]
    exact worldRet (c:=1006) 0 1 2 3 (by simp only [go_sem]) (by simp only [go_sem]) (by simp only [go_sem]) (by simp only [go_sem]) (by simp only [go_sem]) (by simp only [go_sem]) (by decide)
def doorA (x:Door × Option Pk) (r:V) (out:List Hs):Prop :=
  r=.tup [.agg [.own 0 x.1.map.length,.own 1 x.1.flows.length],.agg (Pk.row (x.2.getD .zero)),.bool x.2.isSome]∧out=[.arr 82 3 (x.1.map.map Pair.row),.arr 46 8 (x.1.flows.map Flw.row)]
theorem doorRet {x:Door × Option Pk} {l:List (Nat × V)} {mm:List (Nat × Hs)} {d:Door} {q:Option Pk} (n0 n1:Nat) (hx:x=(d,q)) (h4:getL l 4=.pv 1004 0) (h5:getL l 5=.pv 1005 0) (h6:getL l 6=.bool q.isSome)
    (m4:getH mm 1004=.var 26 [.own n0 d.map.length,.own n1 d.flows.length]) (m5:getH mm 1005=.var 30 (Pk.row (q.getD .zero))) (m0:getH mm n0=.arr 82 3 (d.map.map Pair.row)) (m1:getH mm n1=.arr 46 8 (d.flows.map Flw.row)) (hne:n0≠n1) :
    retQ [.cell 4 2 true,.cell 5 7 true,.t 6] 0 (doorA x) .ret ⟨getL l,getH mm⟩:=by
  subst hx
  refine retN (.tup [.agg [.own 0 d.map.length,.own 1 d.flows.length],.agg (Pk.row (q.getD .zero)),.bool q.isSome]) [.arr 82 3 (d.map.map Pair.row),.arr 46 8 (d.flows.map Flw.row)] [(0,n0),(1,n1)] ?_ ⟨rfl,rfl⟩ ?_ (by simp [argH,getN,hne]) (by simp only [go_sem])
  · simp only [go_sem,h4,h5,h6,m4,m5]
  · simp only [go_sem,m0,m1]
def ic51:IC:=sR [oP 2 (.box 26 (.t 0)),oP 3 (.box 30 (.t 1)),oP 4 (.alloc 26 [.nils,.nils]),oP 5 (.alloc 30 [i0,i0,i0,i0,i0,i0,s0]),oP 6 (.mv (.c (.bool false)))] (sR [lA 18 2 2,fD 19 1 3,lA 20 2 19,fD 21 3 3,lA 22 2 21,oP 23 (.call 91 [.t 18,.t 20,.t 22]),mV 17 23,eX 24 17 0,eX 25 17 1,eX 26 17 2,nP (.sto 2 (.t 2) (.t 24)),mV 7 25,mV 8 26] (.seq (sR [mV 27 8,oP 28 (.un .not (.t 27))] (.cond (.t 28) (sR [lA 29 2 2,oP 30 (.build [i0,i0,i0,i0,i0,i0,s0] []),nP (.sto 2 (.t 4) (.t 29)),nP (.sto 7 (.t 5) (.t 30)),oP 6 (.mv (.c (.bool false)))] .ret) .skip)) (sR [fD 32 0 2,lD 33 1 32,fD 34 1 3,lA 35 2 34,oP 36 (.call 92 [.t 33,.t 35]),mV 31 36,eX 37 31 0,eX 38 31 1,eX 39 31 2,mV 9 37,mV 10 38,mV 11 39] (sR [mV 40 10,oP 41 (.build [i0,i0] [(0,(1,.c (.int .i64 9))),(1,(1,.t 40))]),oP 12 (.alloc 28 [i0,i0]),nP (.sto 2 (.t 12) (.t 41))] (sR [fD 42 1 2,lD 43 1 42,mV 44 7,oP 45 (.iad 8 (.t 43) (.t 44)),lA 46 8 45,oP 13 (.alloc 46 [i0,i0,i0,i0,s0,.nils,s0,.nils]),nP (.sto 8 (.t 13) (.t 46))] (.seq (sR [fD 47 0 3,lD 48 1 47,oP 49 (.bin .eql (.t 48) (.c (.int .i64 2)))] (.cond (.t 49) (.seq (.seq (.drw [0,1,0,4,12,28,63] [(0,fD 50 5 3),(1,lD 51 1 50),(2,fD 52 6 13),(3,lA 53 2 52),(4,oP 54 (.call 93 [.t 53])),(5,oP 55 (.lens (.t 54))),(6,bN 56 .gtr 51 55)]) (.cond (.t 56) (sR [lA 57 2 2,oP 58 (.build [i0,i0,i0,i0,i0,i0,s0] []),nP (.sto 2 (.t 4) (.t 57)),nP (.sto 7 (.t 5) (.t 58)),oP 6 (.mv (.c (.bool false)))] .ret) .skip)) (.seq (.drw [0,0,0,4,0,16,0,64,240,510,497,2047,4095] [(0,lA 59 2 2),(1,lA 60 2 12),(2,fD 61 3 3),(3,lA 62 2 61),(4,fD 63 6 13),(5,lA 64 2 63),(6,fD 65 5 3),(7,lD 66 1 65),(8,oP 67 (.call 94 [.t 64,.t 66])),(9,oP 68 (.build [i0,i0,i0,i0,i0,i0,s0] [(0,(1,.c (.int .i64 2))),(1,(2,.t 60)),(3,(2,.t 62)),(5,(1,.t 67))])),(10,nP (.sto 2 (.t 4) (.t 59))),(11,nP (.sto 7 (.t 5) (.t 68))),(12,oP 6 (.mv (.c (.bool true))))]) .ret)) .skip)) (sR [fD 70 0 2,lD 71 1 70,fD 72 4 13,lA 73 2 72,fD 74 5 3,lD 75 1 74,fD 76 6 3,lD 77 1 76,oP 78 (.call 95 [.t 71,.t 73,.t 75,.t 77,.c (.bool true)]),mV 69 78,eX 79 69 0,eX 80 69 1,eX 81 69 2,oP 15 (.alloc 44 [s0,.nils]),mV 14 79,nP (.sto 2 (.t 15) (.t 80)),mV 8 81] (.seq (sR [mV 82 8,oP 83 (.un .not (.t 82))] (.cond (.t 83) (sR [lA 84 2 2,oP 85 (.build [i0,i0,i0,i0,i0,i0,s0] []),nP (.sto 2 (.t 4) (.t 84)),nP (.sto 7 (.t 5) (.t 85)),oP 6 (.mv (.c (.bool false)))] .ret) .skip)) (sR [fD 87 4 13,lA 88 2 87,lA 89 2 15,lA 90 7 3,oP 91 (.call 96 [.t 88,.t 89,.t 90]),mV 86 91,eX 92 86 0,eX 93 86 1,oP 16 (.alloc 30 [i0,i0,i0,i0,i0,i0,s0]),nP (.sto 7 (.t 16) (.t 92)),mV 8 93] (sR [lA 94 2 15,fD 95 4 13,nP (.sto 2 (.t 95) (.t 94))] (sR [mV 96 14,fD 97 0 2,nP (.sto 1 (.t 97) (.t 96))] (sR [fD 98 1 2,lD 99 1 98,mV 100 7,lA 101 8 13,oP 102 (.iad 8 (.t 99) (.t 100)),nP (.sto 8 (.t 102) (.t 101))] (.seq (sR [mV 103 8,oP 104 (.un .not (.t 103))] (.cond (.t 104) (sR [lA 105 2 2,oP 106 (.build [i0,i0,i0,i0,i0,i0,s0] []),nP (.sto 2 (.t 4) (.t 105)),nP (.sto 7 (.t 5) (.t 106)),oP 6 (.mv (.c (.bool false)))] .ret) .skip)) (sR [lA 107 2 12,fD 108 1 16,nP (.sto 2 (.t 108) (.t 107))] (.seq (.drw [0,0,1,7,15] [(0,lA 109 2 2),(1,lA 110 7 16),(2,nP (.sto 2 (.t 4) (.t 109))),(3,nP (.sto 7 (.t 5) (.t 110))),(4,oP 6 (.mv (.c (.bool true))))]) .ret)))))))))))))))
theorem dg51:Dg Tryz.prog 51 Tryz.f51 ic51 [(.cell 4 2 true),(.cell 5 7 true),(.t 6)]:=⟨Tryz.func51,by kernel_rfl,by kernel_rfl⟩
theorem c51 (d:Door) (p:Pk) (hd:doorOk d=true) (hl:d.flows.length≤3) (hp:PkP p) (hi:p.frm.inside=true) (ho:p.to.outside=true):FnP Tryz.prog G 51 0 [.arr 82 3 (d.map.map Pair.row),.arr 46 8 (d.flows.map Flw.row)]
    [.agg [.own 0 d.map.length,.own 1 d.flows.length],.agg [.int .i64 p.kind,.int .i64 p.frm.a,.int .i64 p.frm.p,.int .i64 p.to.a,.int .i64 p.to.p,.int .i64 p.at_,.str p.text]] (doorA (dOut d p)):=by
  refine mP dg51 Tryz.ntmps51 ⟨_,_,rfl,rfl⟩ ?_
  have hm:=(doorOk_iff.1 hd).1
  have hyes:=fun ok=>openR_ok hd hi ho ok
  have hout:=fun ok=>dOut_yes (p:=p) ok (hyes ok).kl
  have hno:=fun ok=>dOut_no (d:=d) (p:=p) ok
  have hno':=fun ok=>openR_no (d:=d) (i:=p.frm) (o:=p.to) ok
  simp only [ic51,go_sem]
  refine callU (c91 d p.frm p.to hm hl) [0,1] [] 23 2 (by simp only [go_sem];first|done|simp) (by simp only [go_sem];first|done|simp) (by simp) (by simp) (by rintro _ _ ⟨rfl,rfl⟩;simp) (by intro i hi;rcases (show i=0∨i=1 by omega) with rfl|rfl<;>simp only [go_sem]) ?_
  rintro _ _ ⟨rfl,rfl⟩
  simp only [go_sem]
  generalize hx:openR d p.frm p.to=x at *
  obtain ⟨x,k,ok⟩:=x
  simp only at hyes hout hno hno'
  cases ok<;>simp only [go_sem]
  · refine doorRet 102300 102301 (hno rfl) ?_ ?_ ?_ ?_ ?_ ?_ ?_ (by decide)<;>simp only [go_sem,hno' rfl,Option.isSome_none,Option.getD_none,Pk.zero,E.zero]
  obtain ⟨x1,x2,x3,x4,x5,x6,x7,x8⟩:=hyes rfl
  rw [hout rfl]
  obtain ⟨xp,xl⟩:=mapOk_ports x1
  have hmo:=mOut_found (fun p h=>(xp p h).1) x2
  clear hyes hout hno hno'
  refine callN (c92 x.map p.frm.a p.frm.p xp (by omega)) [102300] [] true 36 2 (by simp only [go_sem];first|done|simp) (by simp only [go_sem];first|done|simp) (by simp) (by simp) (by simp) ?_ ?_ ?_
  · rintro res out (⟨_,rfl,rfl⟩|⟨rfl,rfl,_⟩)
    · exact ⟨by simp,by simp,.inl rfl,fun i hi=>by obtain rfl:i=0:=(by omega);simp [chH,stepOk]⟩
    · exact ⟨by simp,by simp,.inl rfl,fun i hi=>by obtain rfl:i=0:=(by omega);simp [chH,stepOk]⟩
  · intro i hi
    have:i=0∨i=1:=by omega
    rcases this with rfl|rfl<;>simp only [go_sem]
  intro res out hoA
  obtain ⟨_,rfl,rfl⟩:=hoA.resolve_right (fun h3=>h3.2.2.2 (by rw [hmo]))
  simp only [go_sem,hmo]
  have hg:x.flows.getD k default=Flw.at x k:=rfl
  rw [hg] at x6 x7
  have s1:=strmOk_B x6
  have s2:=strmOk_B x7
  have so:=sOut_len s2
  have hpa:=hp.at_
  have hpl:=hp.len
  have f1:=c93 (Flw.at x k).down s2
  have f2:=c94 (Flw.at x k).down p.at_ s2 (by omega)
  generalize hpo:portOf x.map p.frm=po at *
  with_reducible repeat' (first|refine br ?_ ?_<;>intro h e<;>(try simp only [e,go_sem,getD_mp x4,hg])<;>clear e|rw [i64w (by omega)]|refine sd ?_<;>try simp only [go_sem,getD_mp x4,hg]|(first|refine cr (f1 ..) ?_|refine cr (f2 ..) ?_)<;>try simp only [go_sem,getD_mp x4,hg]|fail)
  · have:outK x k p=(x,none):=by
      simp only [outK];rw [if_pos (by assumption),if_pos (by omega)]
    refine doorRet 102300 102301 this ?_ ?_ ?_ ?_ ?_ ?_ ?_ (by decide)<;>simp only [go_sem,Option.isSome_none,Option.getD_none,Pk.zero,E.zero]
  · have:outK x k p=(x,some ⟨2,⟨9,po⟩,p.to,backP (Flw.at x k).down.parts p.at_,[]⟩):=by
      simp only [outK,hpo];rw [if_pos (by assumption),if_neg (by omega)]
    refine doorRet 102300 102301 this ?_ ?_ ?_ ?_ ?_ ?_ ?_ (by decide)<;>simp only [go_sem,Option.isSome_some,Option.getD_some]
  have hpo2:PutOk x.map (Flw.at x k).up p.at_ p.text:=⟨x1,x6,hpa,hpl⟩
  refine callN (c95T x.map (Flw.at x k).up p.at_ p.text hpo2) [102300] [] true 78 2 (by simp only [go_sem];first|done|simp) (by simp only [go_sem];first|done|simp) (by simp) (by simp) (by simp) ?_ ?_ ?_
  · rintro res out (⟨_,rfl,rfl⟩|⟨_,rfl,rfl⟩)
    · exact ⟨by simp,by simp,.inl rfl,fun i hi=>by obtain rfl:i=0:=(by omega);simp [chH,stepOk]⟩
    · exact ⟨by simp,by simp,.inl rfl,fun i hi=>by obtain rfl:i=0:=(by omega);simp [chH,stepOk]⟩
  · intro i hi
    have:i=0∨i=1:=by omega
    rcases this with rfl|rfl<;>simp only [go_sem]
  have htx:=hp.tx.resolve_left (by assumption)
  have hpk:=put_ok (m:=x.map) (s:=(Flw.at x k).up) (n:=p.at_) (t:=p.text) (out:=true) x1 x6 htx hpa.1
  have hko:outK x k p=if (put x.map (Flw.at x k).up p.at_ p.text true).2.2=false then (x,none)
      else (⟨(put x.map (Flw.at x k).up p.at_ p.text true).1,x.flows.set k { Flw.at x k with up:=(put x.map (Flw.at x k).up p.at_ p.text true).2.1 }⟩,
        (sendOn (Flw.at x k).up (put x.map (Flw.at x k).up p.at_ p.text true).2.1 p).map fun q=>{ q with frm:=⟨9,po⟩ }):=by
    simp only [outK,hpo];rw [if_neg (by assumption)]
  rintro res out (⟨h,rfl,rfl⟩|⟨h,rfl,rfl⟩)
  · generalize hP:put x.map (Flw.at x k).up p.at_ p.text true=P at *
    obtain ⟨m',s',ok'⟩:=P
    simp only at h hpk hko
    subst h
    cases ok'<;>simp only [go_sem]
    · rw [if_pos rfl] at hko
      with_reducible repeat' (first|refine br ?_ ?_<;>intro h e<;>(try simp only [e,go_sem])<;>clear e|rw [i64w (by omega)]|refine sd ?_<;>try simp only [go_sem]|fail)
      refine doorRet 102300 102301 hko ?_ ?_ ?_ ?_ ?_ ?_ ?_ (by decide)<;>simp only [go_sem,Option.isSome_none,Option.getD_none,Pk.zero,E.zero]
    rw [if_neg (by simp),sendR_on] at hko
    have f3:=c96 (Flw.at x k).up s' p (strmOk_B hpk.2) (by have:=s1.1;omega) (by omega) (by omega)
    generalize hS:sendR (Flw.at x k).up s' p=S at *
    obtain ⟨q,okq⟩:=S
    simp only at hko
    cases okq
    all_goals
      with_reducible repeat' (first|refine br ?_ ?_<;>intro h e<;>(try simp only [e,go_sem])<;>clear e|rw [i64w (by omega)]|refine sd ?_<;>try simp only [go_sem]|(first|refine cr (f3 ..) ?_)<;>try simp only [go_sem]|fail)
    · refine doorRet (d:=⟨x.map,x.flows.set k { Flw.at x k with up:=s' }⟩) (q:=none) 102300 102301 (by rw [hko];rfl) ?_ ?_ ?_ ?_ ?_ ?_ ?_ (by decide)<;>simp only [go_sem,Option.isSome_none,Option.getD_none,Pk.zero,E.zero,List.map_set,List.length_set,getD_mp x4,hg]
    · refine doorRet (d:=⟨x.map,x.flows.set k { Flw.at x k with up:=s' }⟩) (q:=some { q with frm:=⟨9,po⟩ }) 102300 102301 (by rw [hko];rfl) ?_ ?_ ?_ ?_ ?_ ?_ ?_ (by decide)<;>simp only [go_sem,Option.isSome_some,Option.getD_some,List.map_set,List.length_set,getD_mp x4,hg]
  · generalize hP:put x.map (Flw.at x k).up p.at_ p.text true=P at *
    obtain ⟨m',s',ok'⟩:=P
    simp only at h hpk hko
    subst h
    simp only [go_sem]
    rw [if_neg (by simp),sendR_on] at hko
    have f3:=c96 (Flw.at x k).up s' p (strmOk_B hpk.2) (by have:=s1.1;omega) (by omega) (by omega)
    generalize hS:sendR (Flw.at x k).up s' p=S at *
    obtain ⟨q,okq⟩:=S
    simp only at hko
    cases okq
    all_goals
      with_reducible repeat' (first|refine br ?_ ?_<;>intro h e<;>(try simp only [e,go_sem])<;>clear e|rw [i64w (by omega)]|refine sd ?_<;>try simp only [go_sem]|(first|refine cr (f3 ..) ?_)<;>try simp only [go_sem]|fail)
    · refine doorRet (d:=⟨m',x.flows.set k { Flw.at x k with up:=s' }⟩) (q:=none) 107801 102301 (by rw [hko];rfl) ?_ ?_ ?_ ?_ ?_ ?_ ?_ (by decide)<;>simp only [go_sem,Option.isSome_none,Option.getD_none,Pk.zero,E.zero,List.map_set,List.length_set,getD_mp x4,hg]
    · refine doorRet (d:=⟨m',x.flows.set k { Flw.at x k with up:=s' }⟩) (q:=some { q with frm:=⟨9,po⟩ }) 107801 102301 (by rw [hko];rfl) ?_ ?_ ?_ ?_ ?_ ?_ ?_ (by decide)<;>simp only [go_sem,Option.isSome_some,Option.getD_some,List.map_set,List.length_set,getD_mp x4,hg]
def ic61:IC:=sR [oP 2 (.box 26 (.t 0)),oP 3 (.box 30 (.t 1)),oP 4 (.alloc 26 [.nils,.nils]),oP 5 (.alloc 30 [i0,i0,i0,i0,i0,i0,s0]),oP 6 (.mv (.c (.bool false)))] (sR [fD 15 0 2,lD 16 1 15,fD 17 3 3,fD 18 1 17,lD 19 1 18,oP 20 (.call 108 [.t 16,.t 19]),mV 14 20,eX 21 14 0,eX 22 14 1,oP 7 (.alloc 28 [i0,i0]),nP (.sto 2 (.t 7) (.t 21)),mV 8 22] (sR [fD 23 1 2,lD 24 1 23,lA 25 2 7,fD 26 1 3,lA 27 2 26,oP 28 (.call 66 [.t 24,.t 25,.t 27]),mV 9 28] (.seq (sR [mV 29 8,oP 30 (.un .not (.t 29)),mV 31 30,⟨some 32,some (31,false),.mv (.t 9)⟩,⟨some 33,some (31,false),.bin .lss (.t 32) (.c i0)⟩,oP 34 (.pick (.t 31) (.c (.bool true)) (.t 33))] (.cond (.t 34) (sR [lA 35 2 2,oP 36 (.build [i0,i0,i0,i0,i0,i0,s0] []),nP (.sto 2 (.t 4) (.t 35)),nP (.sto 7 (.t 5) (.t 36)),oP 6 (.mv (.c (.bool false)))] .ret) .skip)) (sR [fD 37 1 2,lD 38 1 37,mV 39 9,oP 40 (.iad 8 (.t 38) (.t 39)),lA 41 8 40,oP 10 (.alloc 46 [i0,i0,i0,i0,s0,.nils,s0,.nils]),nP (.sto 8 (.t 10) (.t 41))] (.seq (sR [fD 42 0 3,lD 43 1 42,oP 44 (.bin .eql (.t 43) (.c (.int .i64 2)))] (.cond (.t 44) (.seq (.seq (.drw [0,1,0,4,12,28,63] [(0,fD 45 5 3),(1,lD 46 1 45),(2,fD 47 4 10),(3,lA 48 2 47),(4,oP 49 (.call 93 [.t 48])),(5,oP 50 (.lens (.t 49))),(6,bN 51 .gtr 46 50)]) (.cond (.t 51) (sR [lA 52 2 2,oP 53 (.build [i0,i0,i0,i0,i0,i0,s0] []),nP (.sto 2 (.t 4) (.t 52)),nP (.sto 7 (.t 5) (.t 53)),oP 6 (.mv (.c (.bool false)))] .ret) .skip)) (.seq (.drw [0,0,2,0,0,16,0,64,240,510,497,2047,4095] [(0,lA 54 2 2),(1,fD 55 1 3),(2,lA 56 2 55),(3,lA 57 2 7),(4,fD 58 4 10),(5,lA 59 2 58),(6,fD 60 5 3),(7,lD 61 1 60),(8,oP 62 (.call 94 [.t 59,.t 61])),(9,oP 63 (.build [i0,i0,i0,i0,i0,i0,s0] [(0,(1,.c (.int .i64 2))),(1,(2,.t 56)),(3,(2,.t 57)),(5,(1,.t 62))])),(10,nP (.sto 2 (.t 4) (.t 54))),(11,nP (.sto 7 (.t 5) (.t 63))),(12,oP 6 (.mv (.c (.bool true))))]) .ret)) .skip)) (sR [fD 65 0 2,lD 66 1 65,fD 67 6 10,lA 68 2 67,fD 69 5 3,lD 70 1 69,fD 71 6 3,lD 72 1 71,oP 73 (.call 95 [.t 66,.t 68,.t 70,.t 72,.c (.bool false)]),mV 64 73,eX 74 64 0,eX 75 64 1,eX 76 64 2,oP 12 (.alloc 44 [s0,.nils]),mV 11 74,nP (.sto 2 (.t 12) (.t 75)),mV 8 76] (.seq (sR [mV 77 8,oP 78 (.un .not (.t 77))] (.cond (.t 78) (sR [lA 79 2 2,oP 80 (.build [i0,i0,i0,i0,i0,i0,s0] []),nP (.sto 2 (.t 4) (.t 79)),nP (.sto 7 (.t 5) (.t 80)),oP 6 (.mv (.c (.bool false)))] .ret) .skip)) (sR [fD 82 6 10,lA 83 2 82,lA 84 2 12,lA 85 7 3,oP 86 (.call 96 [.t 83,.t 84,.t 85]),mV 81 86,eX 87 81 0,eX 88 81 1,oP 13 (.alloc 30 [i0,i0,i0,i0,i0,i0,s0]),nP (.sto 7 (.t 13) (.t 87)),mV 8 88] (sR [lA 89 2 12,fD 90 6 10,nP (.sto 2 (.t 90) (.t 89))] (sR [fD 91 1 2,lD 92 1 91,mV 93 9,lA 94 8 10,oP 95 (.iad 8 (.t 92) (.t 93)),nP (.sto 8 (.t 95) (.t 94))] (.seq (sR [mV 96 8,oP 97 (.un .not (.t 96))] (.cond (.t 97) (sR [lA 98 2 2,oP 99 (.build [i0,i0,i0,i0,i0,i0,s0] []),nP (.sto 2 (.t 4) (.t 98)),nP (.sto 7 (.t 5) (.t 99)),oP 6 (.mv (.c (.bool false)))] .ret) .skip)) (sR [lA 100 2 7,fD 101 3 13,nP (.sto 2 (.t 101) (.t 100))] (.seq (.drw [0,0,1,7,15] [(0,lA 102 2 2),(1,lA 103 7 13),(2,nP (.sto 2 (.t 4) (.t 102))),(3,nP (.sto 7 (.t 5) (.t 103))),(4,oP 6 (.mv (.c (.bool true))))]) .ret)))))))))))))
theorem dg61:Dg Tryz.prog 61 Tryz.f61 ic61 [(.cell 4 2 true),(.cell 5 7 true),(.t 6)]:=⟨Tryz.func61,by kernel_rfl,by kernel_rfl⟩
theorem c61 (d:Door) (p:Pk) (hd:doorOk d=true) (hp:PkP p) (hi:p.to.door=true):FnP Tryz.prog G 61 0 [.arr 82 3 (d.map.map Pair.row),.arr 46 8 (d.flows.map Flw.row)]
    [.agg [.own 0 d.map.length,.own 1 d.flows.length],.agg [.int .i64 p.kind,.int .i64 p.frm.a,.int .i64 p.frm.p,.int .i64 p.to.a,.int .i64 p.to.p,.int .i64 p.at_,.str p.text]] (doorA (dIn d p)):=by
  refine mP dg61 Tryz.ntmps61 ⟨_,_,rfl,rfl⟩ ?_
  obtain ⟨hm,hfl,_⟩:=doorOk_iff.1 hd
  have hdr:=E.door_iff.1 hi
  simp only [ic61,go_sem]
  refine callF (c108 d.map p.to.p hm (by omega)) [0] false (by simp only [go_sem];first|done|simp [E.row,Pc.row,Pair.row,Part.row,Flw.row,Pk.row,Conv.row]) (by simp only [List.mem_singleton];rintro c rfl;rfl) rfl (.inr rfl) ?_
  simp only [go_sem]
  cases hin:insideOf d.map p.to.p with
  | none =>
    simp only [go_sem,Option.isSome_none,Option.getD_none,E.zero]
    refine callF (c66 d.flows ⟨0,0⟩ p.frm (by omega)) [1] false (by simp only [go_sem];first|done|simp [E.row,Pc.row,Pair.row,Part.row,Flw.row,Pk.row,Conv.row]) (by simp only [List.mem_singleton];rintro c rfl;rfl) rfl (.inr rfl) ?_
    simp only [go_sem]
    with_reducible repeat' (first|refine br ?_ ?_<;>intro h e<;>(try simp only [e,go_sem])<;>clear e|rw [i64w (by omega)]|refine sd ?_<;>try simp only [go_sem]|fail)
    refine doorRet (q:=none) 0 1 (dIn_no1 hin) ?_ ?_ ?_ ?_ ?_ ?_ ?_ (by decide)<;>simp only [go_sem,Option.isSome_none,Option.getD_none,Pk.zero,E.zero]
  | some i =>
    simp only [go_sem,Option.isSome_some,Option.getD_some]
    refine callF (c66 d.flows i p.frm (by omega)) [1] false (by simp only [go_sem];first|done|simp [E.row,Pc.row,Pair.row,Part.row,Flw.row,Pk.row,Conv.row]) (by simp only [List.mem_singleton];rintro c rfl;rfl) rfl (.inr rfl) ?_
    simp only [go_sem]
    cases hf:flowIx d.flows i p.frm with
    | none =>
      simp only [ixI,go_sem]
      with_reducible repeat' (first|refine br ?_ ?_<;>intro h e<;>(try simp only [e,go_sem])<;>clear e|rw [i64w (by omega)]|refine sd ?_<;>try simp only [go_sem]|fail)
      refine doorRet (q:=none) 0 1 (dIn_no2 hin hf) ?_ ?_ ?_ ?_ ?_ ?_ ?_ (by decide)<;>simp only [go_sem,Option.isSome_none,Option.getD_none,Pk.zero,E.zero]
    | some k =>
      obtain ⟨hk,hke⟩:=dIn_yes hin hf
      rw [hke]
      have hg:d.flows.getD k default=Flw.at d k:=rfl
      have hfk:d.flows[k]?=some (Flw.at d k):=by simp [Flw.at,List.getD,hk]
      obtain ⟨_,_,x6,x7,_⟩:=flow_at hd hfk
      have s1:=strmOk_B x6
      have s2:=strmOk_B x7
      have so:=sOut_len s1
      have hpa:=hp.at_
      have hpl:=hp.len
      have f1:=c93 (Flw.at d k).up s1
      have f2:=c94 (Flw.at d k).up p.at_ s1 (by omega)
      have hlt:¬ ((k:Int)<0):=by omega
      simp only [ixI,go_sem,eq_false hlt]
      with_reducible repeat' (first|refine br ?_ ?_<;>intro h e<;>(try simp only [e,go_sem,getD_mp hk,hg])<;>clear e|rw [i64w (by omega)]|refine sd ?_<;>try simp only [go_sem,getD_mp hk,hg]|(first|refine cr (f1 ..) ?_|refine cr (f2 ..) ?_)<;>try simp only [go_sem,getD_mp hk,hg]|fail)
      · have:inK d k i p=(d,none):=by
          simp only [inK];rw [if_pos (by assumption),if_pos (by omega)]
        refine doorRet (q:=none) 0 1 this ?_ ?_ ?_ ?_ ?_ ?_ ?_ (by decide)<;>simp only [go_sem,Option.isSome_none,Option.getD_none,Pk.zero,E.zero]
      · have:inK d k i p=(d,some ⟨2,p.frm,i,backP (Flw.at d k).up.parts p.at_,[]⟩):=by
          simp only [inK];rw [if_pos (by assumption),if_neg (by omega)]
        refine doorRet 0 1 this ?_ ?_ ?_ ?_ ?_ ?_ ?_ (by decide)<;>simp only [go_sem,Option.isSome_some,Option.getD_some]
      refine callN (c95F d.map (Flw.at d k).down p.at_ p.text ⟨hm,x7,hpa,hpl⟩) [0] [] true 73 1 (by simp only [go_sem];first|done|simp) (by simp only [go_sem];first|done|simp) (by simp) (by simp) (by simp) ?_ ?_ ?_
      · rintro res out ⟨_,rfl,rfl⟩
        exact ⟨by simp,by simp,.inl rfl,fun i hi=>by obtain rfl:i=0:=(by omega);simp [chH,stepOk]⟩
      · intro i hi
        obtain rfl:i=0:=by omega
        simp only [go_sem]
      have htx:=hp.tx.resolve_left (by assumption)
      have hpk:=put_ok (m:=d.map) (s:=(Flw.at d k).down) (n:=p.at_) (t:=p.text) (out:=false) hm x7 htx hpa.1
      have hko:inK d k i p=if (put d.map (Flw.at d k).down p.at_ p.text false).2.2=false then (d,none)
          else (⟨d.map,d.flows.set k { Flw.at d k with down:=(put d.map (Flw.at d k).down p.at_ p.text false).2.1 }⟩,
            (sendOn (Flw.at d k).down (put d.map (Flw.at d k).down p.at_ p.text false).2.1 p).map fun q=>{ q with to:=i }):=by
        simp only [inK];rw [if_neg (by assumption)]
      rintro res out ⟨h,rfl,rfl⟩
      generalize hP:put d.map (Flw.at d k).down p.at_ p.text false=P at *
      obtain ⟨m',s',ok'⟩:=P
      simp only at h hpk hko
      subst h
      cases ok'<;>simp only [go_sem]
      · rw [if_pos rfl] at hko
        with_reducible repeat' (first|refine br ?_ ?_<;>intro h e<;>(try simp only [e,go_sem])<;>clear e|rw [i64w (by omega)]|refine sd ?_<;>try simp only [go_sem]|fail)
        refine doorRet (q:=none) 0 1 hko ?_ ?_ ?_ ?_ ?_ ?_ ?_ (by decide)<;>simp only [go_sem,Option.isSome_none,Option.getD_none,Pk.zero,E.zero]
      rw [if_neg (by simp),sendR_on] at hko
      have f3:=c96 (Flw.at d k).down s' p (strmOk_B hpk.2) (by have:=s2.1;omega) (by omega) (by omega)
      generalize hS:sendR (Flw.at d k).down s' p=S at *
      obtain ⟨q,okq⟩:=S
      simp only at hko
      cases okq
      all_goals
        with_reducible repeat' (first|refine br ?_ ?_<;>intro h e<;>(try simp only [e,go_sem])<;>clear e|rw [i64w (by omega)]|refine sd ?_<;>try simp only [go_sem]|(first|refine cr (f3 ..) ?_)<;>try simp only [go_sem]|fail)
      · refine doorRet (d:=⟨d.map,d.flows.set k { Flw.at d k with down:=s' }⟩) (q:=none) 0 1 (by rw [hko];rfl) ?_ ?_ ?_ ?_ ?_ ?_ ?_ (by decide)<;>simp only [go_sem,Option.isSome_none,Option.getD_none,Pk.zero,E.zero,List.map_set,List.length_set,getD_mp hk,hg]
      · refine doorRet (d:=⟨d.map,d.flows.set k { Flw.at d k with down:=s' }⟩) (q:=some { q with to:=i }) 0 1 (by rw [hko];rfl) ?_ ?_ ?_ ?_ ?_ ?_ ?_ (by decide)<;>simp only [go_sem,Option.isSome_some,Option.getD_some,List.map_set,List.length_set,getD_mp hk,hg]
end Go.Proofs.YtfepdcpidkjklaaGreatDoor.W
