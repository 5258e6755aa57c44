/- FnInInvited: only who was called comes in. Conditions: those of the row alone. -/
import Derived.Test.YtfepdcpidkjklaaGreatDoorX07
import Derived.Test.YtfepdcpidkjklaaGreatDoorX04
import Derived.Test.YtfepdcpidkjklaaGreatDoorCards
import Derived.Test.YtfepdcpidkjklaaGreatDoorTie
set_option linter.all false
namespace Go.Proofs.YtfepdcpidkjklaaGreatDoor.W
open Go Go.RowKit Go.Proofs Go.Proofs.YtfepdcpidkjklaaGreatDoor.VL Go.Proofs.YtfepdcpidkjklaaGreatDoor.M
attribute [local congr] optK_congr guardK_congr condK_congr runT_congr runD_congr wpI_congr CallV_congr LoopI_congr pureK_congr effK_congr calK_congr stepV_congr doV_congr exN_congr exB_congr retF_congr retQ_congr gK_congr condW_congr ldK_congr stoK_congr
attribute [local go_sem] argL_cons argL_nil argH_nil argH_cons chH_getH wpI_seq wpI_reg wpI_drw wpI_ret cond_k condW_t condW_f wpI_skip wpI_block wpI_exit wpI_loop exN_n exN_r exN_e exB_n exB_r exB_h exB_m runT_k kT_e runT_nil runD_k kD_e runD_nil step_u step_k gK_t gK_f do_mv do_bino bo_add bo_sub bo_mul bo_subu bo_quo bo_rem bo_xor bo_eql bo_neq bo_lss bo_leq bo_gtr bo_geq bo_cat bo_eqs bo_nes do_pick do_call do_cal calK_f do_box do_alloc do_ldk ldK_s do_stok stoK_s do_fad do_nilc do_not do_neg do_len do_lens do_ext do_eqs do_beq do_isn do_cvi do_sls do_idx do_mn do_mx do_build do_mkf do_s2b do_b2s do_slv do_iad do_bsl do_mks do_app ev_t ev_c app_some app_none
attribute [local go_sem] List.nil_append List.cons_append List.append_nil getL_hit getL_miss getH_nil getH_hit getH_miss nm_eq ne_eq Nat.reduceEqDiff not_false_eq_true Nat.reduceAdd Nat.add_zero Nat.zero_add if_true if_false ite_true ite_false pureK_s effK_s optK_s gdV_t gdV_f gdV_s pick_b ge_iff_le gt_iff_lt cond_true cond_false fresh_k cells_agg cells_int cells_bool cells_str cells_own cells_sl cells_nils ld_pv ld_pa ld_ip ldVar_t ldVar_f ldArr_t ldArr_f ldRow_t ldRow_f ldA_s ld1_s fad_pv fad_pa fad_ip nilc_pv nilc_pa nilc_ip not_b neg_i cvi_i ext_t retF_n retF_r
attribute [local go_sem] resV_k rvs_nil rvs_t rvs_c fstO_s consO_s resK_s resL_1 resL_2 resL_3 resL_4  Option.some.injEq List.map_cons List.map_nil List.all_cons List.all_nil Bool.and_true Bool.and_self Bool.not_true Bool.not_false Option.map_some Option.map_none sls_s slsG_s loV_n loV_i hiV_n hiV_i idx_s mn_i mx_i s2b_s b2s_s bytO_s bytes_nil bytes_cons conB_s slv_sl slv_own slv_nils slvG_s slvN_s slvO_s iad_sl iadG_map take_map drop_map List.length_map iad_own iad_view iadO_a iadW_a mks_i rowO_nils rowO_sl rowO_own rowA_a eq_self appG_nils appG_own appO_a guardP_T mapA_s bld_nil mkf_nil bldF_e fill_nil fill_cons mkf_e lens_s len_nils len_sl len_own len_view isn_nile isn_erre List.getElem?_cons_zero List.getElem?_cons_succ List.length_cons List.length_nil decide_true decide_false Int.toNat_natCast Int.cast_ofNat_Int Int.reduceLT Int.reduceLE Int.reduceEq Int.reduceAdd Int.reduceSub Int.reduceMul Int.reduceNeg Int.reduceToNat List.getD_cons_zero List.getD_cons_succ not_true_eq_false not_false_eq_true Bool.false_eq_true Bool.true_eq_false reduceCtorEq
attribute [local go_sem] E.row Pc.row Pair.row Part.row Strm.row Flw.row Pk.row Door.row Conv.row World.row Ev.row rdV E.eta Pc.eta Pair.eta Part.eta Strm.eta Pk.eta Flw.eta Conv.eta Door.eta World.eta Ev.eta
attribute [local go_sem] sub_ok st_pv st_pa stVar_v stArr_a Nat.le_refl List.drop_zero List.drop_succ_cons List.take_succ_cons List.take_zero setR Nat.reduceLeDiff
attribute [local go_sem] wk_bot wk2_bot wk1_bot wk_undef wk_tup_e wk2_agg_e wk_agg_e wk1_fn_e wk2_fn_e wk_fn_e wkl_nil wkl_cons wkh_var_e wkh_arr_e wkh_fresh_e wkh_dead_v wkh_dead_a wkh_dead_d wk0_undef wk0_int wk0_bool wk0_str wk0_nils wk0_nils_sl wk0_nilp wk0_nile wk0_erre wk0_sl wk0_iptr wk0_own wk0_view wk0_pv wk0_pa fzA_a fzW_a fzP_v wk0_own_sl wk0_view_sl wk0_pv_iptr WkS_nil WkS_cons WkN_nil WkN_cons nonB_nil nonB_cons getN_nil getN_hit getN_miss pinOk_0 pinOk_s and_true true_and and_self
attribute [local go_sem] bot_int one_int unt_int clo_int bot_bool one_bool unt_bool clo_bool bot_str one_str unt_str clo_str bot_nils one_nils unt_nils clo_nils bot_nilp one_nilp unt_nilp clo_nilp bot_nile one_nile unt_nile clo_nile bot_erre one_erre unt_erre clo_erre bot_raw one_raw unt_raw clo_raw bot_sl one_sl unt_sl clo_sl bot_own one_own unt_own clo_own bot_view one_view unt_view clo_view bot_pv one_pv unt_pv clo_pv bot_pa one_pa unt_pa clo_pa bot_iptr one_iptr unt_iptr clo_iptr unt_agg unt_fn one_fn
attribute [local go_sem] rn_tup rn_agg rn2_agg rn_fn rn2_fn rnfn1 rn_bot rn2_bot rn1_bot rn0_int rn0_bool rn0_str rn0_nils rn0_nilp rn0_nile rn0_erre rn0_sl rn0_iptr rn0_own rn0_view rn0_pv rn0_pa hrn_var hrn_arr hrn_dead outU_nil outU_cons deads_nil deads_cons bk_ge bk_lt nsF_0 nsF_s chH_0 chH_s chH_n newN_e andB_s eqR_nil eqR_i eqR_b eqR_s mapX_f mapX_t eqs_a beq_f beq_t live_arr live_var nsl_nil nsl_cons Nat.reduceMul Nat.reduceLT Nat.zero_le Nat.not_lt_zero
attribute [local go_sem] mV lD lA fD bN eX oP nP sR i0 s0
def ic4:IC:=sR [oP 2 (.mv (.c (.bool false)))] (.seq (sR [mV 15 0,oP 16 (.len (.t 15)),oP 17 (.bin .gtr (.t 16) (.c (.int .i64 1048576)))] (.cond (.t 17) (sR [oP 2 (.mv (.c (.bool true)))] .ret) .skip)) (sR [mV 19 0,oP 20 (.call 21 [.t 19]),mV 18 20,eX 21 18 0,eX 22 18 1,oP 3 (.alloc 26 [.nils,.nils]),oP 4 (.alloc 30 [i0,i0,i0,i0,i0,i0,s0]),nP (.sto 2 (.t 3) (.t 21)),nP (.sto 7 (.t 4) (.t 22))] (sR [lA 24 2 3,lA 25 7 4,oP 26 (.call 22 [.t 24,.t 25]),mV 23 26,eX 27 23 0,eX 28 23 1,eX 29 23 2,oP 5 (.alloc 26 [.nils,.nils]),oP 6 (.alloc 30 [i0,i0,i0,i0,i0,i0,s0]),nP (.sto 2 (.t 5) (.t 27)),nP (.sto 7 (.t 6) (.t 28)),mV 7 29] (sR [lA 31 2 3,lA 32 7 4,oP 33 (.call 23 [.t 31,.t 32]),mV 30 33,eX 34 30 0,eX 35 30 1,eX 36 30 2,oP 8 (.alloc 26 [.nils,.nils]),oP 9 (.alloc 30 [i0,i0,i0,i0,i0,i0,s0]),nP (.sto 2 (.t 8) (.t 34)),nP (.sto 7 (.t 9) (.t 35)),mV 10 36] (.seq (sR [mV 37 10,mV 38 7,oP 39 (.beq true (.t 37) (.t 38)),mV 40 39,⟨some 41,some (40,false),.ld 7 true (.t 9)⟩,⟨some 42,some (40,false),.ld 7 true (.t 6)⟩,⟨some 43,some (40,false),.eqs true [.i,.i,.i,.i,.i,.i,.s] (.t 41) (.t 42)⟩,oP 44 (.pick (.t 40) (.c (.bool true)) (.t 43)),mV 45 44,⟨some 46,some (45,false),.ld 2 true (.t 8)⟩,⟨some 47,some (45,false),.ld 2 true (.t 5)⟩,⟨some 48,some (45,false),.call 19 [.t 46,.t 47]⟩,⟨some 49,some (45,false),.un .not (.t 48)⟩,oP 50 (.pick (.t 45) (.c (.bool true)) (.t 49)),mV 51 50,⟨some 52,some (51,false),.ld 2 true (.t 3)⟩,⟨some 53,some (51,false),.call 24 [.t 52]⟩,⟨some 54,some (51,false),.un .not (.t 53)⟩,oP 55 (.pick (.t 51) (.c (.bool true)) (.t 54)),mV 56 55,⟨some 57,some (56,false),.ld 7 true (.t 4)⟩,⟨some 58,some (56,false),.call 25 [.t 57]⟩,⟨some 59,some (56,false),.un .not (.t 58)⟩,oP 60 (.pick (.t 56) (.c (.bool true)) (.t 59)),mV 61 60,⟨some 62,some (61,false),.fad 1 (.t 4)⟩,⟨some 63,some (61,false),.ld 2 true (.t 62)⟩,⟨some 64,some (61,false),.call 26 [.t 63]⟩,⟨some 65,some (61,false),.un .not (.t 64)⟩,oP 66 (.pick (.t 61) (.c (.bool true)) (.t 65)),mV 67 66,⟨some 68,some (67,false),.fad 3 (.t 4)⟩,⟨some 69,some (67,false),.ld 2 true (.t 68)⟩,⟨some 70,some (67,false),.call 27 [.t 69]⟩,⟨some 71,some (67,false),.un .not (.t 70)⟩,oP 72 (.pick (.t 67) (.c (.bool true)) (.t 71))] (.cond (.t 72) (sR [mV 73 10,mV 74 7,oP 75 (.beq false (.t 73) (.t 74)),mV 76 75,⟨some 77,some (76,true),.ld 7 true (.t 9)⟩,⟨some 78,some (76,true),.ld 7 true (.t 6)⟩,⟨some 79,some (76,true),.eqs false [.i,.i,.i,.i,.i,.i,.s] (.t 77) (.t 78)⟩,oP 80 (.pick (.t 76) (.t 79) (.c (.bool false))),mV 81 80,⟨some 82,some (81,true),.ld 2 true (.t 8)⟩,⟨some 83,some (81,true),.ld 2 true (.t 5)⟩,⟨some 84,some (81,true),.call 19 [.t 82,.t 83]⟩,oP 85 (.pick (.t 81) (.t 84) (.c (.bool false))),mV 2 85] .ret) .skip)) (sR [fD 87 0 3,lD 88 1 87,fD 89 3 4,fD 90 1 89,lD 91 1 90,oP 92 (.call 28 [.t 88,.t 91]),mV 86 92,eX 93 86 0,eX 94 86 1,oP 11 (.alloc 28 [i0,i0]),nP (.sto 2 (.t 11) (.t 93)),mV 12 94] (sR [lA 96 2 3,lA 97 2 11,fD 98 1 4,lA 99 2 98,oP 100 (.call 29 [.t 96,.t 97,.t 99]),mV 95 100,eX 101 95 0,eX 102 95 1,oP 13 (.alloc 46 [i0,i0,i0,i0,s0,.nils,s0,.nils]),nP (.sto 8 (.t 13) (.t 101)),mV 14 102] (.seq (sR [mV 103 12,oP 104 (.un .not (.t 103)),mV 105 104,⟨some 106,some (105,false),.mv (.t 14)⟩,⟨some 107,some (105,false),.un .not (.t 106)⟩,oP 108 (.pick (.t 105) (.c (.bool true)) (.t 107))] (.cond (.t 108) (sR [mV 109 10,oP 110 (.un .not (.t 109)),mV 111 110,⟨some 112,some (111,true),.ld 2 true (.t 8)⟩,⟨some 113,some (111,true),.ld 2 true (.t 3)⟩,⟨some 114,some (111,true),.call 19 [.t 112,.t 113]⟩,oP 115 (.pick (.t 111) (.t 114) (.c (.bool false))),mV 2 115] .ret) .skip)) (sR [mV 116 10,oP 117 (.un .not (.t 116)),mV 118 117,⟨some 119,some (118,false),.fad 3 (.t 9)⟩,⟨some 120,some (118,false),.ld 2 true (.t 119)⟩,⟨some 121,some (118,false),.ld 2 true (.t 11)⟩,⟨some 122,some (118,false),.eqs false [.i,.i] (.t 120) (.t 121)⟩,⟨some 123,some (118,false),.mv (.t 122)⟩,⟨some 124,some (123,true),.fad 1 (.t 9)⟩,⟨some 125,some (123,true),.ld 2 true (.t 124)⟩,⟨some 126,some (123,true),.fad 1 (.t 4)⟩,⟨some 127,some (123,true),.ld 2 true (.t 126)⟩,⟨some 128,some (123,true),.eqs false [.i,.i] (.t 125) (.t 127)⟩,⟨some 129,some (118,false),.pick (.t 123) (.t 128) (.c (.bool false))⟩,⟨some 130,some (118,false),.mv (.t 129)⟩,⟨some 131,some (130,true),.fad 0 (.t 9)⟩,⟨some 132,some (130,true),.ld 1 false (.t 131)⟩,⟨some 133,some (130,true),.fad 0 (.t 4)⟩,⟨some 134,some (130,true),.ld 1 false (.t 133)⟩,⟨some 135,some (130,true),.bin .eql (.t 132) (.t 134)⟩,⟨some 136,some (118,false),.pick (.t 130) (.t 135) (.c (.bool false))⟩,⟨some 137,some (118,false),.mv (.t 136)⟩,⟨some 138,some (137,true),.ld 7 true (.t 9)⟩,⟨some 139,some (137,true),.call 30 [.t 138]⟩,⟨some 140,some (118,false),.pick (.t 137) (.t 139) (.c (.bool false))⟩,⟨some 141,some (118,false),.mv (.t 140)⟩,⟨some 142,some (141,true),.ld 2 true (.t 8)⟩,⟨some 143,some (141,true),.call 20 [.t 142]⟩,⟨some 144,some (118,false),.pick (.t 141) (.t 143) (.c (.bool false))⟩,oP 145 (.pick (.t 118) (.c (.bool true)) (.t 144)),mV 2 145] .ret)))))))))
theorem dg4:Dg Tryz.prog 4 Tryz.f4 ic4 [(.t 2)]:=⟨Tryz.func4,by kernel_rfl,by kernel_rfl⟩
theorem c4 (code:B):FnR Tryz.prog G 4 [.sl 1 (code.map byR)] (.bool true):=by
  refine mF dg4 Tryz.ntmps4 ?_
  simp only [ic4,go_sem]
  by_cases hc:(1048576:Int)<code.length
  · simp only [eq_true hc,go_sem]
  simp only [eq_false hc,go_sem]
  refine callO (c21 code (by omega)) [] 20 0 (by simp only [go_sem];first|done|simp) (by simp) (by rintro _ _ ⟨_,_,_,_,_,rfl⟩;simp) (by intro i hi;omega) ?_
  rintro _ _ ⟨d,p,⟨hb,hl3,hq⟩,hpl,rfl,rfl⟩
  simp only [go_sem]
  have f1:=c22 d p hb (fun _=>hl3) (by omega)
  have f2:=c23 d p hb (by omega)
  have xb:=doorIn_db d p
  have hyes:=fun r (h:(doorIn d p).2=some r)=>doorIn_yes h
  obtain ⟨⟨x,o⟩,hx⟩:∃ y,doorIn d p=y:=⟨_,rfl⟩
  rw [hx] at f1 f2 xb hyes
  have f3:=l19 x xb
  simp only at f1 f2 f3 hyes xb
  have f4:=c24 d hb
  have f5:=c25 p (by omega)
  have all:∀ b:Bool,(b == b)=true:=by decide
  by_cases hok:(doorOk d=true∧pkOk p=true)∧p.frm.outside=true∧p.to.door=true
  · obtain ⟨⟨hd,hp⟩,hfo,hto⟩:=hok
    have hi:p.inward=true:=by simp only [Pk.inward,hfo,hto,Bool.and_self]
    have hxi:dIn d p=(x,o):=by rw [← hx];unfold doorIn;rw [if_pos (by rw [hd,hp,hi];rfl)]
    obtain ⟨law1,law2⟩:=law_inInvited hd hq hp hi
    have f6:=c28 d.map p.to.p hb.1
    have hmi:mapIn d.map p.to.p=insideOf d.map p.to.p:=by unfold mapIn;rw [if_pos (doorOk_iff.1 hd).1]
    rw [hd] at f4
    rw [hp] at f5
    rw [hmi] at f6
    cases hin:insideOf d.map p.to.p with
    | none =>
      have:=law1 hin
      rw [hxi] at this
      obtain ⟨rfl,rfl⟩:=Prod.mk.inj this
      have f7:=c29 x .zero p.frm hb.2.1
      rw [hin] at f6
      generalize ((flowIx x.flows .zero p.frm).bind fun k=>x.flows[k]?).getD .zero=g0 at *
      generalize (flowIx x.flows .zero p.frm).isSome=b0 at *
      simp only [rdV,E.zero,Option.getD_none,Option.isSome_none] at f1 f2 f6 f7
      with_reducible repeat' (first|refine br ?_ ?_<;>intro h e<;>(try simp only [e,go_sem,dff,hfo,hto])<;>clear e|rw [i64w (by omega)]|refine sd ?_<;>try simp only [go_sem,dff,hfo,hto]|(first|refine cr (f1 ..) ?_|refine cr (f2 ..) ?_|refine cr (f3 ..) ?_|refine cr (f4 ..) ?_|refine cr (f5 ..) ?_|refine cr (c26 ..) ?_|refine cr (c27 ..) ?_|refine cr (f6 ..) ?_|refine cr (f7 ..) ?_)<;>try simp only [go_sem,dff,hfo,hto]|fail)
      all_goals first|done|omega|trace_state
    | some i =>
      obtain ⟨law3,law4⟩:=law2 i hin
      have f7:=c29 d i p.frm hb.2.1
      rw [hin] at f6
      generalize ((flowIx d.flows i p.frm).bind fun k=>d.flows[k]?).getD .zero=g0 at *
      cases hfi:(flowIx d.flows i p.frm).isSome with
      | false =>
        have:=law3 hfi
        rw [hxi] at this
        obtain ⟨rfl,rfl⟩:=Prod.mk.inj this
        rw [hfi] at f7
        simp only [rdV,Option.getD_none,Option.isSome_none,Option.getD_some,Option.isSome_some] at f1 f2 f6 f7
        with_reducible repeat' (first|refine br ?_ ?_<;>intro h e<;>(try simp only [e,go_sem,dff,hfo,hto])<;>clear e|rw [i64w (by omega)]|refine sd ?_<;>try simp only [go_sem,dff,hfo,hto]|(first|refine cr (f1 ..) ?_|refine cr (f2 ..) ?_|refine cr (f3 ..) ?_|refine cr (f4 ..) ?_|refine cr (f5 ..) ?_|refine cr (c26 ..) ?_|refine cr (c27 ..) ?_|refine cr (f6 ..) ?_|refine cr (f7 ..) ?_)<;>try simp only [go_sem,dff,hfo,hto]|fail)
        all_goals first|done|omega|trace_state
      | true =>
        rw [hfi] at f7
        cases o with
        | none =>
          simp only [rdV,Option.getD_none,Option.isSome_none,Option.getD_some,Option.isSome_some] at f1 f2 f6 f7
          with_reducible repeat' (first|refine br ?_ ?_<;>intro h e<;>(try simp only [e,go_sem,dff,hfo,hto])<;>clear e|rw [i64w (by omega)]|refine sd ?_<;>try simp only [go_sem,dff,hfo,hto]|(first|refine cr (f1 ..) ?_|refine cr (f2 ..) ?_|refine cr (f3 ..) ?_|refine cr (f4 ..) ?_|refine cr (f5 ..) ?_|refine cr (c26 ..) ?_|refine cr (c27 ..) ?_|refine cr (f6 ..) ?_|refine cr (f7 ..) ?_)<;>try simp only [go_sem,dff,hfo,hto]|fail)
          all_goals first|done|omega|trace_state
        | some r =>
          obtain ⟨e1,e2,e3,e4,e5⟩:=law4 r (by rw [hxi])
          rw [hxi] at e5
          simp only at e5
          have f8:=c30 r (by have:=(pkOk_P e4).len;omega)
          have f9:=c20 x xb
          rw [e4] at f8
          rw [e5] at f9
          simp only [rdV,Option.getD_some,Option.isSome_some] at f1 f2 f6 f7
          simp only [e1,e2,e3] at f8
          with_reducible repeat' (first|refine br ?_ ?_<;>intro h e<;>(try simp only [e,go_sem,dtt,hfo,hto,e1,e2,e3])<;>clear e|rw [i64w (by omega)]|refine sd ?_<;>try simp only [go_sem,dtt,hfo,hto,e1,e2,e3]|(first|refine cr (f1 ..) ?_|refine cr (f2 ..) ?_|refine cr (f3 ..) ?_|refine cr (f4 ..) ?_|refine cr (f5 ..) ?_|refine cr (c26 ..) ?_|refine cr (c27 ..) ?_|refine cr (f6 ..) ?_|refine cr (f7 ..) ?_|refine cr (f8 ..) ?_|refine cr (f9 ..) ?_)<;>try simp only [go_sem,dtt,hfo,hto,e1,e2,e3]|fail)
          all_goals first|done|omega|trace_state
  · have hne:¬ (((doorOk d=true∧pkOk p=true)∧p.frm.outside=true)∧p.to.door=true):=fun h=>hok ⟨h.1.1,h.1.2,h.2⟩
    generalize hs:o.isSome=b at *
    generalize o.getD .zero=r at *
    clear hyes
    cases hd:doorOk d
    · rw [hd] at f4
      with_reducible repeat' (first|refine br ?_ ?_<;>intro h e<;>(try simp only [e,go_sem,all])<;>clear e|rw [i64w (by omega)]|refine sd ?_<;>try simp only [go_sem,all]|(first|refine cr (f1 ..) ?_|refine cr (f2 ..) ?_|refine cr (f3 ..) ?_|refine cr (f4 ..) ?_)<;>try simp only [go_sem,all]|fail)
    rw [hd] at f4
    cases hp:pkOk p
    · rw [hp] at f5
      with_reducible repeat' (first|refine br ?_ ?_<;>intro h e<;>(try simp only [e,go_sem,all])<;>clear e|rw [i64w (by omega)]|refine sd ?_<;>try simp only [go_sem,all]|(first|refine cr (f1 ..) ?_|refine cr (f2 ..) ?_|refine cr (f3 ..) ?_|refine cr (f4 ..) ?_|refine cr (f5 ..) ?_)<;>try simp only [go_sem,all]|fail)
    rw [hp] at f5
    cases hfo:p.frm.outside
    · with_reducible repeat' (first|refine br ?_ ?_<;>intro h e<;>(try simp only [e,go_sem,all,hfo])<;>clear e|rw [i64w (by omega)]|refine sd ?_<;>try simp only [go_sem,all,hfo]|(first|refine cr (f1 ..) ?_|refine cr (f2 ..) ?_|refine cr (f3 ..) ?_|refine cr (f4 ..) ?_|refine cr (f5 ..) ?_|refine cr (c26 ..) ?_)<;>try simp only [go_sem,all,hfo]|fail)
    cases hto:p.to.door
    · with_reducible repeat' (first|refine br ?_ ?_<;>intro h e<;>(try simp only [e,go_sem,all,hfo,hto])<;>clear e|rw [i64w (by omega)]|refine sd ?_<;>try simp only [go_sem,all,hfo,hto]|(first|refine cr (f1 ..) ?_|refine cr (f2 ..) ?_|refine cr (f3 ..) ?_|refine cr (f4 ..) ?_|refine cr (f5 ..) ?_|refine cr (c26 ..) ?_|refine cr (c27 ..) ?_)<;>try simp only [go_sem,all,hfo,hto]|fail)
    exact absurd ⟨⟨⟨hd,hp⟩,hfo⟩,hto⟩ hne
end Go.Proofs.YtfepdcpidkjklaaGreatDoor.W
namespace Go.Proofs.YtfepdcpidkjklaaGreatDoor.fnInInvited
open Go Go.ChangeShapes Go.WideShapes Go.ChangeAt Go.RowKit Go.Proofs.YtfepdcpidkjklaaGreatDoor.W
theorem walk (v0:Value) (W:World) (hs:W.ShapedOpen Tryz.prog) (hL:laidMetH Tryz.prog Rows.fnInInvitedRow.laid W) (hv0:∃ code:M.B,VL.Den W noO noρ noH (.sl 1 (code.map M.byR)) v0) :
    Calls Tryz.prog 4 #[v0] W fun e W'=>e=.returned (.bool true)∧Below W.heap.size W W':=by
  obtain ⟨code,hdv0⟩:=hv0
  have:=Go.Proofs.YtfepdcpidkjklaaGreatDoor.W.FnR.calls (c4 code) (us:=[v0]) (gOk rfl hL hs) ⟨rfl,fun j a b ha hb=>by
    match j,ha,hb with
    | 0,ha,hb=>cases ha;cases hb;exact hdv0
    | j+1,ha,hb=>simp at ha⟩
  exact this
set_option maxRecDepth 100000 in
theorem contract (H:Type) (enc:TypeId × Value→H) (W:World) (base:Nat) (args:Array Value) (ds gs:List (DataW H)) (before:List MemPlace)
    (hval:∀ (j:Nat) t v,Tryz.f4.params[j]?=some t→args[j]?=some v→Value.okWide Tryz.prog W .any base t v)
    (hW:DataW.Whole enc Tryz.prog Tryz.f4.params.toList Rows.fnInInvitedSpec.vars false W args.toList ds gs before) (hL:laidMetH Tryz.prog Rows.fnInInvitedRow.laid W) (hs:W.ShapedOpen Tryz.prog) :
    Calls Tryz.prog 4 args W fun e W'=>∃ v,e=.returned v∧Rows.fnInInvitedSpec.post enc Tryz.prog Tryz.f4 false true false false W args v W':=by
  have hW':=hW
  obtain ⟨p,q,hA0,hV,rfl,hfz,hnd⟩:=hW
  have hA:DataW.TrodAll enc Tryz.prog W 0 (fun _=>true) true Tryz.f4.params.toList args.toList ds p:=hA0
  rw [Tryz.params4] at hA hval
  obtain ⟨v0,r0s,d0,d0s,p0,q0,hargs0,rfl,rfl,h0,r0⟩:=trodAll_cons hA
  obtain ⟨e1,e2,e3⟩:=trodAll_nil r0
  subst e1 e2 e3
  obtain rfl:args=#[v0]:=by cases args;simp_all
  obtain ⟨rfl,rfl⟩:=trodVars_none hV
  obtain ⟨a0,len0,cap0,hv0⟩:=okWide_slice Tryz.underlying22 (hval 0 22 v0 rfl rfl)
  have k0:=h0
  have lt0:∀ x∈p0,x.block<W.heap.size:=by obtain ⟨m,hm⟩:=k0;exact DataW.trod_lt m _ _ _ hm
  have hc0:=open_code h0 ⟨a0,len0,cap0,hv0⟩
  clear hA0
  refine (walk v0 W hs hL hc0).mono fun e W' ⟨he,bel⟩=>?_
  subst he
  exact ⟨_,rfl,_,_,_,[],_,[],hW',trodAll_mk1 (shut_bool Tryz.underlying4 _),(trodAll_cons_mk (Below.trod laidOut (by kernel_rfl) (of_decide_eq_true (by kernel_rfl)) k0 bel lt0) trodAll_mk0),rfl,bel.frame _,fun h=>by cases h⟩
theorem inP:(Rows.fnInInvitedRow.inPlace == Tryz.prog.inPlace 4)=true:=by kernel_rfl
theorem unf:(Rows.fnInInvitedRow.unfollowed == Tryz.prog.unfollowed 4)=true:=by kernel_rfl
theorem rcs:(Rows.fnInInvitedRow.recurses == Tryz.prog.recurses 4)=true:=by kernel_rfl
theorem nam:(Rows.fnInInvitedRow.named == Tryz.prog.varsNamed 4)=true:=by kernel_rfl
theorem lif:(Rows.fnInInvitedRow.lifted == Tryz.prog.liftsFinal)=true:=lifF
theorem pke:(Rows.fnInInvitedRow.plainKeys == Tryz.prog.plainKeys)=true:=pkeF
theorem mak:(Tryz.prog.make == some Rows.fnInInvitedRow.make)=true:=makF
theorem closed0:joinedFacts Tryz.prog 4 Tryz.f4 Rows.fnInInvitedSpec Rows.fnInInvitedRow=true:=by
  unfold joinedFacts
  rw [laidOut,mapF,inP,unf,rcs,nam,pke,stoF,mayF,lif,mak]
  kernel_rfl
theorem closed:joinedFacts Tryz.pinned.checked.prog 4 Tryz.f4 (OpenSpec.ofChange Rows.fnInInvitedSpec).bare Rows.fnInInvitedRow=true :=
  (show joinedFacts Tryz.pinned.checked.prog 4 Tryz.f4 (OpenSpec.ofChange Rows.fnInInvitedSpec).bare Rows.fnInInvitedRow=joinedFacts Tryz.prog 4 Tryz.f4 Rows.fnInInvitedSpec Rows.fnInInvitedRow by kernel_rfl).trans closed0
theorem door_met (os:Os) (args:Array Value):laidMetH Tryz.prog Rows.fnInInvitedRow.laid ((World.doorLaid Tryz.prog 400 os).forCall (fun _ _=>0) ⟨#[],args,[]⟩).memory :=
  laidMetH_of_parts3 (fuel:=8) (laidMet_of_run' 8 (by kernel_rfl) (by kernel_rfl)) (by kernel_rfl) (by kernel_rfl)
theorem reads (os:Os) {H:Type} (enc:TypeId × Value→H):∃ places,DataW.whole enc Tryz.prog ((World.doorLaid Tryz.prog 400 os).forCall (fun _ _=>0) ⟨#[],#[.slice none 0 0],[]⟩).memory Tryz.f4.params.toList Rows.fnInInvitedSpec.vars false #[Value.slice none 0 0].toList 8=some ([.nil],[],places) :=
  ⟨[],by kernel_rfl⟩
set_option maxRecDepth 100000 in
theorem lifted (os:Os) (started:os.Started) (H:Type) (enc:TypeId × Value→H) (F:Stop.Interp) :
    ReturnsInHanded {} Tryz.checked os 4 .any ((OpenSpec.ofChange Rows.fnInInvitedSpec).preRow enc Tryz.prog Tryz.f4 Rows.fnInInvitedRow.domain false Rows.fnInInvitedRow.laid) (((OpenSpec.ofChange Rows.fnInInvitedSpec).at F).post enc Tryz.prog Tryz.f4 false true false false):=by
  obtain ⟨places,hx⟩:=reads os enc
  refine returnsInHanded_of_row (C:=Tryz.checked) (s:=OpenSpec.ofChange Rows.fnInInvitedSpec) own started (by kernel_rfl) Tryz.func4
    (witness_row_atRef (enc:=enc) (C:=Tryz.checked) false (World.doorLaid Tryz.prog 400 os) #[.slice none 0 0] rfl (by kernel_rfl) (by kernel_rfl) (by kernel_rfl)
      (OpenSpec.preRow_of_cond 8 hx (by kernel_rfl) (fun k hk=>by cases hk) (by kernel_rfl) (door_met os _))) ?_
  intro W base args ds gs before hval hW _ _ _ hL hs _
  exact contract H enc W base args ds gs before hval hW hL hs
theorem said:Rows.FnInInvitedSaid :=
  OpenClaim.holds_of_cond 4 Tryz.f4 rfl rfl rfl rfl rfl rfl rfl ⟨rfl,rfl,rfl,rfl,rfl⟩ rfl rfl rfl rfl rfl (by kernel_rfl) Tryz.func4 closed
    (of_decide_eq_true (by kernel_rfl)) (by unfold Func.isWrapper;first|(rw [if_pos (by decide +kernel)];kernel_rfl)|(rw [if_neg (by decide +kernel)];exact ⟨rfl,rfl⟩))
    (fun os started H enc _ F=>by rw [OpenClaim.pre_eq_preRow];exact lifted os started H enc F)
theorem plain (f:FuncId) (fn:Func) (hf:Tryz.pinned.checked.prog.funcNamed "loop.example/ostiary/laws.FnInInvited"=some f) (hfn:Tryz.pinned.checked.prog.funcs[f]?=some fn) :
    true=Tryz.pinned.checked.prog.looks []∧∀ (j:Nat) t,fn.params[j]?=some t→Tryz.pinned.checked.prog.wantsStandIn t=false:=by
  obtain rfl:f=4:=Option.some.inj ((show Tryz.prog.funcNamed "loop.example/ostiary/laws.FnInInvited"=some 4 by kernel_rfl).symm.trans hf) |>.symm
  obtain rfl:fn=Tryz.f4:=(Option.some.inj (Tryz.func4.symm.trans hfn)).symm
  refine ⟨by kernel_rfl,fun j t ht=>?_⟩
  rw [Tryz.params4] at ht
  obtain rfl:t=22:=by simpa using Array.mem_of_getElem? ht
  exact (show Tryz.prog.wantsStandIn 22=false by kernel_rfl)
theorem card:Rows.FnInInvitedCardSaid :=
  Claim7.holds_tied_plain_at .later [] _ _ _ _ said (fun _ h=>by cases h) (by kernel_rfl) (fun _ h=>by cases h) fnInInvited_row_tie rfl ⟨rfl,rfl⟩ (by kernel_rfl) rfl plain (by kernel_rfl)
end Go.Proofs.YtfepdcpidkjklaaGreatDoor.fnInInvited
