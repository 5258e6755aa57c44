/- FnWorldSay: what is said lies under way as it was said. Conditions: those of the row alone. -/
import Derived.Test.YtggifndkolojmaaGreatDoorX07
import Derived.Test.YtggifndkolojmaaGreatDoorX04
import Derived.Test.YtggifndkolojmaaGreatDoorCards
import Derived.Test.YtggifndkolojmaaGreatDoorTie
set_option linter.all false
namespace Go.Proofs.YtggifndkolojmaaGreatDoor.W
open Go Go.RowKit Go.Proofs Go.Proofs.YtggifndkolojmaaGreatDoor.VL Go.Proofs.YtggifndkolojmaaGreatDoor.M
attribute [local congr] optK_congr guardK_congr condK_congr runT_congr runD_congr wpI_congr CallV_congr LoopI_congr pureK_congr effK_congr calK_congr stepV_congr doV_congr exN_congr exB_congr retF_congr retQ_congr gK_congr condW_congr ldK_congr stoK_congr
attribute [local go_sem] argL_cons argL_nil argH_nil argH_cons chH_getH wpI_seq wpI_reg wpI_drw wpI_ret cond_k condW_t condW_f wpI_skip wpI_block wpI_exit wpI_loop exN_n exN_r exN_e exB_n exB_r exB_h exB_m runT_k kT_e runT_nil runD_k kD_e runD_nil step_u step_k gK_t gK_f do_mv do_bino bo_add bo_sub bo_mul bo_subu bo_quo bo_rem bo_xor bo_eql bo_neq bo_lss bo_leq bo_gtr bo_geq bo_cat bo_eqs bo_nes do_pick do_call do_cal calK_f do_box do_alloc do_ldk ldK_s do_stok stoK_s do_fad do_nilc do_not do_neg do_len do_lens do_ext do_eqs do_beq do_isn do_cvi do_sls do_idx do_mn do_mx do_build do_mkf do_s2b do_b2s do_slv do_iad do_bsl do_mks do_app ev_t ev_c app_some app_none
attribute [local go_sem] List.nil_append List.cons_append List.append_nil getL_hit getL_miss getH_nil getH_hit getH_miss nm_eq ne_eq Nat.reduceEqDiff not_false_eq_true Nat.reduceAdd Nat.add_zero Nat.zero_add if_true if_false ite_true ite_false pureK_s effK_s optK_s gdV_t gdV_f gdV_s pick_b ge_iff_le gt_iff_lt cond_true cond_false fresh_k cells_agg cells_int cells_bool cells_str cells_own cells_sl cells_nils ld_pv ld_pa ld_ip ldVar_t ldVar_f ldArr_t ldArr_f ldRow_t ldRow_f ldA_s ld1_s fad_pv fad_pa fad_ip nilc_pv nilc_pa nilc_ip not_b neg_i cvi_i ext_t retF_n retF_r
attribute [local go_sem] resV_k rvs_nil rvs_t rvs_c fstO_s consO_s resK_s resL_1 resL_2 resL_3 resL_4  Option.some.injEq List.map_cons List.map_nil List.all_cons List.all_nil Bool.and_true Bool.and_self Bool.not_true Bool.not_false Option.map_some Option.map_none sls_s slsG_s loV_n loV_i hiV_n hiV_i idx_s mn_i mx_i s2b_s b2s_s bytO_s bytes_nil bytes_cons conB_s slv_sl slv_own slv_nils slvG_s slvN_s slvO_s iad_sl iadG_map take_map drop_map List.length_map iad_own iad_view iadO_a iadW_a mks_i rowO_nils rowO_sl rowO_own rowA_a eq_self appG_nils appG_own appO_a guardP_T mapA_s bld_nil mkf_nil bldF_e fill_nil fill_cons mkf_e lens_s len_nils len_sl len_own len_view isn_nile isn_erre List.getElem?_cons_zero List.getElem?_cons_succ List.length_cons List.length_nil decide_true decide_false Int.toNat_natCast Int.cast_ofNat_Int Int.reduceLT Int.reduceLE Int.reduceEq Int.reduceAdd Int.reduceSub Int.reduceMul Int.reduceNeg Int.reduceToNat List.getD_cons_zero List.getD_cons_succ not_true_eq_false not_false_eq_true Bool.false_eq_true Bool.true_eq_false reduceCtorEq
attribute [local go_sem] E.row Pc.row Pair.row Part.row Strm.row Flw.row Pk.row Door.row Conv.row World.row Ev.row rdV E.eta Pc.eta Pair.eta Part.eta Strm.eta Pk.eta Flw.eta Conv.eta Door.eta World.eta Ev.eta
attribute [local go_sem] sub_ok st_pv st_pa stVar_v stArr_a Nat.le_refl List.drop_zero List.drop_succ_cons List.take_succ_cons List.take_zero setR Nat.reduceLeDiff
attribute [local go_sem] wk_bot wk2_bot wk1_bot wk_undef wk_tup_e wk2_agg_e wk_agg_e wk1_fn_e wk2_fn_e wk_fn_e wkl_nil wkl_cons wkh_var_e wkh_arr_e wkh_fresh_e wkh_dead_v wkh_dead_a wkh_dead_d wk0_undef wk0_int wk0_bool wk0_str wk0_nils wk0_nils_sl wk0_nilp wk0_nile wk0_erre wk0_sl wk0_iptr wk0_own wk0_view wk0_pv wk0_pa fzA_a fzW_a fzP_v wk0_own_sl wk0_view_sl wk0_pv_iptr WkS_nil WkS_cons WkN_nil WkN_cons nonB_nil nonB_cons getN_nil getN_hit getN_miss pinOk_0 pinOk_s and_true true_and and_self
attribute [local go_sem] bot_int one_int unt_int clo_int bot_bool one_bool unt_bool clo_bool bot_str one_str unt_str clo_str bot_nils one_nils unt_nils clo_nils bot_nilp one_nilp unt_nilp clo_nilp bot_nile one_nile unt_nile clo_nile bot_erre one_erre unt_erre clo_erre bot_raw one_raw unt_raw clo_raw bot_sl one_sl unt_sl clo_sl bot_own one_own unt_own clo_own bot_view one_view unt_view clo_view bot_pv one_pv unt_pv clo_pv bot_pa one_pa unt_pa clo_pa bot_iptr one_iptr unt_iptr clo_iptr unt_agg unt_fn one_fn
attribute [local go_sem] rn_tup rn_agg rn2_agg rn_fn rn2_fn rnfn1 rn_bot rn2_bot rn1_bot rn0_int rn0_bool rn0_str rn0_nils rn0_nilp rn0_nile rn0_erre rn0_sl rn0_iptr rn0_own rn0_view rn0_pv rn0_pa hrn_var hrn_arr hrn_dead outU_nil outU_cons deads_nil deads_cons bk_ge bk_lt nsF_0 nsF_s chH_0 chH_s chH_n newN_e andB_s eqR_nil eqR_i eqR_b eqR_s mapX_f mapX_t eqs_a beq_f beq_t live_arr live_var nsl_nil nsl_cons Nat.reduceMul Nat.reduceLT Nat.zero_le Nat.not_lt_zero
attribute [local go_sem] mV lD lA fD bN eX oP nP sR i0 s0
def ic8:IC:=sR [oP 2 (.mv (.c (.bool false)))] (.seq (sR [mV 12 0,oP 13 (.len (.t 12)),oP 14 (.bin .gtr (.t 13) (.c (.int .i64 1048576)))] (.cond (.t 14) (sR [oP 2 (.mv (.c (.bool true)))] .ret) .skip)) (sR [mV 16 0,oP 17 (.call 19 [.t 16]),mV 15 17,eX 18 15 0,eX 19 15 1,oP 3 (.alloc 33 [.nils,.nils,.nils,.nils]),oP 4 (.alloc 56 [i0,i0,i0,i0,i0,i0,i0,i0,i0,i0,s0]),nP (.sto 4 (.t 3) (.t 18)),nP (.sto 11 (.t 4) (.t 19))] (sR [lA 20 4 3,lA 21 11 4,oP 22 (.call 20 [.t 20,.t 21]),oP 5 (.alloc 33 [.nils,.nils,.nils,.nils]),nP (.sto 4 (.t 5) (.t 22))] (.seq (.seq (.drw [0,0,0,6,15,31,63,127,255,511,1023,2047,4095,8191,16383,32767,65535,131071,262143,524287,1048575,2097151,4194303,8388607,16777215,33554431,67108863,134217727,268435455,134217727,671088639,1744830463,4294967295,8589934591] [(0,lA 23 4 5),(1,lA 24 4 3),(2,lA 25 11 4),(3,oP 26 (.call 21 [.t 24,.t 25])),(4,oP 27 (.call 13 [.t 23,.t 26])),(5,oP 28 (.un .not (.t 27))),(6,mV 29 28),(7,⟨some 30,some (29,false),.ld 4 true (.t 3)⟩),(8,⟨some 31,some (29,false),.call 22 [.t 30]⟩),(9,⟨some 32,some (29,false),.un .not (.t 31)⟩),(10,oP 33 (.pick (.t 29) (.c (.bool true)) (.t 32))),(11,mV 34 33),(12,⟨some 35,some (34,false),.fad 0 (.t 4)⟩),(13,⟨some 36,some (34,false),.ld 1 false (.t 35)⟩),(14,⟨some 37,some (34,false),.bin .neq (.t 36) (.c (.int .i64 1))⟩),(15,⟨some 38,some (34,false),.mv (.t 37)⟩),(16,⟨some 39,some (38,true),.fad 0 (.t 4)⟩),(17,⟨some 40,some (38,true),.ld 1 false (.t 39)⟩),(18,⟨some 41,some (38,true),.bin .neq (.t 40) (.c (.int .i64 2))⟩),(19,⟨some 42,some (34,false),.pick (.t 38) (.t 41) (.c (.bool false))⟩),(20,oP 43 (.pick (.t 34) (.c (.bool true)) (.t 42))),(21,mV 44 43),(22,⟨some 45,some (44,false),.fad 1 (.t 4)⟩),(23,⟨some 46,some (44,false),.ld 1 false (.t 45)⟩),(24,⟨some 47,some (44,false),.bin .lss (.t 46) (.c i0)⟩),(25,oP 48 (.pick (.t 44) (.c (.bool true)) (.t 47))),(26,mV 49 48),(27,⟨some 50,some (49,false),.fad 1 (.t 4)⟩),(28,⟨some 51,some (49,false),.ld 1 false (.t 50)⟩),(29,⟨some 52,some (49,false),.fad 0 (.t 3)⟩),(30,⟨some 53,some (49,false),.ld 1 false (.t 52)⟩),(31,⟨some 54,some (49,false),.len (.t 53)⟩),(32,⟨some 55,some (49,false),.bin .geq (.t 51) (.t 54)⟩),(33,oP 56 (.pick (.t 49) (.c (.bool true)) (.t 55)))]) (.cond (.t 56) (.seq (.drw [0,0,0,6,15,31] [(0,lA 57 4 5),(1,lA 58 4 3),(2,lA 59 11 4),(3,oP 60 (.call 21 [.t 58,.t 59])),(4,oP 61 (.call 13 [.t 57,.t 60])),(5,mV 2 61)]) .ret) .skip)) (sR [fD 62 0 3,lD 63 1 62,fD 64 1 4,lD 65 1 64,oP 66 (.iad 10 (.t 63) (.t 65)),lA 67 10 66,oP 6 (.alloc 41 [i0,i0,i0,i0,s0,s0,i0,i0,s0,s0]),nP (.sto 10 (.t 6) (.t 67))] (sR [oP 7 (.mv (.c i0))] (.seq (sR [oP 8 (.mv (.c i0))] (.block 0 (.loop (.seq (sR [mV 68 8,fD 69 1 3,fD 70 0 69,lD 71 1 70,oP 72 (.len (.t 71)),bN 73 .lss 68 72] (.cond (.t 73) .skip (.exit 0))) (.seq (.block 1 (.seq (.drw [0,1,3,0,15,31,63,0,128,511] [(0,fD 76 1 3),(1,fD 77 0 76),(2,lD 78 1 77),(3,mV 79 8),(4,oP 80 (.iad 3 (.t 78) (.t 79))),(5,fD 81 1 80),(6,lA 82 2 81),(7,fD 83 0 6),(8,lA 84 2 83),(9,oP 85 (.eqs false [.i,.i] (.t 82) (.t 84)))]) (.cond (.t 85) (.reg [fD 86 1 3,fD 87 0 86,lD 88 1 87,mV 89 8,oP 90 (.iad 3 (.t 88) (.t 89)),fD 91 0 90,lD 92 1 91,mV 7 92]) .skip))) (.reg [mV 74 8,oP 75 (.bin .add (.t 74) (.c (.int .i64 1))),mV 8 75])))))) (sR [lA 94 10 6,fD 95 0 4,lD 96 1 95,oP 97 (.bin .eql (.t 96) (.c (.int .i64 1))),mV 98 7,fD 99 2 4,lD 100 1 99,fD 101 3 4,lD 102 1 101,oP 103 (.call 26 [.t 94,.t 97,.t 98,.t 100,.t 102]),mV 93 103,eX 104 93 0,eX 105 93 1,oP 9 (.alloc 54 [i0,i0,i0,i0,i0,i0,s0]),nP (.sto 7 (.t 9) (.t 104)),mV 10 105] (sR [fD 106 3 3,lD 107 1 106,oP 108 (.len (.t 107)),mV 11 108] (.seq (sR [mV 109 10,oP 110 (.un .not (.t 109)),mV 111 110,⟨some 112,some (111,false),.mv (.t 11)⟩,⟨some 113,some (111,false),.bin .eql (.t 112) (.c (.int .i64 10))⟩,oP 114 (.pick (.t 111) (.c (.bool true)) (.t 113))] (.cond (.t 114) (sR [lA 115 4 5,lA 116 4 3,oP 117 (.call 13 [.t 115,.t 116]),mV 2 117] .ret) .skip)) (.seq (.drw [0,1,3,0,8,31,63,127,255,127,1023,2047,127,8191,16383,32767,65535,131071,65535,327679,1048575,2097151,4194303] [(0,fD 118 3 5),(1,lD 119 1 118),(2,oP 120 (.len (.t 119))),(3,mV 121 11),(4,oP 122 (.bin .add (.t 121) (.c (.int .i64 1)))),(5,bN 123 .eql 120 122),(6,mV 124 123),(7,⟨some 125,some (124,true),.fad 3 (.t 5)⟩),(8,⟨some 126,some (124,true),.ld 1 false (.t 125)⟩),(9,⟨some 127,some (124,true),.mv (.t 11)⟩),(10,⟨some 128,some (124,true),.iad 7 (.t 126) (.t 127)⟩),(11,⟨some 129,some (124,true),.ld 7 true (.t 128)⟩),(12,⟨some 130,some (124,true),.ld 7 true (.t 9)⟩),(13,⟨some 131,some (124,true),.eqs false [.i,.i,.i,.i,.i,.i,.s] (.t 129) (.t 130)⟩),(14,oP 132 (.pick (.t 124) (.t 131) (.c (.bool false)))),(15,mV 133 132),(16,⟨some 134,some (133,true),.fad 1 (.t 5)⟩),(17,⟨some 135,some (133,true),.ld 2 true (.t 134)⟩),(18,⟨some 136,some (133,true),.fad 1 (.t 3)⟩),(19,⟨some 137,some (133,true),.ld 2 true (.t 136)⟩),(20,⟨some 138,some (133,true),.call 25 [.t 135,.t 137]⟩),(21,oP 139 (.pick (.t 133) (.t 138) (.c (.bool false)))),(22,mV 2 139)]) .ret)))))))))))
theorem dg8:Dg Tryz.prog 8 Tryz.f8 ic8 [(.t 2)]:=⟨Tryz.func8,by kernel_rfl,by kernel_rfl⟩
set_option maxHeartbeats 2000000 in
theorem c8 (code:B):FnR Tryz.prog G 8 [.sl 1 (code.map byR)] (.bool true):=by
  refine mF dg8 Tryz.ntmps8 ?_
  simp only [ic8,go_sem]
  by_cases hc:(1048576:Int)<code.length
  · simp only [eq_true hc,go_sem]
  simp only [eq_false hc,go_sem]
  refine callO (c19 code (by omega)) [] 17 0 (by simp only [go_sem];first|done|simp) (by simp) (by rintro _ _ ⟨_,_,_,_,_,rfl⟩;simp) (by intro i hi;omega) ?_
  rintro _ _ ⟨w,e,⟨hd,hz⟩,het,rfl,rfl⟩
  simp only [go_sem]
  have hq:worldOk w=true→∃ X,WX X w:=fun h=>(hd.q h).imp fun X hx=>hx.x
  have f1:=r20 w e hz.s hq (by omega)
  have f2:=r21 w e hz.s hq (by omega)
  have f3:=c22 w hz.s
  have f4:=c13 (worldDo w e) (do_wb hd e)
  cases hok:worldOk w with
  | false =>
    rw [hok] at f3
    generalize worldDo w e=x at *
    with_reducible repeat' (first|refine br ?_ ?_<;>intro h e<;>(try simp only [e,go_sem])<;>clear e|rw [i64w (by omega)]|refine sd ?_<;>try simp only [go_sem]|(first|refine cr (f1 ..) ?_|refine cr (f2 ..) ?_|refine cr (f3 ..) ?_|refine cr (f4 ..) ?_)<;>try simp only [go_sem]|fail)
  | true =>
    rw [hok] at f3
    obtain ⟨X,hx⟩:=hd.q hok
    have hxd:=hx.do e
    rw [(worldDo_e w e).1 hok] at f1 f2 f4
    obtain ⟨x,hxe⟩:∃ x,x=wDo w e:=⟨_,rfl⟩
    rw [← hxe] at f1 f2 f4 hxd
    have hcl:=hx.x.cl
    have hnl:=hx.x.nl
    by_cases hk:e.kind=1∨e.kind=2
    rotate_left
    · have h1:¬ e.kind=1:=fun h=>hk (.inl h)
      have h2:¬ e.kind=2:=fun h=>hk (.inr h)
      with_reducible repeat' (first|refine br ?_ ?_<;>intro h e<;>(try simp only [e,go_sem,eq_false h1,eq_false h2])<;>clear e|rw [i64w (by omega)]|refine sd ?_<;>try simp only [go_sem,eq_false h1,eq_false h2]|(first|refine cr (f1 ..) ?_|refine cr (f2 ..) ?_|refine cr (f3 ..) ?_|refine cr (f4 ..) ?_)<;>try simp only [go_sem,eq_false h1,eq_false h2]|fail)
    by_cases ha0:e.a<0
    · rcases hk with hk|hk
      · with_reducible repeat' (first|refine br ?_ ?_<;>intro h e<;>(try simp only [e,go_sem,eq_true hk,eq_true ha0])<;>clear e|rw [i64w (by omega)]|refine sd ?_<;>try simp only [go_sem,eq_true hk,eq_true ha0]|(first|refine cr (f1 ..) ?_|refine cr (f2 ..) ?_|refine cr (f3 ..) ?_|refine cr (f4 ..) ?_)<;>try simp only [go_sem,eq_true hk,eq_true ha0]|fail)
      · have h1:¬ e.kind=1:=by omega
        with_reducible repeat' (first|refine br ?_ ?_<;>intro h e<;>(try simp only [e,go_sem,eq_false h1,eq_true hk,eq_true ha0])<;>clear e|rw [i64w (by omega)]|refine sd ?_<;>try simp only [go_sem,eq_false h1,eq_true hk,eq_true ha0]|(first|refine cr (f1 ..) ?_|refine cr (f2 ..) ?_|refine cr (f3 ..) ?_|refine cr (f4 ..) ?_)<;>try simp only [go_sem,eq_false h1,eq_true hk,eq_true ha0]|fail)
    by_cases ha1:(w.convs.length:Int)≤e.a
    · rcases hk with hk|hk
      · with_reducible repeat' (first|refine br ?_ ?_<;>intro h e<;>(try simp only [e,go_sem,eq_true hk,eq_false ha0,eq_true ha1])<;>clear e|rw [i64w (by omega)]|refine sd ?_<;>try simp only [go_sem,eq_true hk,eq_false ha0,eq_true ha1]|(first|refine cr (f1 ..) ?_|refine cr (f2 ..) ?_|refine cr (f3 ..) ?_|refine cr (f4 ..) ?_)<;>try simp only [go_sem,eq_true hk,eq_false ha0,eq_true ha1]|fail)
      · have h1:¬ e.kind=1:=by omega
        with_reducible repeat' (first|refine br ?_ ?_<;>intro h e<;>(try simp only [e,go_sem,eq_false h1,eq_true hk,eq_false ha0,eq_true ha1])<;>clear e|rw [i64w (by omega)]|refine sd ?_<;>try simp only [go_sem,eq_false h1,eq_true hk,eq_false ha0,eq_true ha1]|(first|refine cr (f1 ..) ?_|refine cr (f2 ..) ?_|refine cr (f3 ..) ?_|refine cr (f4 ..) ?_)<;>try simp only [go_sem,eq_false h1,eq_true hk,eq_false ha0,eq_true ha1]|fail)
    have hil:e.a.toNat<w.convs.length:=by omega
    have hg:w.convs.getD e.a.toNat default=w.convs[e.a.toNat]:=by simp [List.getD,hil]
    obtain ⟨l1,l2⟩:=law_say (w:=w) hk ⟨by omega,by omega⟩ (List.getElem?_eq_getElem hil)
    rw [← hxe] at l1 l2
    have hcv:=hx.x.cv _ (List.getElem_mem hil)
    have hmk:=(doorOk_iff.1 hx.x.door).1
    have hml:=wx_map hx.x
    have fd:=lzD hx.x
    have fz:=c13 w (wx_wb hx.x)
    clear hxe hq
    generalize w.convs[e.a.toNat]=c at *
    rcases hk with hk|hk
    · have:=0
      have fs:=c26 c (decide (e.kind=1)) (portOf w.door.map c.ins) e.b e.c hcv
      with_reducible repeat' (first|refine br ?_ ?_<;>intro h e<;>(try simp only [e,go_sem,eq_true hk,eq_false ha0,eq_false ha1,hg,getD_mp hil])<;>clear e|rw [i64w (by omega)]|refine sd ?_<;>try simp only [go_sem,eq_true hk,eq_false ha0,eq_false ha1,hg,getD_mp hil]|(first|refine cr (f1 ..) ?_|refine cr (f2 ..) ?_|refine cr (f3 ..) ?_|refine cr (f4 ..) ?_)<;>try simp only [go_sem,eq_true hk,eq_false ha0,eq_false ha1,hg,getD_mp hil]|fail)
      refine loopN (fun a:Nat × Int=>⟨getL [(3,.pv 1003 0),(4,.pv 1004 0),(5,.pv 1005 0),(6,.pv 1006 0),(7,.int .i64 a.2),(8,.int .i64 (a.1:Int))],getH [(1003,.var 33 [.sl 10 (w.convs.map Conv.row),.sl 3 (w.door.map.map Pair.row),.sl 8 (w.door.flows.map Flw.row),.sl 7 (w.nets.map Pk.row)]),(1004,.var 56 (Ev.row e)),(1005,.var 33 [.sl 10 (x.convs.map Conv.row),.sl 3 (x.door.map.map Pair.row),.sl 8 (x.door.flows.map Flw.row),.sl 7 (x.nets.map Pk.row)]),(1006,.var 41 (Conv.row c))]⟩) (fun a=>w.door.map.length - a.1) (fun a=>a.1≤w.door.map.length∧a.2=portOf (w.door.map.take a.1) c.ins) (0,0) (leQ []) ⟨Nat.zero_le _,rfl⟩ ?_
      intro ⟨i,q⟩ ⟨hi,hqp⟩
      simp only at hi hqp
      simp only [go_sem]
      by_cases h:(i:Int)<w.door.map.length
      · have hil2:i<w.door.map.length:=by omega
        have hg2:w.door.map.getD i default=w.door.map[i]:=by simp [List.getD,hil2]
        have hps:=port_step hmk hil2 c.ins
        generalize w.door.map[i]=p at *
        simp only [eq_true h,go_sem]
        by_cases hp:p.ins=c.ins
        · rw [if_pos hp] at hps
          with_reducible repeat' (first|rw [i64w (by omega)];try simp only [go_sem,hg2,getD_mp hil2,eq_true hp,E.ext_iff']|refine br ?_ ?_<;>intro h e<;>(try simp only [e,go_sem,hg2,getD_mp hil2,eq_true hp,E.ext_iff'])<;>clear e|refine sd ?_<;>try simp only [go_sem,hg2,getD_mp hil2,eq_true hp,E.ext_iff']|fail)
          all_goals first
            | exact ⟨(i+1,p.port),by simp only;omega,⟨by simp only;omega,hps.symm⟩,(leQ [])⟩
            | trace_state
        · rw [if_neg hp,← hqp] at hps
          with_reducible repeat' (first|rw [i64w (by omega)];try simp only [go_sem,hg2,getD_mp hil2,eq_false hp,E.ext_iff']|refine br ?_ ?_<;>intro h e<;>(try simp only [e,go_sem,hg2,getD_mp hil2,eq_false hp,E.ext_iff'])<;>clear e|refine sd ?_<;>try simp only [go_sem,hg2,getD_mp hil2,eq_false hp,E.ext_iff']|fail)
          all_goals first
            | exact ⟨(i+1,q),by simp only;omega,⟨by simp only;omega,hps.symm⟩,(leQ [])⟩
            | trace_state
      · simp only [eq_false h,go_sem]
        obtain rfl:i=w.door.map.length:=by omega
        rw [List.take_length] at hqp
        subst hqp
        cases ho:say c (decide (e.kind=1)) (portOf w.door.map c.ins) e.b e.c with
        | none =>
          obtain rfl:x=w:=l2 (.inl ho)
          rw [ho] at fs
          simp only [Option.isSome_none,Option.getD_none] at fs
          with_reducible repeat' (first|refine br ?_ ?_<;>intro h e<;>(try simp only [e,go_sem])<;>clear e|rw [i64w (by omega)]|refine sd ?_<;>try simp only [go_sem]|(first|refine cr (fs ..) ?_|refine cr (fz ..) ?_)<;>try simp only [go_sem]|fail)
        | some p =>
          rw [ho] at fs
          simp only [Option.isSome_some,Option.getD_some] at fs
          by_cases hn10:(w.nets.length:Int)=10
          · obtain rfl:x=w:=l2 (.inr (by omega))
            with_reducible repeat' (first|refine br ?_ ?_<;>intro h e<;>(try simp only [e,go_sem,eq_true hn10])<;>clear e|rw [i64w (by omega)]|refine sd ?_<;>try simp only [go_sem,eq_true hn10]|(first|refine cr (fs ..) ?_|refine cr (fz ..) ?_)<;>try simp only [go_sem,eq_true hn10]|fail)
          · have hxw:=l1 p ho (by omega)
            have hxl:(x.nets.length:Int)=w.nets.length+1:=by rw [hxw];simp
            have hxg:x.nets.getD w.nets.length default=p:=by rw [hxw];simp [List.getD]
            have hxm:w.nets.length<x.nets.length:=by omega
            have hdo:x.door=w.door:=by rw [hxw]
            clear l1 l2 hxw
            with_reducible repeat' (first|rw [i64w (by omega)];try simp only [go_sem,eq_false hn10,hxl,hxg,getD_mp hxm,hdo,E.ext_iff']|refine br ?_ ?_<;>intro h e<;>(try simp only [e,go_sem,eq_false hn10,hxl,hxg,getD_mp hxm,hdo,E.ext_iff'])<;>clear e|refine sd ?_<;>try simp only [go_sem,eq_false hn10,hxl,hxg,getD_mp hxm,hdo,E.ext_iff']|(first|refine cr (fs ..) ?_|refine cr (fd ..) ?_)<;>try simp only [go_sem,eq_false hn10,hxl,hxg,getD_mp hxm,hdo,E.ext_iff']|fail)
            all_goals first|done|trace_state
    · have h1:¬ e.kind=1:=by omega
      have fs:=c26 c (decide (e.kind=1)) (portOf w.door.map c.ins) e.b e.c hcv
      with_reducible repeat' (first|refine br ?_ ?_<;>intro h e<;>(try simp only [e,go_sem,eq_false h1,eq_true hk,eq_false ha0,eq_false ha1,hg,getD_mp hil])<;>clear e|rw [i64w (by omega)]|refine sd ?_<;>try simp only [go_sem,eq_false h1,eq_true hk,eq_false ha0,eq_false ha1,hg,getD_mp hil]|(first|refine cr (f1 ..) ?_|refine cr (f2 ..) ?_|refine cr (f3 ..) ?_|refine cr (f4 ..) ?_)<;>try simp only [go_sem,eq_false h1,eq_true hk,eq_false ha0,eq_false ha1,hg,getD_mp hil]|fail)
      refine loopN (fun a:Nat × Int=>⟨getL [(3,.pv 1003 0),(4,.pv 1004 0),(5,.pv 1005 0),(6,.pv 1006 0),(7,.int .i64 a.2),(8,.int .i64 (a.1:Int))],getH [(1003,.var 33 [.sl 10 (w.convs.map Conv.row),.sl 3 (w.door.map.map Pair.row),.sl 8 (w.door.flows.map Flw.row),.sl 7 (w.nets.map Pk.row)]),(1004,.var 56 (Ev.row e)),(1005,.var 33 [.sl 10 (x.convs.map Conv.row),.sl 3 (x.door.map.map Pair.row),.sl 8 (x.door.flows.map Flw.row),.sl 7 (x.nets.map Pk.row)]),(1006,.var 41 (Conv.row c))]⟩) (fun a=>w.door.map.length - a.1) (fun a=>a.1≤w.door.map.length∧a.2=portOf (w.door.map.take a.1) c.ins) (0,0) (leQ []) ⟨Nat.zero_le _,rfl⟩ ?_
      intro ⟨i,q⟩ ⟨hi,hqp⟩
      simp only at hi hqp
      simp only [go_sem]
      by_cases h:(i:Int)<w.door.map.length
      · have hil2:i<w.door.map.length:=by omega
        have hg2:w.door.map.getD i default=w.door.map[i]:=by simp [List.getD,hil2]
        have hps:=port_step hmk hil2 c.ins
        generalize w.door.map[i]=p at *
        simp only [eq_true h,go_sem]
        by_cases hp:p.ins=c.ins
        · rw [if_pos hp] at hps
          with_reducible repeat' (first|rw [i64w (by omega)];try simp only [go_sem,hg2,getD_mp hil2,eq_true hp,E.ext_iff']|refine br ?_ ?_<;>intro h e<;>(try simp only [e,go_sem,hg2,getD_mp hil2,eq_true hp,E.ext_iff'])<;>clear e|refine sd ?_<;>try simp only [go_sem,hg2,getD_mp hil2,eq_true hp,E.ext_iff']|fail)
          all_goals first
            | exact ⟨(i+1,p.port),by simp only;omega,⟨by simp only;omega,hps.symm⟩,(leQ [])⟩
            | trace_state
        · rw [if_neg hp,← hqp] at hps
          with_reducible repeat' (first|rw [i64w (by omega)];try simp only [go_sem,hg2,getD_mp hil2,eq_false hp,E.ext_iff']|refine br ?_ ?_<;>intro h e<;>(try simp only [e,go_sem,hg2,getD_mp hil2,eq_false hp,E.ext_iff'])<;>clear e|refine sd ?_<;>try simp only [go_sem,hg2,getD_mp hil2,eq_false hp,E.ext_iff']|fail)
          all_goals first
            | exact ⟨(i+1,q),by simp only;omega,⟨by simp only;omega,hps.symm⟩,(leQ [])⟩
            | trace_state
      · simp only [eq_false h,go_sem]
        obtain rfl:i=w.door.map.length:=by omega
        rw [List.take_length] at hqp
        subst hqp
        cases ho:say c (decide (e.kind=1)) (portOf w.door.map c.ins) e.b e.c with
        | none =>
          obtain rfl:x=w:=l2 (.inl ho)
          rw [ho] at fs
          simp only [Option.isSome_none,Option.getD_none] at fs
          with_reducible repeat' (first|refine br ?_ ?_<;>intro h e<;>(try simp only [e,go_sem])<;>clear e|rw [i64w (by omega)]|refine sd ?_<;>try simp only [go_sem]|(first|refine cr (fs ..) ?_|refine cr (fz ..) ?_)<;>try simp only [go_sem]|fail)
        | some p =>
          rw [ho] at fs
          simp only [Option.isSome_some,Option.getD_some] at fs
          by_cases hn10:(w.nets.length:Int)=10
          · obtain rfl:x=w:=l2 (.inr (by omega))
            with_reducible repeat' (first|refine br ?_ ?_<;>intro h e<;>(try simp only [e,go_sem,eq_true hn10])<;>clear e|rw [i64w (by omega)]|refine sd ?_<;>try simp only [go_sem,eq_true hn10]|(first|refine cr (fs ..) ?_|refine cr (fz ..) ?_)<;>try simp only [go_sem,eq_true hn10]|fail)
          · have hxw:=l1 p ho (by omega)
            have hxl:(x.nets.length:Int)=w.nets.length+1:=by rw [hxw];simp
            have hxg:x.nets.getD w.nets.length default=p:=by rw [hxw];simp [List.getD]
            have hxm:w.nets.length<x.nets.length:=by omega
            have hdo:x.door=w.door:=by rw [hxw]
            clear l1 l2 hxw
            with_reducible repeat' (first|rw [i64w (by omega)];try simp only [go_sem,eq_false hn10,hxl,hxg,getD_mp hxm,hdo,E.ext_iff']|refine br ?_ ?_<;>intro h e<;>(try simp only [e,go_sem,eq_false hn10,hxl,hxg,getD_mp hxm,hdo,E.ext_iff'])<;>clear e|refine sd ?_<;>try simp only [go_sem,eq_false hn10,hxl,hxg,getD_mp hxm,hdo,E.ext_iff']|(first|refine cr (fs ..) ?_|refine cr (fd ..) ?_)<;>try simp only [go_sem,eq_false hn10,hxl,hxg,getD_mp hxm,hdo,E.ext_iff']|fail)
            all_goals first|done|trace_state
end Go.Proofs.YtggifndkolojmaaGreatDoor.W
namespace Go.Proofs.YtggifndkolojmaaGreatDoor.fnWorldSay
open Go Go.ChangeShapes Go.WideShapes Go.ChangeAt Go.RowKit Go.Proofs.YtggifndkolojmaaGreatDoor.W
theorem walk (v0:Value) (W:World) (hs:W.ShapedOpen Tryz.prog) (hL:laidMetH Tryz.prog Rows.fnWorldSayRow.laid W) (hv0:∃ code:M.B,VL.Den W noO noρ noH (.sl 1 (code.map M.byR)) v0) :
    Calls Tryz.prog 8 #[v0] W fun e W'=>e=.returned (.bool true)∧Below W.heap.size W W':=by
  obtain ⟨code,hdv0⟩:=hv0
  have:=Go.Proofs.YtggifndkolojmaaGreatDoor.W.FnR.calls (c8 code) (us:=[v0]) (gOk rfl hL hs) ⟨rfl,fun j a b ha hb=>by
    match j,ha,hb with
    | 0,ha,hb=>cases ha;cases hb;exact hdv0
    | j+1,ha,hb=>simp at ha⟩
  exact this
set_option maxRecDepth 100000 in
theorem contract (H:Type) (enc:TypeId × Value→H) (W:World) (base:Nat) (args:Array Value) (ds gs:List (DataW H)) (before:List MemPlace)
    (hval:∀ (j:Nat) t v,Tryz.f8.params[j]?=some t→args[j]?=some v→Value.okWide Tryz.prog W .any base t v)
    (hW:DataW.Whole enc Tryz.prog Tryz.f8.params.toList Rows.fnWorldSaySpec.vars false W args.toList ds gs before) (hL:laidMetH Tryz.prog Rows.fnWorldSayRow.laid W) (hs:W.ShapedOpen Tryz.prog) :
    Calls Tryz.prog 8 args W fun e W'=>∃ v,e=.returned v∧Rows.fnWorldSaySpec.post enc Tryz.prog Tryz.f8 false true false false W args v W':=by
  have hW':=hW
  obtain ⟨p,q,hA0,hV,rfl,hfz,hnd⟩:=hW
  have hA:DataW.TrodAll enc Tryz.prog W 0 (fun _=>true) true Tryz.f8.params.toList args.toList ds p:=hA0
  rw [Tryz.params8] at hA hval
  obtain ⟨v0,r0s,d0,d0s,p0,q0,hargs0,rfl,rfl,h0,r0⟩:=trodAll_cons hA
  obtain ⟨e1,e2,e3⟩:=trodAll_nil r0
  subst e1 e2 e3
  obtain rfl:args=#[v0]:=by cases args;simp_all
  obtain ⟨rfl,rfl⟩:=trodVars_none hV
  obtain ⟨a0,len0,cap0,hv0⟩:=okWide_slice Tryz.underlying22 (hval 0 22 v0 rfl rfl)
  have k0:=h0
  have lt0:∀ x∈p0,x.block<W.heap.size:=by obtain ⟨m,hm⟩:=k0;exact DataW.trod_lt m _ _ _ hm
  have hc0:=open_code h0 ⟨a0,len0,cap0,hv0⟩
  clear hA0
  refine (walk v0 W hs hL hc0).mono fun e W' ⟨he,bel⟩=>?_
  subst he
  exact ⟨_,rfl,_,_,_,[],_,[],hW',trodAll_mk1 (shut_bool Tryz.underlying4 _),(trodAll_cons_mk (Below.trod laidOut (by kernel_rfl) (of_decide_eq_true (by kernel_rfl)) k0 bel lt0) trodAll_mk0),rfl,bel.frame _,fun h=>by cases h⟩
theorem inP:(Rows.fnWorldSayRow.inPlace == Tryz.prog.inPlace 8)=true:=by kernel_rfl
theorem unf:(Rows.fnWorldSayRow.unfollowed == Tryz.prog.unfollowed 8)=true:=by kernel_rfl
theorem rcs:(Rows.fnWorldSayRow.recurses == Tryz.prog.recurses 8)=true:=by kernel_rfl
theorem nam:(Rows.fnWorldSayRow.named == Tryz.prog.varsNamed 8)=true:=by kernel_rfl
theorem lif:(Rows.fnWorldSayRow.lifted == Tryz.prog.liftsFinal)=true:=lifF
theorem pke:(Rows.fnWorldSayRow.plainKeys == Tryz.prog.plainKeys)=true:=pkeF
theorem mak:(Tryz.prog.make == some Rows.fnWorldSayRow.make)=true:=makF
theorem closed0:joinedFacts Tryz.prog 8 Tryz.f8 Rows.fnWorldSaySpec Rows.fnWorldSayRow=true:=by
  unfold joinedFacts
  rw [laidOut,mapF,inP,unf,rcs,nam,pke,stoF,mayF,lif,mak]
  kernel_rfl
theorem closed:joinedFacts Tryz.pinned.checked.prog 8 Tryz.f8 (OpenSpec.ofChange Rows.fnWorldSaySpec).bare Rows.fnWorldSayRow=true :=
  (show joinedFacts Tryz.pinned.checked.prog 8 Tryz.f8 (OpenSpec.ofChange Rows.fnWorldSaySpec).bare Rows.fnWorldSayRow=joinedFacts Tryz.prog 8 Tryz.f8 Rows.fnWorldSaySpec Rows.fnWorldSayRow by kernel_rfl).trans closed0
theorem door_met (os:Os) (args:Array Value):laidMetH Tryz.prog Rows.fnWorldSayRow.laid ((World.doorLaid Tryz.prog 400 os).forCall (fun _ _=>0) ⟨#[],args,[]⟩).memory :=
  laidMetH_of_parts3 (fuel:=8) (laidMet_of_run' 8 (by kernel_rfl) (by kernel_rfl)) (by kernel_rfl) (by kernel_rfl)
theorem reads (os:Os) {H:Type} (enc:TypeId × Value→H):∃ places,DataW.whole enc Tryz.prog ((World.doorLaid Tryz.prog 400 os).forCall (fun _ _=>0) ⟨#[],#[.slice none 0 0],[]⟩).memory Tryz.f8.params.toList Rows.fnWorldSaySpec.vars false #[Value.slice none 0 0].toList 8=some ([.nil],[],places) :=
  ⟨[],by kernel_rfl⟩
set_option maxRecDepth 100000 in
theorem lifted (os:Os) (started:os.Started) (H:Type) (enc:TypeId × Value→H) (F:Stop.Interp) :
    ReturnsInHanded {} Tryz.checked os 8 .any ((OpenSpec.ofChange Rows.fnWorldSaySpec).preRow enc Tryz.prog Tryz.f8 Rows.fnWorldSayRow.domain false Rows.fnWorldSayRow.laid) (((OpenSpec.ofChange Rows.fnWorldSaySpec).at F).post enc Tryz.prog Tryz.f8 false true false false):=by
  obtain ⟨places,hx⟩:=reads os enc
  refine returnsInHanded_of_row (C:=Tryz.checked) (s:=OpenSpec.ofChange Rows.fnWorldSaySpec) own started (by kernel_rfl) Tryz.func8
    (witness_row_atRef (enc:=enc) (C:=Tryz.checked) false (World.doorLaid Tryz.prog 400 os) #[.slice none 0 0] rfl (by kernel_rfl) (by kernel_rfl) (by kernel_rfl)
      (OpenSpec.preRow_of_cond 8 hx (by kernel_rfl) (fun k hk=>by cases hk) (by kernel_rfl) (door_met os _))) ?_
  intro W base args ds gs before hval hW _ _ _ hL hs _
  exact contract H enc W base args ds gs before hval hW hL hs
theorem said:Rows.FnWorldSaySaid :=
  OpenClaim.holds_of_cond 8 Tryz.f8 rfl rfl rfl rfl rfl rfl rfl ⟨rfl,rfl,rfl,rfl,rfl⟩ rfl rfl rfl rfl rfl (by kernel_rfl) Tryz.func8 closed
    (of_decide_eq_true (by kernel_rfl)) (by unfold Func.isWrapper;first|(rw [if_pos (by decide +kernel)];kernel_rfl)|(rw [if_neg (by decide +kernel)];exact ⟨rfl,rfl⟩))
    (fun os started H enc _ F=>by rw [OpenClaim.pre_eq_preRow];exact lifted os started H enc F)
theorem plain (f:FuncId) (fn:Func) (hf:Tryz.pinned.checked.prog.funcNamed "loop.example/ostiary/laws.FnWorldSay"=some f) (hfn:Tryz.pinned.checked.prog.funcs[f]?=some fn) :
    true=Tryz.pinned.checked.prog.looks []∧∀ (j:Nat) t,fn.params[j]?=some t→Tryz.pinned.checked.prog.wantsStandIn t=false:=by
  obtain rfl:f=8:=Option.some.inj ((show Tryz.prog.funcNamed "loop.example/ostiary/laws.FnWorldSay"=some 8 by kernel_rfl).symm.trans hf) |>.symm
  obtain rfl:fn=Tryz.f8:=(Option.some.inj (Tryz.func8.symm.trans hfn)).symm
  refine ⟨by kernel_rfl,fun j t ht=>?_⟩
  rw [Tryz.params8] at ht
  obtain rfl:t=22:=by simpa using Array.mem_of_getElem? ht
  exact (show Tryz.prog.wantsStandIn 22=false by kernel_rfl)
theorem card:Rows.FnWorldSayCardSaid :=
  Claim7.holds_tied_plain_at .later [] _ _ _ _ said (fun _ h=>by cases h) (by kernel_rfl) (fun _ h=>by cases h) fnWorldSay_row_tie rfl ⟨rfl,rfl⟩ (by kernel_rfl) rfl plain (by kernel_rfl)
end Go.Proofs.YtggifndkolojmaaGreatDoor.fnWorldSay
